/- Part of a proof that the program answers as the reference does: ZGS2. -/
import Derived.Test.YtipmjpjaklmpfaaGreatDoorHT
set_option linter.unusedVariables false
set_option maxRecDepth 100000
namespace Go.H.Tryz
open Go Go.H
def b_slices_Clip_impl_Tree_impl_Tree (a0 : PV) (st : St) (R : Res → St → Prop) : Prop :=
 qb (q_len a0) fun v5 =>
 qb (q_len a0) fun v7 =>
 qb (q_sliceE 4 a0 none (some v5) (some v7)) fun v8 =>
 retR R v8 st
theorem c_slices_Clip_impl_Tree_impl_Tree {a0 : PV} {st : St} {R : Res → St → Prop} (h : b_slices_Clip_impl_Tree_impl_Tree a0 st R) : HCalls prog n_slices_Clip_impl_Tree_impl_Tree [a0] st R :=
 hcalls_of_func tyOK mixed (fn := Go.Proofs.Tryz.f43) (by kernel_rfl) (by kernel_rfl) (by kernel_rfl) (ann := [])
  (show hFunc prog TT [] Go.Proofs.Tryz.f43 [a0] st R from (show hFunc prog TT [] Go.Proofs.Tryz.f43 [a0] st R = b_slices_Clip_impl_Tree_impl_Tree a0 st R by kernel_rfl) ▸ h)
def b_spec_l03Some (st : St) (R : Res → St → Prop) : Prop :=
 callK prog n_spec_l01Base [(.str [110, 97, 116])] st (fun v3 st =>
 e_alloc st [.int .i64 0, .int .i64 0, .str [], .sl 0 true []] fun v1 st =>
 e_store st 4 v1 v3 fun st =>
 callK prog n_spec_l01Base [(.str [111])] st (fun v4 st =>
 e_alloc st [.int .i64 0, .int .i64 0, .str [], .sl 0 true []] fun v2 st =>
 e_store st 4 v2 v4 fun st =>
 qb (q_load st true 4 v1) fun v5 =>
 qb (q_struct [.str [], .int .i64 0, .int .i64 0, .str [], .sl 0 true []] [(0, 1, (.str [122])), (1, 4, v5)]) fun v6 =>
 qb (q_load st true 4 v1) fun v7 =>
 qb (q_load st true 4 v1) fun v8 =>
 qb (q_load st true 4 v1) fun v11 =>
 qb (q_load st true 4 v2) fun v12 =>
 qb (q_load st true 4 v2) fun v13 =>
 qb (q_load st true 4 v2) fun v17 =>
 qb (q_struct [.str [], .int .i64 0, .int .i64 0, .str [], .sl 0 true []] [(0, 1, (.str [97])), (1, 4, v17)]) fun v18 =>
 qb (q_load st true 4 v1) fun v19 =>
 qb (q_load st true 4 v2) fun v20 =>
 qb (q_load st true 4 v2) fun v22 =>
 qb (q_load st true 4 v1) fun v25 =>
 qb (q_load st true 4 v1) fun v26 =>
 qb (q_load st true 4 v1) fun v28 =>
 qb (q_load st true 4 v1) fun v29 =>
 callK prog n_spec_l01Arrow [v7, v8] st (fun v9 st =>
 q_load st true 4 v1 = some v29 ∧ q_load st true 4 v1 = some v28 ∧ q_load st true 4 v1 = some v26 ∧ q_load st true 4 v1 = some v25 ∧ q_load st true 4 v2 = some v22 ∧ q_load st true 4 v2 = some v20 ∧ q_load st true 4 v1 = some v19 ∧ q_load st true 4 v2 = some v17 ∧ q_load st true 4 v2 = some v13 ∧ q_load st true 4 v2 = some v12 ∧ q_load st true 4 v1 = some v11 ∧ q_load st true 4 v1 = some v5 ∧ (qb (q_struct [.str [], .int .i64 0, .int .i64 0, .str [], .sl 0 true []] [(0, 1, (.str [115])), (1, 4, v9)]) fun v10 =>
 callK prog n_spec_l01Arrow [v12, v13] st (fun v14 st =>
 q_load st true 4 v1 = some v29 ∧ q_load st true 4 v1 = some v28 ∧ q_load st true 4 v1 = some v26 ∧ q_load st true 4 v1 = some v25 ∧ q_load st true 4 v2 = some v22 ∧ q_load st true 4 v2 = some v20 ∧ q_load st true 4 v1 = some v19 ∧ q_load st true 4 v2 = some v17 ∧ q_load st true 4 v1 = some v11 ∧ q_load st true 4 v1 = some v5 ∧ (callK prog n_spec_l01Arrow [v11, v14] st (fun v15 st =>
 q_load st true 4 v1 = some v29 ∧ q_load st true 4 v1 = some v28 ∧ q_load st true 4 v1 = some v26 ∧ q_load st true 4 v1 = some v25 ∧ q_load st true 4 v2 = some v22 ∧ q_load st true 4 v2 = some v20 ∧ q_load st true 4 v1 = some v19 ∧ q_load st true 4 v2 = some v17 ∧ q_load st true 4 v1 = some v5 ∧ (qb (q_struct [.str [], .int .i64 0, .int .i64 0, .str [], .sl 0 true []] [(0, 1, (.str [99])), (1, 4, v15)]) fun v16 =>
 callK prog n_spec_l01Arrow [v19, v20] st (fun v21 st =>
 q_load st true 4 v1 = some v29 ∧ q_load st true 4 v1 = some v28 ∧ q_load st true 4 v1 = some v26 ∧ q_load st true 4 v1 = some v25 ∧ q_load st true 4 v2 = some v22 ∧ q_load st true 4 v2 = some v17 ∧ q_load st true 4 v1 = some v5 ∧ (callK prog n_spec_l01Arrow [v21, v22] st (fun v23 st =>
 q_load st true 4 v1 = some v29 ∧ q_load st true 4 v1 = some v28 ∧ q_load st true 4 v1 = some v26 ∧ q_load st true 4 v1 = some v25 ∧ q_load st true 4 v2 = some v17 ∧ q_load st true 4 v1 = some v5 ∧ (qb (q_struct [.str [], .int .i64 0, .int .i64 0, .str [], .sl 0 true []] [(0, 1, (.str [97, 108, 108])), (1, 4, v23)]) fun v24 =>
 callK prog n_spec_l01Arrow [v25, v26] st (fun v27 st =>
 q_load st true 4 v1 = some v29 ∧ q_load st true 4 v1 = some v28 ∧ q_load st true 4 v2 = some v17 ∧ q_load st true 4 v1 = some v5 ∧ (callK prog n_spec_l01Arrow [v28, v29] st (fun v30 st =>
 q_load st true 4 v2 = some v17 ∧ q_load st true 4 v1 = some v5 ∧ (callK prog n_spec_l01Arrow [v27, v30] st (fun v31 st =>
 q_load st true 4 v2 = some v17 ∧ q_load st true 4 v1 = some v5 ∧ (qb (q_struct [.str [], .int .i64 0, .int .i64 0, .str [], .sl 0 true []] [(0, 1, (.str [105, 116])), (1, 4, v31)]) fun v32 =>
 qb (q_lit 5 6 0 [] [(0, v6), (1, v10), (2, v16), (3, v18), (4, v24), (5, v32)]) fun v33 =>
 retR R v33 st)) (panR R))) (panR R))) (panR R))) (panR R))) (panR R))) (panR R))) (panR R))) (panR R)) (panR R)) (panR R)
theorem c_spec_l03Some {st : St} {R : Res → St → Prop} (h : b_spec_l03Some  st R) : HCalls prog n_spec_l03Some [] st R :=
 hcalls_of_func tyOK mixed (fn := Go.Proofs.Tryz.f44) (by kernel_rfl) (by kernel_rfl) (by kernel_rfl) (ann := [])
  (show hFunc prog TT [] Go.Proofs.Tryz.f44 [] st R from (show hFunc prog TT [] Go.Proofs.Tryz.f44 [] st R = b_spec_l03Some  st R by kernel_rfl) ▸ h)
def b_spec_l00Src_problem (a0 : PV) (st : St) (R : Res → St → Prop) : Prop :=
 e_alloc st [.int .i64 0, .int .i64 0, .str [], .sl 0 true []] fun v4 st =>
 e_alloc st [.int .i64 0, .int .i64 0, .str [], .sl 0 true []] fun v5 st =>
 e_alloc st [.int .i64 0, .int .i64 0, .str [], .sl 0 true []] fun v6 st =>
 callK prog n_spec_l00Src_varTypes [a0] st (fun v13 st =>
 callK prog n_spec_l00Src_holeTypes [a0] st (fun v15 st =>
 callK prog n_spec_l01Base [(.str [110, 97, 116])] st (fun v16 st =>
 callK prog n_spec_l01Base [(.str [111])] st (fun v17 st =>
 callK prog n_spec_l01Base [(.str [110, 97, 116])] st (fun v18 st =>
 callK prog n_spec_l01Base [(.str [110, 97, 116])] st (fun v19 st =>
 callK prog n_spec_l01Arrow [v18, v19] st (fun v20 st =>
 callK prog n_spec_l01Base [(.str [110, 97, 116])] st (fun v21 st =>
 qb (q_lit 4 4 0 [] [(0, v16), (1, v17), (2, v20), (3, v21)]) fun v22 =>
 callK prog n_spec_l00Src_next [a0, (.int .i64 4)] st (fun v24 st =>
 qb (q_ia 4 v22 v24) fun v25 =>
 qb (q_load st true 4 v25) fun v26 =>
 e_alloc st [.int .i64 0, .int .i64 0, .str [], .sl 0 true []] fun v9 st =>
 e_store st 4 v9 v26 fun st =>
 hJ (fun ls st =>
  qb (q_load st true 4 (ls.getD 0 .junk)) fun v38 =>
  qb (q_load st true 4 v9) fun v39 =>
  callK prog n_spec_l00Src_varied [a0, v13, v15, v38, v39, (.int .i64 2)] st (fun v40 st =>
  e_alloc st [.int .i64 0, .int .i64 0, .str [], .sl 0 true []] fun v11 st =>
  e_store st 4 v11 v40 fun st =>
  callK prog n_spec_l00Src_chance [a0, (.int .i64 3)] st (fun v42 st =>
  hJ (fun ls_1 st =>
   qb (q_load st true 4 (ls.getD 0 .junk)) fun v53 =>
   qb (q_load st true 4 v11) fun v54 =>
   qb (q_load st true 4 v9) fun v55 =>
   e_store st 4 v4 v53 fun st =>
   q_load st true 4 v9 = some v55 ∧ q_load st true 4 v11 = some v54 ∧ (e_store st 4 v5 v54 fun st =>
   q_load st true 4 v9 = some v55 ∧ (e_store st 4 v6 v55 fun st =>
   qb (q_load st true 4 v4) fun r => qb (q_load st true 4 v5) fun r_1 => qb (q_load st true 4 v6) fun r_2 => retR R (.tup [v13, v15, r, r_1, r_2]) st)))
   (fun k_1 =>
  cb v42 fun b => br b
   (qb (q_load st true 4 v9) fun v46 =>
   callK prog n_spec_l00Src_next [a0, (.int .i64 3)] st (fun v48 st =>
   q_load st true 4 v9 = some v46 ∧ (qb (q_bin .add (.int .i64 1) v48) fun v49 =>
   callK prog n_spec_l00Src_pattern [a0, v13, v15, v46, v49] st (fun v50 st =>
   e_store st 4 v11 v50 fun st =>
   k_1 [] st) (panR R))) (panR R))
   (k_1 [] st))) (panR R)) (panR R))
  (fun k =>
 qb (q_load st true 4 v9) fun v30 =>
 (callK prog n_spec_l00Src_next [a0, (.int .i64 3)] st (fun v32 st =>
 q_load st true 4 v9 = some v30 ∧ (qb (q_bin .add (.int .i64 1) v32) fun v33 =>
 (callK prog n_spec_l00Src_pattern [a0, v13, v15, v30, v33] st (fun v34 st =>
 e_alloc st [.int .i64 0, .int .i64 0, .str [], .sl 0 true []] fun v10 st =>
 q_load st true 4 v9 = some v30 ∧ (e_store st 4 v10 v34 fun st =>
 k [v10] st)) (panR R)) ∧
 (e_alloc st [.int .i64 0, .int .i64 0, .str [], .sl 0 true []] fun v10_1 st =>
 q_load st true 4 v9 = some v30 ∧ (callK prog n_spec_l00Src_pattern [a0, v13, v15, v30, v33] st (fun v34_1 st =>
 e_store st 4 v10_1 v34_1 fun st =>
 k [v10_1] st) (panR R))))) (panR R)) ∧
 (e_alloc st [.int .i64 0, .int .i64 0, .str [], .sl 0 true []] fun v10_2 st =>
 q_load st true 4 v9 = some v30 ∧ (callK prog n_spec_l00Src_next [a0, (.int .i64 3)] st (fun v32_1 st =>
 q_load st true 4 v9 = some v30 ∧ (qb (q_bin .add (.int .i64 1) v32_1) fun v33_1 =>
 callK prog n_spec_l00Src_pattern [a0, v13, v15, v30, v33_1] st (fun v34_2 st =>
 e_store st 4 v10_2 v34_2 fun st =>
 k [v10_2] st) (panR R))) (panR R))))) (panR R)) (panR R)) (panR R)) (panR R)) (panR R)) (panR R)) (panR R)) (panR R)) (panR R)
theorem c_spec_l00Src_problem {a0 : PV} {st : St} {R : Res → St → Prop} (h : b_spec_l00Src_problem a0 st R) : HCalls prog n_spec_l00Src_problem [a0] st R :=
 hcalls_of_func tyOK mixed (fn := Go.Proofs.Tryz.f45) (by kernel_rfl) (by kernel_rfl) (by kernel_rfl) (ann := [(17, [10]), (30, [])])
  (show hFunc prog TT [(17, [10]), (30, [])] Go.Proofs.Tryz.f45 [a0] st R from (show hFunc prog TT [(17, [10]), (30, [])] Go.Proofs.Tryz.f45 [a0] st R = b_spec_l00Src_problem a0 st R by kernel_rfl) ▸ h)
def an_spec_l00Src_typed : List (Nat × List Nat) := [(108, [19]), (76, [12, 13, 16]), (52, [12, 13, 15]), (28, [12, 13, 14]), (37, [70]), (61, [113]), (85, [154])]
def b_spec_l00Src_typed_p4 (x0 x1 x2 x3 x4 x8 x10 x11 x12 x13 x14 x15 x16 x17 x18 x20 x21 x22 x41 x42 x43 x44 x45 x46 x47 x87 x88 x89 x90 x126 x127 x128 x129 x172 x173 x174 x175 x176 x177 x178 x179 : PV) (st : St) (R : Res → St → Prop) : Prop :=
 qb (q_ia 4 x13 x17) fun v182 =>
 qb (q_load st true 4 v182) fun v183 =>
 e_alloc st [.int .i64 0, .int .i64 0, .str [], .sl 0 true []] fun v19 st =>
 e_store st 4 v19 v183 fun st =>
 hFix (fun ls_6 st X_3 =>
  qb (q_fa 0 (ls_6.getD 0 .junk)) fun v184 =>
  qb (q_load st false 1 v184) fun v185 =>
  qb (q_bin .eql v185 (.int .i64 10)) fun v186 =>
  cb v186 fun b_13 => br b_13
   (qb (q_fa 3 x18) fun v191 =>
   qb (q_load st false 1 v191) fun v192 =>
   qb (q_fa 3 (ls_6.getD 0 .junk)) fun v196 =>
   qb (q_load st false 1 v196) fun v197 =>
   qb (q_ia 4 v197 (.int .i64 0)) fun v198 =>
   qb (q_load st true 4 v198) fun v199 =>
   qb (q_bin .sub x4 (.int .i64 1)) fun v201 =>
   callK prog n_spec_l00Src_typed [x0, x1, x2, v199, v201] st (fun v202 st =>
   q_load st false 1 v191 = some v192 ∧ (qb (q_lit 4 1 0 [] [(0, v202)]) fun v203 =>
   e_append st 4 56 v192 v203 (fun v204 st =>
   qb (q_fa 3 x18) fun v205 =>
   e_store st 1 v205 v204 fun st =>
   qb (q_load st true 4 (ls_6.getD 0 .junk)) fun v206 =>
   e_alloc st [.int .i64 0, .int .i64 0, .str [], .sl 0 true []] fun v19_1 st =>
   e_store st 4 v19_1 v206 fun st =>
   qb (q_fa 3 v19_1) fun v187 =>
   qb (q_load st false 1 v187) fun v188 =>
   qb (q_ia 4 v188 (.int .i64 1)) fun v189 =>
   qb (q_load st true 4 v189) fun v190 =>
   e_store st 4 v19_1 v190 fun st =>
   X_3 [v19_1] st))) (panR R))
   (qb (q_load st true 4 x18) fun v207 =>
   e_store st 4 x10 v207 fun st =>
   qb (q_load st true 4 x10) fun r_1 => retR R r_1 st))
  [v19] st
theorem q_spec_l00Src_typed_p4 (x0 x1 x2 x3 x4 x8 x10 x11 x12 x13 x14 x15 x16 x17 x18 x20 x21 x22 x41 x42 x43 x44 x45 x46 x47 x87 x88 x89 x90 x126 x127 x128 x129 x172 x173 x174 x175 x176 x177 x178 x179 : PV) (st : St) (R : Res → St → Prop) : hCode prog TT an_spec_l00Src_typed (codeAt [true, true, true, true, true, true, true, true, true, true] (optGet Go.Proofs.Tryz.f46.body)) [x0, x1, x2, x3, x4, .junk, .junk, .junk, x8, .junk, x10, x11, x12, x13, x14, x15, x16, x17, x18, .junk, x20, x21, x22, .junk, .junk, .junk, .junk, .junk, .junk, .junk, .junk, .junk, .junk, .junk, .junk, .junk, .junk, .junk, .junk, .junk, .junk, x41, x42, x43, x44, x45, x46, x47, .junk, .junk, .junk, .junk, .junk, .junk, .junk, .junk, .junk, .junk, .junk, .junk, .junk, .junk, .junk, .junk, .junk, .junk, .junk, .junk, .junk, .junk, .junk, .junk, .junk, .junk, .junk, .junk, .junk, .junk, .junk, .junk, .junk, .junk, .junk, .junk, .junk, .junk, .junk, x87, x88, x89, x90, .junk, .junk, .junk, .junk, .junk, .junk, .junk, .junk, .junk, .junk, .junk, .junk, .junk, .junk, .junk, .junk, .junk, .junk, .junk, .junk, .junk, .junk, .junk, .junk, .junk, .junk, .junk, .junk, .junk, .junk, .junk, .junk, .junk, .junk, .junk, x126, x127, x128, x129, .junk, .junk, .junk, .junk, .junk, .junk, .junk, .junk, .junk, .junk, .junk, .junk, .junk, .junk, .junk, .junk, .junk, .junk, .junk, .junk, .junk, .junk, .junk, .junk, .junk, .junk, .junk, .junk, .junk, .junk, .junk, .junk, .junk, .junk, .junk, .junk, .junk, .junk, .junk, .junk, .junk, .junk, x172, x173, x174, x175, x176, x177, x178, x179, .junk, .junk, .junk, .junk, .junk, .junk, .junk, .junk, .junk, .junk, .junk, .junk, .junk, .junk, .junk, .junk, .junk, .junk, .junk, .junk, .junk, .junk, .junk, .junk, .junk, .junk, .junk, .junk] st (topQ TT Go.Proofs.Tryz.f46 R) = b_spec_l00Src_typed_p4 x0 x1 x2 x3 x4 x8 x10 x11 x12 x13 x14 x15 x16 x17 x18 x20 x21 x22 x41 x42 x43 x44 x45 x46 x47 x87 x88 x89 x90 x126 x127 x128 x129 x172 x173 x174 x175 x176 x177 x178 x179 st R := by kernel_rfl
def bx_spec_l00Src_typed_p3 (x0 x1 x2 x3 x4 x8 x10 x11 x12 x13 x14 x15 x20 x21 x22 x41 x42 x43 x44 x45 x46 x47 x87 x88 x89 x90 : PV) (st : St) (R : Res → St → Prop) (K4 : PV → PV → PV → PV → PV → PV → PV → PV → PV → PV → PV → PV → PV → PV → PV → PV → PV → PV → PV → PV → PV → PV → PV → PV → PV → PV → PV → PV → PV → PV → PV → PV → PV → PV → PV → PV → PV → PV → PV → PV → PV → St → Prop) : Prop :=
 hFix (fun ls_4 st X_2 =>
  qb (q_len x11) fun v128 =>
  qb (q_bin .lss (ls_4.getD 2 .junk) v128) fun v129 =>
  cb v129 fun b_9 => br b_9
   (hJ (fun ls_5 st =>
    cb (ls_5.getD 0 .junk) fun b_10 => br b_10
     (qb (q_ia 5 x11 (ls_4.getD 2 .junk)) fun v158 =>
     qb (q_fa 0 v158) fun v159 =>
     qb (q_load st false 1 v159) fun v160 =>
     callK prog n_spec_l01Const [v160, (.sl 0 true [])] st (fun v161 st =>
     qb (q_lit 4 1 0 [] [(0, v161)]) fun v162 =>
     e_append st 4 56 (ls_4.getD 0 .junk) v162 (fun v163 st =>
     qb (q_ia 5 x11 (ls_4.getD 2 .junk)) fun v167 =>
     qb (q_fa 1 v167) fun v168 =>
     qb (q_load st true 4 v168) fun v169 =>
     qb (q_lit 4 1 0 [] [(0, v169)]) fun v170 =>
     e_append st 4 56 (ls_4.getD 1 .junk) v170 (fun v171 st =>
     qb (q_bin .add (ls_4.getD 2 .junk) (.int .i64 1)) fun v131 =>
     X_2 [v163, v171, v131] st))) (panR R))
     (qb (q_bin .add (ls_4.getD 2 .junk) (.int .i64 1)) fun v131_1 =>
     X_2 [(ls_4.getD 0 .junk), (ls_4.getD 1 .junk), v131_1] st))
    (fun k_2 =>
   qb (q_ia 5 x11 (ls_4.getD 2 .junk)) fun v134 =>
   qb (q_fa 1 v134) fun v135 =>
   qb (q_load st true 4 v135) fun v136 =>
   qb (q_fa 2 x8) fun v139 =>
   qb (q_load st false 1 v139) fun v140 =>
   callK prog n_spec_l03Target [v136] st (fun v137 st =>
   q_load st false 1 v139 = some v140 ∧ (qb (q_field false 1 2 v137) fun v138 =>
   qb (q_bin .eql v138 v140) fun v141 =>
   cb v141 fun b_11 => br b_11
    (qb (q_bin .gtr x4 (.int .i64 0)) fun v144 =>
    cb v144 fun b_12 => br b_12
     (k_2 [(.bool true)] st)
     (qb (q_ia 5 x11 (ls_4.getD 2 .junk)) fun v148 =>
     qb (q_fa 1 v148) fun v149 =>
     qb (q_fa 0 v149) fun v150 =>
     qb (q_load st false 1 v150) fun v151 =>
     qb (q_bin .eql v151 (.int .i64 9)) fun v152 =>
     k_2 [v152] st))
    (k_2 [(.bool false)] st))) (panR R)))
   (qb (q_len (ls_4.getD 0 .junk)) fun v174 =>
   callK prog n_spec_l00Src_next [x0, v174] st (fun v175 st =>
   qb (q_ia 4 (ls_4.getD 0 .junk) v175) fun v178 =>
   qb (q_load st true 4 v178) fun v179 =>
   e_alloc st [.int .i64 0, .int .i64 0, .str [], .sl 0 true []] fun v18 st =>
   e_store st 4 v18 v179 fun st =>
   K4 x0 x1 x2 x3 x4 x8 x10 x11 (ls_4.getD 0 .junk) (ls_4.getD 1 .junk) x14 x15 (ls_4.getD 2 .junk) v175 v18 x20 x21 x22 x41 x42 x43 x44 x45 x46 x47 x87 x88 x89 x90 (ls_4.getD 2 .junk) x11 v128 v129 x0 (ls_4.getD 0 .junk) v174 v175 (ls_4.getD 0 .junk) v175 v178 v179 st) (panR R)))
  [x12, x13, (.int .i64 0)] st
def b_spec_l00Src_typed_p3 (x0 x1 x2 x3 x4 x8 x10 x11 x12 x13 x14 x15 x20 x21 x22 x41 x42 x43 x44 x45 x46 x47 x87 x88 x89 x90 : PV) (st : St) (R : Res → St → Prop) : Prop := bx_spec_l00Src_typed_p3 x0 x1 x2 x3 x4 x8 x10 x11 x12 x13 x14 x15 x20 x21 x22 x41 x42 x43 x44 x45 x46 x47 x87 x88 x89 x90 st R (fun x0 x1 x2 x3 x4 x8 x10 x11 x12 x13 x14 x15 x16 x17 x18 x20 x21 x22 x41 x42 x43 x44 x45 x46 x47 x87 x88 x89 x90 x126 x127 x128 x129 x172 x173 x174 x175 x176 x177 x178 x179 st => b_spec_l00Src_typed_p4 x0 x1 x2 x3 x4 x8 x10 x11 x12 x13 x14 x15 x16 x17 x18 x20 x21 x22 x41 x42 x43 x44 x45 x46 x47 x87 x88 x89 x90 x126 x127 x128 x129 x172 x173 x174 x175 x176 x177 x178 x179 st R)
theorem t_spec_l00Src_typed_p3 (c : Code) (x0 x1 x2 x3 x4 x8 x10 x11 x12 x13 x14 x15 x20 x21 x22 x41 x42 x43 x44 x45 x46 x47 x87 x88 x89 x90 : PV) (st : St) (R : Res → St → Prop) : hCode prog TT an_spec_l00Src_typed (putAt [true, true, true] (codeAt [true, true, true, true, true, true, true] (optGet Go.Proofs.Tryz.f46.body)) c) [x0, x1, x2, x3, x4, .junk, .junk, .junk, x8, .junk, x10, x11, x12, x13, x14, x15, .junk, .junk, .junk, .junk, x20, x21, x22, .junk, .junk, .junk, .junk, .junk, .junk, .junk, .junk, .junk, .junk, .junk, .junk, .junk, .junk, .junk, .junk, .junk, .junk, x41, x42, x43, x44, x45, x46, x47, .junk, .junk, .junk, .junk, .junk, .junk, .junk, .junk, .junk, .junk, .junk, .junk, .junk, .junk, .junk, .junk, .junk, .junk, .junk, .junk, .junk, .junk, .junk, .junk, .junk, .junk, .junk, .junk, .junk, .junk, .junk, .junk, .junk, .junk, .junk, .junk, .junk, .junk, .junk, x87, x88, x89, x90, .junk, .junk, .junk, .junk, .junk, .junk, .junk, .junk, .junk, .junk, .junk, .junk, .junk, .junk, .junk, .junk, .junk, .junk, .junk, .junk, .junk, .junk, .junk, .junk, .junk, .junk, .junk, .junk, .junk, .junk, .junk, .junk, .junk, .junk, .junk, .junk, .junk, .junk, .junk, .junk, .junk, .junk, .junk, .junk, .junk, .junk, .junk, .junk, .junk, .junk, .junk, .junk, .junk, .junk, .junk, .junk, .junk, .junk, .junk, .junk, .junk, .junk, .junk, .junk, .junk, .junk, .junk, .junk, .junk, .junk, .junk, .junk, .junk, .junk, .junk, .junk, .junk, .junk, .junk, .junk, .junk, .junk, .junk, .junk, .junk, .junk, .junk, .junk, .junk, .junk, .junk, .junk, .junk, .junk, .junk, .junk, .junk, .junk, .junk, .junk, .junk, .junk, .junk, .junk, .junk, .junk, .junk, .junk, .junk, .junk, .junk, .junk, .junk, .junk, .junk, .junk, .junk] st (topQ TT Go.Proofs.Tryz.f46 R) = bx_spec_l00Src_typed_p3 x0 x1 x2 x3 x4 x8 x10 x11 x12 x13 x14 x15 x20 x21 x22 x41 x42 x43 x44 x45 x46 x47 x87 x88 x89 x90 st R (fun x0 x1 x2 x3 x4 x8 x10 x11 x12 x13 x14 x15 x16 x17 x18 x20 x21 x22 x41 x42 x43 x44 x45 x46 x47 x87 x88 x89 x90 x126 x127 x128 x129 x172 x173 x174 x175 x176 x177 x178 x179 st => hCode prog TT an_spec_l00Src_typed c [x0, x1, x2, x3, x4, .junk, .junk, .junk, x8, .junk, x10, x11, x12, x13, x14, x15, x16, x17, x18, .junk, x20, x21, x22, .junk, .junk, .junk, .junk, .junk, .junk, .junk, .junk, .junk, .junk, .junk, .junk, .junk, .junk, .junk, .junk, .junk, .junk, x41, x42, x43, x44, x45, x46, x47, .junk, .junk, .junk, .junk, .junk, .junk, .junk, .junk, .junk, .junk, .junk, .junk, .junk, .junk, .junk, .junk, .junk, .junk, .junk, .junk, .junk, .junk, .junk, .junk, .junk, .junk, .junk, .junk, .junk, .junk, .junk, .junk, .junk, .junk, .junk, .junk, .junk, .junk, .junk, x87, x88, x89, x90, .junk, .junk, .junk, .junk, .junk, .junk, .junk, .junk, .junk, .junk, .junk, .junk, .junk, .junk, .junk, .junk, .junk, .junk, .junk, .junk, .junk, .junk, .junk, .junk, .junk, .junk, .junk, .junk, .junk, .junk, .junk, .junk, .junk, .junk, .junk, x126, x127, x128, x129, .junk, .junk, .junk, .junk, .junk, .junk, .junk, .junk, .junk, .junk, .junk, .junk, .junk, .junk, .junk, .junk, .junk, .junk, .junk, .junk, .junk, .junk, .junk, .junk, .junk, .junk, .junk, .junk, .junk, .junk, .junk, .junk, .junk, .junk, .junk, .junk, .junk, .junk, .junk, .junk, .junk, .junk, x172, x173, x174, x175, x176, x177, x178, x179, .junk, .junk, .junk, .junk, .junk, .junk, .junk, .junk, .junk, .junk, .junk, .junk, .junk, .junk, .junk, .junk, .junk, .junk, .junk, .junk, .junk, .junk, .junk, .junk, .junk, .junk, .junk, .junk] st (topQ TT Go.Proofs.Tryz.f46 R)) := by kernel_rfl
theorem q_spec_l00Src_typed_p3 (x0 x1 x2 x3 x4 x8 x10 x11 x12 x13 x14 x15 x20 x21 x22 x41 x42 x43 x44 x45 x46 x47 x87 x88 x89 x90 : PV) (st : St) (R : Res → St → Prop) : hCode prog TT an_spec_l00Src_typed (codeAt [true, true, true, true, true, true, true] (optGet Go.Proofs.Tryz.f46.body)) [x0, x1, x2, x3, x4, .junk, .junk, .junk, x8, .junk, x10, x11, x12, x13, x14, x15, .junk, .junk, .junk, .junk, x20, x21, x22, .junk, .junk, .junk, .junk, .junk, .junk, .junk, .junk, .junk, .junk, .junk, .junk, .junk, .junk, .junk, .junk, .junk, .junk, x41, x42, x43, x44, x45, x46, x47, .junk, .junk, .junk, .junk, .junk, .junk, .junk, .junk, .junk, .junk, .junk, .junk, .junk, .junk, .junk, .junk, .junk, .junk, .junk, .junk, .junk, .junk, .junk, .junk, .junk, .junk, .junk, .junk, .junk, .junk, .junk, .junk, .junk, .junk, .junk, .junk, .junk, .junk, .junk, x87, x88, x89, x90, .junk, .junk, .junk, .junk, .junk, .junk, .junk, .junk, .junk, .junk, .junk, .junk, .junk, .junk, .junk, .junk, .junk, .junk, .junk, .junk, .junk, .junk, .junk, .junk, .junk, .junk, .junk, .junk, .junk, .junk, .junk, .junk, .junk, .junk, .junk, .junk, .junk, .junk, .junk, .junk, .junk, .junk, .junk, .junk, .junk, .junk, .junk, .junk, .junk, .junk, .junk, .junk, .junk, .junk, .junk, .junk, .junk, .junk, .junk, .junk, .junk, .junk, .junk, .junk, .junk, .junk, .junk, .junk, .junk, .junk, .junk, .junk, .junk, .junk, .junk, .junk, .junk, .junk, .junk, .junk, .junk, .junk, .junk, .junk, .junk, .junk, .junk, .junk, .junk, .junk, .junk, .junk, .junk, .junk, .junk, .junk, .junk, .junk, .junk, .junk, .junk, .junk, .junk, .junk, .junk, .junk, .junk, .junk, .junk, .junk, .junk, .junk, .junk, .junk, .junk, .junk, .junk] st (topQ TT Go.Proofs.Tryz.f46 R) = b_spec_l00Src_typed_p3 x0 x1 x2 x3 x4 x8 x10 x11 x12 x13 x14 x15 x20 x21 x22 x41 x42 x43 x44 x45 x46 x47 x87 x88 x89 x90 st R :=
 (show hCode prog TT an_spec_l00Src_typed (codeAt [true, true, true, true, true, true, true] (optGet Go.Proofs.Tryz.f46.body)) [x0, x1, x2, x3, x4, .junk, .junk, .junk, x8, .junk, x10, x11, x12, x13, x14, x15, .junk, .junk, .junk, .junk, x20, x21, x22, .junk, .junk, .junk, .junk, .junk, .junk, .junk, .junk, .junk, .junk, .junk, .junk, .junk, .junk, .junk, .junk, .junk, .junk, x41, x42, x43, x44, x45, x46, x47, .junk, .junk, .junk, .junk, .junk, .junk, .junk, .junk, .junk, .junk, .junk, .junk, .junk, .junk, .junk, .junk, .junk, .junk, .junk, .junk, .junk, .junk, .junk, .junk, .junk, .junk, .junk, .junk, .junk, .junk, .junk, .junk, .junk, .junk, .junk, .junk, .junk, .junk, .junk, x87, x88, x89, x90, .junk, .junk, .junk, .junk, .junk, .junk, .junk, .junk, .junk, .junk, .junk, .junk, .junk, .junk, .junk, .junk, .junk, .junk, .junk, .junk, .junk, .junk, .junk, .junk, .junk, .junk, .junk, .junk, .junk, .junk, .junk, .junk, .junk, .junk, .junk, .junk, .junk, .junk, .junk, .junk, .junk, .junk, .junk, .junk, .junk, .junk, .junk, .junk, .junk, .junk, .junk, .junk, .junk, .junk, .junk, .junk, .junk, .junk, .junk, .junk, .junk, .junk, .junk, .junk, .junk, .junk, .junk, .junk, .junk, .junk, .junk, .junk, .junk, .junk, .junk, .junk, .junk, .junk, .junk, .junk, .junk, .junk, .junk, .junk, .junk, .junk, .junk, .junk, .junk, .junk, .junk, .junk, .junk, .junk, .junk, .junk, .junk, .junk, .junk, .junk, .junk, .junk, .junk, .junk, .junk, .junk, .junk, .junk, .junk, .junk, .junk, .junk, .junk, .junk, .junk, .junk, .junk] st (topQ TT Go.Proofs.Tryz.f46 R) = bx_spec_l00Src_typed_p3 x0 x1 x2 x3 x4 x8 x10 x11 x12 x13 x14 x15 x20 x21 x22 x41 x42 x43 x44 x45 x46 x47 x87 x88 x89 x90 st R (fun x0 x1 x2 x3 x4 x8 x10 x11 x12 x13 x14 x15 x16 x17 x18 x20 x21 x22 x41 x42 x43 x44 x45 x46 x47 x87 x88 x89 x90 x126 x127 x128 x129 x172 x173 x174 x175 x176 x177 x178 x179 st => hCode prog TT an_spec_l00Src_typed (codeAt [true, true, true, true, true, true, true, true, true, true] (optGet Go.Proofs.Tryz.f46.body)) [x0, x1, x2, x3, x4, .junk, .junk, .junk, x8, .junk, x10, x11, x12, x13, x14, x15, x16, x17, x18, .junk, x20, x21, x22, .junk, .junk, .junk, .junk, .junk, .junk, .junk, .junk, .junk, .junk, .junk, .junk, .junk, .junk, .junk, .junk, .junk, .junk, x41, x42, x43, x44, x45, x46, x47, .junk, .junk, .junk, .junk, .junk, .junk, .junk, .junk, .junk, .junk, .junk, .junk, .junk, .junk, .junk, .junk, .junk, .junk, .junk, .junk, .junk, .junk, .junk, .junk, .junk, .junk, .junk, .junk, .junk, .junk, .junk, .junk, .junk, .junk, .junk, .junk, .junk, .junk, .junk, x87, x88, x89, x90, .junk, .junk, .junk, .junk, .junk, .junk, .junk, .junk, .junk, .junk, .junk, .junk, .junk, .junk, .junk, .junk, .junk, .junk, .junk, .junk, .junk, .junk, .junk, .junk, .junk, .junk, .junk, .junk, .junk, .junk, .junk, .junk, .junk, .junk, .junk, x126, x127, x128, x129, .junk, .junk, .junk, .junk, .junk, .junk, .junk, .junk, .junk, .junk, .junk, .junk, .junk, .junk, .junk, .junk, .junk, .junk, .junk, .junk, .junk, .junk, .junk, .junk, .junk, .junk, .junk, .junk, .junk, .junk, .junk, .junk, .junk, .junk, .junk, .junk, .junk, .junk, .junk, .junk, .junk, .junk, x172, x173, x174, x175, x176, x177, x178, x179, .junk, .junk, .junk, .junk, .junk, .junk, .junk, .junk, .junk, .junk, .junk, .junk, .junk, .junk, .junk, .junk, .junk, .junk, .junk, .junk, .junk, .junk, .junk, .junk, .junk, .junk, .junk, .junk] st (topQ TT Go.Proofs.Tryz.f46 R)) from t_spec_l00Src_typed_p3 (codeAt [true, true, true, true, true, true, true, true, true, true] (optGet Go.Proofs.Tryz.f46.body)) x0 x1 x2 x3 x4 x8 x10 x11 x12 x13 x14 x15 x20 x21 x22 x41 x42 x43 x44 x45 x46 x47 x87 x88 x89 x90 st R).trans (congrArg (bx_spec_l00Src_typed_p3 x0 x1 x2 x3 x4 x8 x10 x11 x12 x13 x14 x15 x20 x21 x22 x41 x42 x43 x44 x45 x46 x47 x87 x88 x89 x90 st R) (funext fun x0 => funext fun x1 => funext fun x2 => funext fun x3 => funext fun x4 => funext fun x8 => funext fun x10 => funext fun x11 => funext fun x12 => funext fun x13 => funext fun x14 => funext fun x15 => funext fun x16 => funext fun x17 => funext fun x18 => funext fun x20 => funext fun x21 => funext fun x22 => funext fun x41 => funext fun x42 => funext fun x43 => funext fun x44 => funext fun x45 => funext fun x46 => funext fun x47 => funext fun x87 => funext fun x88 => funext fun x89 => funext fun x90 => funext fun x126 => funext fun x127 => funext fun x128 => funext fun x129 => funext fun x172 => funext fun x173 => funext fun x174 => funext fun x175 => funext fun x176 => funext fun x177 => funext fun x178 => funext fun x179 => funext fun st => q_spec_l00Src_typed_p4 x0 x1 x2 x3 x4 x8 x10 x11 x12 x13 x14 x15 x16 x17 x18 x20 x21 x22 x41 x42 x43 x44 x45 x46 x47 x87 x88 x89 x90 x126 x127 x128 x129 x172 x173 x174 x175 x176 x177 x178 x179 st R))
def bx_spec_l00Src_typed_p2 (x0 x1 x2 x3 x4 x8 x10 x11 x12 x13 x14 x20 x21 x22 x41 x42 x43 x44 x45 x46 x47 : PV) (st : St) (R : Res → St → Prop) (K3 : PV → PV → PV → PV → PV → PV → PV → PV → PV → PV → PV → PV → PV → PV → PV → PV → PV → PV → PV → PV → PV → PV → PV → PV → PV → PV → St → Prop) : Prop :=
 hFix (fun ls_2 st X_1 =>
  qb (q_len x2) fun v89 =>
  qb (q_bin .lss (ls_2.getD 2 .junk) v89) fun v90 =>
  cb v90 fun b_5 => br b_5
   (hJ (fun ls_3 st =>
    cb (ls_3.getD 0 .junk) fun b_6 => br b_6
     (qb (q_struct [.int .i64 0, .int .i64 0, .str [], .sl 0 true []] [(0, 1, (.int .i64 7)), (1, 1, (ls_2.getD 2 .junk))]) fun v116 =>
     qb (q_lit 4 1 0 [] [(0, v116)]) fun v117 =>
     e_append st 4 56 (ls_2.getD 0 .junk) v117 (fun v118 st =>
     qb (q_ia 4 x2 (ls_2.getD 2 .junk)) fun v122 =>
     qb (q_load st true 4 v122) fun v123 =>
     qb (q_lit 4 1 0 [] [(0, v123)]) fun v124 =>
     e_append st 4 56 (ls_2.getD 1 .junk) v124 (fun v125 st =>
     qb (q_bin .add (ls_2.getD 2 .junk) (.int .i64 1)) fun v92 =>
     X_1 [v118, v125, v92] st)))
     (qb (q_bin .add (ls_2.getD 2 .junk) (.int .i64 1)) fun v92_1 =>
     X_1 [(ls_2.getD 0 .junk), (ls_2.getD 1 .junk), v92_1] st))
    (fun k_1 =>
   qb (q_ia 4 x2 (ls_2.getD 2 .junk)) fun v95 =>
   qb (q_load st true 4 v95) fun v96 =>
   qb (q_fa 2 x8) fun v99 =>
   qb (q_load st false 1 v99) fun v100 =>
   callK prog n_spec_l03Target [v96] st (fun v97 st =>
   q_load st false 1 v99 = some v100 ∧ (qb (q_field false 1 2 v97) fun v98 =>
   qb (q_bin .eql v98 v100) fun v101 =>
   cb v101 fun b_7 => br b_7
    (qb (q_bin .gtr x4 (.int .i64 0)) fun v104 =>
    cb v104 fun b_8 => br b_8
     (k_1 [(.bool true)] st)
     (qb (q_ia 4 x2 (ls_2.getD 2 .junk)) fun v108 =>
     qb (q_fa 0 v108) fun v109 =>
     qb (q_load st false 1 v109) fun v110 =>
     qb (q_bin .eql v110 (.int .i64 9)) fun v111 =>
     k_1 [v111] st))
    (k_1 [(.bool false)] st))) (panR R)))
   (K3 x0 x1 x2 x3 x4 x8 x10 x11 (ls_2.getD 0 .junk) (ls_2.getD 1 .junk) x14 (ls_2.getD 2 .junk) x20 x21 x22 x41 x42 x43 x44 x45 x46 x47 (ls_2.getD 2 .junk) x2 v89 v90 st))
  [x12, x13, (.int .i64 0)] st
def b_spec_l00Src_typed_p2 (x0 x1 x2 x3 x4 x8 x10 x11 x12 x13 x14 x20 x21 x22 x41 x42 x43 x44 x45 x46 x47 : PV) (st : St) (R : Res → St → Prop) : Prop := bx_spec_l00Src_typed_p2 x0 x1 x2 x3 x4 x8 x10 x11 x12 x13 x14 x20 x21 x22 x41 x42 x43 x44 x45 x46 x47 st R (fun x0 x1 x2 x3 x4 x8 x10 x11 x12 x13 x14 x15 x20 x21 x22 x41 x42 x43 x44 x45 x46 x47 x87 x88 x89 x90 st => b_spec_l00Src_typed_p3 x0 x1 x2 x3 x4 x8 x10 x11 x12 x13 x14 x15 x20 x21 x22 x41 x42 x43 x44 x45 x46 x47 x87 x88 x89 x90 st R)
theorem t_spec_l00Src_typed_p2 (c : Code) (x0 x1 x2 x3 x4 x8 x10 x11 x12 x13 x14 x20 x21 x22 x41 x42 x43 x44 x45 x46 x47 : PV) (st : St) (R : Res → St → Prop) : hCode prog TT an_spec_l00Src_typed (putAt [true] (codeAt [true, true, true, true, true, true] (optGet Go.Proofs.Tryz.f46.body)) c) [x0, x1, x2, x3, x4, .junk, .junk, .junk, x8, .junk, x10, x11, x12, x13, x14, .junk, .junk, .junk, .junk, .junk, x20, x21, x22, .junk, .junk, .junk, .junk, .junk, .junk, .junk, .junk, .junk, .junk, .junk, .junk, .junk, .junk, .junk, .junk, .junk, .junk, x41, x42, x43, x44, x45, x46, x47, .junk, .junk, .junk, .junk, .junk, .junk, .junk, .junk, .junk, .junk, .junk, .junk, .junk, .junk, .junk, .junk, .junk, .junk, .junk, .junk, .junk, .junk, .junk, .junk, .junk, .junk, .junk, .junk, .junk, .junk, .junk, .junk, .junk, .junk, .junk, .junk, .junk, .junk, .junk, .junk, .junk, .junk, .junk, .junk, .junk, .junk, .junk, .junk, .junk, .junk, .junk, .junk, .junk, .junk, .junk, .junk, .junk, .junk, .junk, .junk, .junk, .junk, .junk, .junk, .junk, .junk, .junk, .junk, .junk, .junk, .junk, .junk, .junk, .junk, .junk, .junk, .junk, .junk, .junk, .junk, .junk, .junk, .junk, .junk, .junk, .junk, .junk, .junk, .junk, .junk, .junk, .junk, .junk, .junk, .junk, .junk, .junk, .junk, .junk, .junk, .junk, .junk, .junk, .junk, .junk, .junk, .junk, .junk, .junk, .junk, .junk, .junk, .junk, .junk, .junk, .junk, .junk, .junk, .junk, .junk, .junk, .junk, .junk, .junk, .junk, .junk, .junk, .junk, .junk, .junk, .junk, .junk, .junk, .junk, .junk, .junk, .junk, .junk, .junk, .junk, .junk, .junk, .junk, .junk, .junk, .junk, .junk, .junk, .junk, .junk, .junk, .junk, .junk, .junk, .junk, .junk, .junk, .junk, .junk, .junk] st (topQ TT Go.Proofs.Tryz.f46 R) = bx_spec_l00Src_typed_p2 x0 x1 x2 x3 x4 x8 x10 x11 x12 x13 x14 x20 x21 x22 x41 x42 x43 x44 x45 x46 x47 st R (fun x0 x1 x2 x3 x4 x8 x10 x11 x12 x13 x14 x15 x20 x21 x22 x41 x42 x43 x44 x45 x46 x47 x87 x88 x89 x90 st => hCode prog TT an_spec_l00Src_typed c [x0, x1, x2, x3, x4, .junk, .junk, .junk, x8, .junk, x10, x11, x12, x13, x14, x15, .junk, .junk, .junk, .junk, x20, x21, x22, .junk, .junk, .junk, .junk, .junk, .junk, .junk, .junk, .junk, .junk, .junk, .junk, .junk, .junk, .junk, .junk, .junk, .junk, x41, x42, x43, x44, x45, x46, x47, .junk, .junk, .junk, .junk, .junk, .junk, .junk, .junk, .junk, .junk, .junk, .junk, .junk, .junk, .junk, .junk, .junk, .junk, .junk, .junk, .junk, .junk, .junk, .junk, .junk, .junk, .junk, .junk, .junk, .junk, .junk, .junk, .junk, .junk, .junk, .junk, .junk, .junk, .junk, x87, x88, x89, x90, .junk, .junk, .junk, .junk, .junk, .junk, .junk, .junk, .junk, .junk, .junk, .junk, .junk, .junk, .junk, .junk, .junk, .junk, .junk, .junk, .junk, .junk, .junk, .junk, .junk, .junk, .junk, .junk, .junk, .junk, .junk, .junk, .junk, .junk, .junk, .junk, .junk, .junk, .junk, .junk, .junk, .junk, .junk, .junk, .junk, .junk, .junk, .junk, .junk, .junk, .junk, .junk, .junk, .junk, .junk, .junk, .junk, .junk, .junk, .junk, .junk, .junk, .junk, .junk, .junk, .junk, .junk, .junk, .junk, .junk, .junk, .junk, .junk, .junk, .junk, .junk, .junk, .junk, .junk, .junk, .junk, .junk, .junk, .junk, .junk, .junk, .junk, .junk, .junk, .junk, .junk, .junk, .junk, .junk, .junk, .junk, .junk, .junk, .junk, .junk, .junk, .junk, .junk, .junk, .junk, .junk, .junk, .junk, .junk, .junk, .junk, .junk, .junk, .junk, .junk, .junk, .junk] st (topQ TT Go.Proofs.Tryz.f46 R)) := by kernel_rfl
theorem q_spec_l00Src_typed_p2 (x0 x1 x2 x3 x4 x8 x10 x11 x12 x13 x14 x20 x21 x22 x41 x42 x43 x44 x45 x46 x47 : PV) (st : St) (R : Res → St → Prop) : hCode prog TT an_spec_l00Src_typed (codeAt [true, true, true, true, true, true] (optGet Go.Proofs.Tryz.f46.body)) [x0, x1, x2, x3, x4, .junk, .junk, .junk, x8, .junk, x10, x11, x12, x13, x14, .junk, .junk, .junk, .junk, .junk, x20, x21, x22, .junk, .junk, .junk, .junk, .junk, .junk, .junk, .junk, .junk, .junk, .junk, .junk, .junk, .junk, .junk, .junk, .junk, .junk, x41, x42, x43, x44, x45, x46, x47, .junk, .junk, .junk, .junk, .junk, .junk, .junk, .junk, .junk, .junk, .junk, .junk, .junk, .junk, .junk, .junk, .junk, .junk, .junk, .junk, .junk, .junk, .junk, .junk, .junk, .junk, .junk, .junk, .junk, .junk, .junk, .junk, .junk, .junk, .junk, .junk, .junk, .junk, .junk, .junk, .junk, .junk, .junk, .junk, .junk, .junk, .junk, .junk, .junk, .junk, .junk, .junk, .junk, .junk, .junk, .junk, .junk, .junk, .junk, .junk, .junk, .junk, .junk, .junk, .junk, .junk, .junk, .junk, .junk, .junk, .junk, .junk, .junk, .junk, .junk, .junk, .junk, .junk, .junk, .junk, .junk, .junk, .junk, .junk, .junk, .junk, .junk, .junk, .junk, .junk, .junk, .junk, .junk, .junk, .junk, .junk, .junk, .junk, .junk, .junk, .junk, .junk, .junk, .junk, .junk, .junk, .junk, .junk, .junk, .junk, .junk, .junk, .junk, .junk, .junk, .junk, .junk, .junk, .junk, .junk, .junk, .junk, .junk, .junk, .junk, .junk, .junk, .junk, .junk, .junk, .junk, .junk, .junk, .junk, .junk, .junk, .junk, .junk, .junk, .junk, .junk, .junk, .junk, .junk, .junk, .junk, .junk, .junk, .junk, .junk, .junk, .junk, .junk, .junk, .junk, .junk, .junk, .junk, .junk, .junk] st (topQ TT Go.Proofs.Tryz.f46 R) = b_spec_l00Src_typed_p2 x0 x1 x2 x3 x4 x8 x10 x11 x12 x13 x14 x20 x21 x22 x41 x42 x43 x44 x45 x46 x47 st R :=
 (show hCode prog TT an_spec_l00Src_typed (codeAt [true, true, true, true, true, true] (optGet Go.Proofs.Tryz.f46.body)) [x0, x1, x2, x3, x4, .junk, .junk, .junk, x8, .junk, x10, x11, x12, x13, x14, .junk, .junk, .junk, .junk, .junk, x20, x21, x22, .junk, .junk, .junk, .junk, .junk, .junk, .junk, .junk, .junk, .junk, .junk, .junk, .junk, .junk, .junk, .junk, .junk, .junk, x41, x42, x43, x44, x45, x46, x47, .junk, .junk, .junk, .junk, .junk, .junk, .junk, .junk, .junk, .junk, .junk, .junk, .junk, .junk, .junk, .junk, .junk, .junk, .junk, .junk, .junk, .junk, .junk, .junk, .junk, .junk, .junk, .junk, .junk, .junk, .junk, .junk, .junk, .junk, .junk, .junk, .junk, .junk, .junk, .junk, .junk, .junk, .junk, .junk, .junk, .junk, .junk, .junk, .junk, .junk, .junk, .junk, .junk, .junk, .junk, .junk, .junk, .junk, .junk, .junk, .junk, .junk, .junk, .junk, .junk, .junk, .junk, .junk, .junk, .junk, .junk, .junk, .junk, .junk, .junk, .junk, .junk, .junk, .junk, .junk, .junk, .junk, .junk, .junk, .junk, .junk, .junk, .junk, .junk, .junk, .junk, .junk, .junk, .junk, .junk, .junk, .junk, .junk, .junk, .junk, .junk, .junk, .junk, .junk, .junk, .junk, .junk, .junk, .junk, .junk, .junk, .junk, .junk, .junk, .junk, .junk, .junk, .junk, .junk, .junk, .junk, .junk, .junk, .junk, .junk, .junk, .junk, .junk, .junk, .junk, .junk, .junk, .junk, .junk, .junk, .junk, .junk, .junk, .junk, .junk, .junk, .junk, .junk, .junk, .junk, .junk, .junk, .junk, .junk, .junk, .junk, .junk, .junk, .junk, .junk, .junk, .junk, .junk, .junk, .junk] st (topQ TT Go.Proofs.Tryz.f46 R) = bx_spec_l00Src_typed_p2 x0 x1 x2 x3 x4 x8 x10 x11 x12 x13 x14 x20 x21 x22 x41 x42 x43 x44 x45 x46 x47 st R (fun x0 x1 x2 x3 x4 x8 x10 x11 x12 x13 x14 x15 x20 x21 x22 x41 x42 x43 x44 x45 x46 x47 x87 x88 x89 x90 st => hCode prog TT an_spec_l00Src_typed (codeAt [true, true, true, true, true, true, true] (optGet Go.Proofs.Tryz.f46.body)) [x0, x1, x2, x3, x4, .junk, .junk, .junk, x8, .junk, x10, x11, x12, x13, x14, x15, .junk, .junk, .junk, .junk, x20, x21, x22, .junk, .junk, .junk, .junk, .junk, .junk, .junk, .junk, .junk, .junk, .junk, .junk, .junk, .junk, .junk, .junk, .junk, .junk, x41, x42, x43, x44, x45, x46, x47, .junk, .junk, .junk, .junk, .junk, .junk, .junk, .junk, .junk, .junk, .junk, .junk, .junk, .junk, .junk, .junk, .junk, .junk, .junk, .junk, .junk, .junk, .junk, .junk, .junk, .junk, .junk, .junk, .junk, .junk, .junk, .junk, .junk, .junk, .junk, .junk, .junk, .junk, .junk, x87, x88, x89, x90, .junk, .junk, .junk, .junk, .junk, .junk, .junk, .junk, .junk, .junk, .junk, .junk, .junk, .junk, .junk, .junk, .junk, .junk, .junk, .junk, .junk, .junk, .junk, .junk, .junk, .junk, .junk, .junk, .junk, .junk, .junk, .junk, .junk, .junk, .junk, .junk, .junk, .junk, .junk, .junk, .junk, .junk, .junk, .junk, .junk, .junk, .junk, .junk, .junk, .junk, .junk, .junk, .junk, .junk, .junk, .junk, .junk, .junk, .junk, .junk, .junk, .junk, .junk, .junk, .junk, .junk, .junk, .junk, .junk, .junk, .junk, .junk, .junk, .junk, .junk, .junk, .junk, .junk, .junk, .junk, .junk, .junk, .junk, .junk, .junk, .junk, .junk, .junk, .junk, .junk, .junk, .junk, .junk, .junk, .junk, .junk, .junk, .junk, .junk, .junk, .junk, .junk, .junk, .junk, .junk, .junk, .junk, .junk, .junk, .junk, .junk, .junk, .junk, .junk, .junk, .junk, .junk] st (topQ TT Go.Proofs.Tryz.f46 R)) from t_spec_l00Src_typed_p2 (codeAt [true, true, true, true, true, true, true] (optGet Go.Proofs.Tryz.f46.body)) x0 x1 x2 x3 x4 x8 x10 x11 x12 x13 x14 x20 x21 x22 x41 x42 x43 x44 x45 x46 x47 st R).trans (congrArg (bx_spec_l00Src_typed_p2 x0 x1 x2 x3 x4 x8 x10 x11 x12 x13 x14 x20 x21 x22 x41 x42 x43 x44 x45 x46 x47 st R) (funext fun x0 => funext fun x1 => funext fun x2 => funext fun x3 => funext fun x4 => funext fun x8 => funext fun x10 => funext fun x11 => funext fun x12 => funext fun x13 => funext fun x14 => funext fun x15 => funext fun x20 => funext fun x21 => funext fun x22 => funext fun x41 => funext fun x42 => funext fun x43 => funext fun x44 => funext fun x45 => funext fun x46 => funext fun x47 => funext fun x87 => funext fun x88 => funext fun x89 => funext fun x90 => funext fun st => q_spec_l00Src_typed_p3 x0 x1 x2 x3 x4 x8 x10 x11 x12 x13 x14 x15 x20 x21 x22 x41 x42 x43 x44 x45 x46 x47 x87 x88 x89 x90 st R))
def bx_spec_l00Src_typed_p1 (x0 x1 x2 x3 x4 x8 x10 x11 x12 x13 x20 x21 x22 x41 x42 x43 : PV) (st : St) (R : Res → St → Prop) (K2 : PV → PV → PV → PV → PV → PV → PV → PV → PV → PV → PV → PV → PV → PV → PV → PV → PV → PV → PV → PV → PV → St → Prop) : Prop :=
 hFix (fun ls st X =>
  qb (q_len x1) fun v46 =>
  qb (q_bin .lss (ls.getD 2 .junk) v46) fun v47 =>
  cb v47 fun b_1 => br b_1
   (hJ (fun ls_1 st =>
    cb (ls_1.getD 0 .junk) fun b_2 => br b_2
     (qb (q_len x1) fun v73 =>
     qb (q_bin .sub v73 (.int .i64 1)) fun v74 =>
     qb (q_bin .sub v74 (ls.getD 2 .junk)) fun v76 =>
     callK prog n_spec_l01Var [v76, (.sl 0 true [])] st (fun v77 st =>
     qb (q_lit 4 1 0 [] [(0, v77)]) fun v78 =>
     e_append st 4 56 (ls.getD 0 .junk) v78 (fun v79 st =>
     qb (q_ia 4 x1 (ls.getD 2 .junk)) fun v83 =>
     qb (q_load st true 4 v83) fun v84 =>
     qb (q_lit 4 1 0 [] [(0, v84)]) fun v85 =>
     e_append st 4 56 (ls.getD 1 .junk) v85 (fun v86 st =>
     qb (q_bin .add (ls.getD 2 .junk) (.int .i64 1)) fun v49 =>
     X [v79, v86, v49] st))) (panR R))
     (qb (q_bin .add (ls.getD 2 .junk) (.int .i64 1)) fun v49_1 =>
     X [(ls.getD 0 .junk), (ls.getD 1 .junk), v49_1] st))
    (fun k =>
   qb (q_ia 4 x1 (ls.getD 2 .junk)) fun v52 =>
   qb (q_load st true 4 v52) fun v53 =>
   qb (q_fa 2 x8) fun v56 =>
   qb (q_load st false 1 v56) fun v57 =>
   callK prog n_spec_l03Target [v53] st (fun v54 st =>
   q_load st false 1 v56 = some v57 ∧ (qb (q_field false 1 2 v54) fun v55 =>
   qb (q_bin .eql v55 v57) fun v58 =>
   cb v58 fun b_3 => br b_3
    (qb (q_bin .gtr x4 (.int .i64 0)) fun v61 =>
    cb v61 fun b_4 => br b_4
     (k [(.bool true)] st)
     (qb (q_ia 4 x1 (ls.getD 2 .junk)) fun v65 =>
     qb (q_fa 0 v65) fun v66 =>
     qb (q_load st false 1 v66) fun v67 =>
     qb (q_bin .eql v67 (.int .i64 9)) fun v68 =>
     k [v68] st))
    (k [(.bool false)] st))) (panR R)))
   (K2 x0 x1 x2 x3 x4 x8 x10 x11 (ls.getD 0 .junk) (ls.getD 1 .junk) (ls.getD 2 .junk) x20 x21 x22 x41 x42 x43 (ls.getD 2 .junk) x1 v46 v47 st))
  [x12, x13, (.int .i64 0)] st
def b_spec_l00Src_typed_p1 (x0 x1 x2 x3 x4 x8 x10 x11 x12 x13 x20 x21 x22 x41 x42 x43 : PV) (st : St) (R : Res → St → Prop) : Prop := bx_spec_l00Src_typed_p1 x0 x1 x2 x3 x4 x8 x10 x11 x12 x13 x20 x21 x22 x41 x42 x43 st R (fun x0 x1 x2 x3 x4 x8 x10 x11 x12 x13 x14 x20 x21 x22 x41 x42 x43 x44 x45 x46 x47 st => b_spec_l00Src_typed_p2 x0 x1 x2 x3 x4 x8 x10 x11 x12 x13 x14 x20 x21 x22 x41 x42 x43 x44 x45 x46 x47 st R)
theorem t_spec_l00Src_typed_p1 (c : Code) (x0 x1 x2 x3 x4 x8 x10 x11 x12 x13 x20 x21 x22 x41 x42 x43 : PV) (st : St) (R : Res → St → Prop) : hCode prog TT an_spec_l00Src_typed (putAt [true] (codeAt [true, true, true, true, true] (optGet Go.Proofs.Tryz.f46.body)) c) [x0, x1, x2, x3, x4, .junk, .junk, .junk, x8, .junk, x10, x11, x12, x13, .junk, .junk, .junk, .junk, .junk, .junk, x20, x21, x22, .junk, .junk, .junk, .junk, .junk, .junk, .junk, .junk, .junk, .junk, .junk, .junk, .junk, .junk, .junk, .junk, .junk, .junk, x41, x42, x43, .junk, .junk, .junk, .junk, .junk, .junk, .junk, .junk, .junk, .junk, .junk, .junk, .junk, .junk, .junk, .junk, .junk, .junk, .junk, .junk, .junk, .junk, .junk, .junk, .junk, .junk, .junk, .junk, .junk, .junk, .junk, .junk, .junk, .junk, .junk, .junk, .junk, .junk, .junk, .junk, .junk, .junk, .junk, .junk, .junk, .junk, .junk, .junk, .junk, .junk, .junk, .junk, .junk, .junk, .junk, .junk, .junk, .junk, .junk, .junk, .junk, .junk, .junk, .junk, .junk, .junk, .junk, .junk, .junk, .junk, .junk, .junk, .junk, .junk, .junk, .junk, .junk, .junk, .junk, .junk, .junk, .junk, .junk, .junk, .junk, .junk, .junk, .junk, .junk, .junk, .junk, .junk, .junk, .junk, .junk, .junk, .junk, .junk, .junk, .junk, .junk, .junk, .junk, .junk, .junk, .junk, .junk, .junk, .junk, .junk, .junk, .junk, .junk, .junk, .junk, .junk, .junk, .junk, .junk, .junk, .junk, .junk, .junk, .junk, .junk, .junk, .junk, .junk, .junk, .junk, .junk, .junk, .junk, .junk, .junk, .junk, .junk, .junk, .junk, .junk, .junk, .junk, .junk, .junk, .junk, .junk, .junk, .junk, .junk, .junk, .junk, .junk, .junk, .junk, .junk, .junk, .junk, .junk, .junk, .junk, .junk, .junk, .junk, .junk] st (topQ TT Go.Proofs.Tryz.f46 R) = bx_spec_l00Src_typed_p1 x0 x1 x2 x3 x4 x8 x10 x11 x12 x13 x20 x21 x22 x41 x42 x43 st R (fun x0 x1 x2 x3 x4 x8 x10 x11 x12 x13 x14 x20 x21 x22 x41 x42 x43 x44 x45 x46 x47 st => hCode prog TT an_spec_l00Src_typed c [x0, x1, x2, x3, x4, .junk, .junk, .junk, x8, .junk, x10, x11, x12, x13, x14, .junk, .junk, .junk, .junk, .junk, x20, x21, x22, .junk, .junk, .junk, .junk, .junk, .junk, .junk, .junk, .junk, .junk, .junk, .junk, .junk, .junk, .junk, .junk, .junk, .junk, x41, x42, x43, x44, x45, x46, x47, .junk, .junk, .junk, .junk, .junk, .junk, .junk, .junk, .junk, .junk, .junk, .junk, .junk, .junk, .junk, .junk, .junk, .junk, .junk, .junk, .junk, .junk, .junk, .junk, .junk, .junk, .junk, .junk, .junk, .junk, .junk, .junk, .junk, .junk, .junk, .junk, .junk, .junk, .junk, .junk, .junk, .junk, .junk, .junk, .junk, .junk, .junk, .junk, .junk, .junk, .junk, .junk, .junk, .junk, .junk, .junk, .junk, .junk, .junk, .junk, .junk, .junk, .junk, .junk, .junk, .junk, .junk, .junk, .junk, .junk, .junk, .junk, .junk, .junk, .junk, .junk, .junk, .junk, .junk, .junk, .junk, .junk, .junk, .junk, .junk, .junk, .junk, .junk, .junk, .junk, .junk, .junk, .junk, .junk, .junk, .junk, .junk, .junk, .junk, .junk, .junk, .junk, .junk, .junk, .junk, .junk, .junk, .junk, .junk, .junk, .junk, .junk, .junk, .junk, .junk, .junk, .junk, .junk, .junk, .junk, .junk, .junk, .junk, .junk, .junk, .junk, .junk, .junk, .junk, .junk, .junk, .junk, .junk, .junk, .junk, .junk, .junk, .junk, .junk, .junk, .junk, .junk, .junk, .junk, .junk, .junk, .junk, .junk, .junk, .junk, .junk, .junk, .junk, .junk, .junk, .junk, .junk, .junk, .junk, .junk] st (topQ TT Go.Proofs.Tryz.f46 R)) := by kernel_rfl
theorem q_spec_l00Src_typed_p1 (x0 x1 x2 x3 x4 x8 x10 x11 x12 x13 x20 x21 x22 x41 x42 x43 : PV) (st : St) (R : Res → St → Prop) : hCode prog TT an_spec_l00Src_typed (codeAt [true, true, true, true, true] (optGet Go.Proofs.Tryz.f46.body)) [x0, x1, x2, x3, x4, .junk, .junk, .junk, x8, .junk, x10, x11, x12, x13, .junk, .junk, .junk, .junk, .junk, .junk, x20, x21, x22, .junk, .junk, .junk, .junk, .junk, .junk, .junk, .junk, .junk, .junk, .junk, .junk, .junk, .junk, .junk, .junk, .junk, .junk, x41, x42, x43, .junk, .junk, .junk, .junk, .junk, .junk, .junk, .junk, .junk, .junk, .junk, .junk, .junk, .junk, .junk, .junk, .junk, .junk, .junk, .junk, .junk, .junk, .junk, .junk, .junk, .junk, .junk, .junk, .junk, .junk, .junk, .junk, .junk, .junk, .junk, .junk, .junk, .junk, .junk, .junk, .junk, .junk, .junk, .junk, .junk, .junk, .junk, .junk, .junk, .junk, .junk, .junk, .junk, .junk, .junk, .junk, .junk, .junk, .junk, .junk, .junk, .junk, .junk, .junk, .junk, .junk, .junk, .junk, .junk, .junk, .junk, .junk, .junk, .junk, .junk, .junk, .junk, .junk, .junk, .junk, .junk, .junk, .junk, .junk, .junk, .junk, .junk, .junk, .junk, .junk, .junk, .junk, .junk, .junk, .junk, .junk, .junk, .junk, .junk, .junk, .junk, .junk, .junk, .junk, .junk, .junk, .junk, .junk, .junk, .junk, .junk, .junk, .junk, .junk, .junk, .junk, .junk, .junk, .junk, .junk, .junk, .junk, .junk, .junk, .junk, .junk, .junk, .junk, .junk, .junk, .junk, .junk, .junk, .junk, .junk, .junk, .junk, .junk, .junk, .junk, .junk, .junk, .junk, .junk, .junk, .junk, .junk, .junk, .junk, .junk, .junk, .junk, .junk, .junk, .junk, .junk, .junk, .junk, .junk, .junk, .junk, .junk, .junk, .junk] st (topQ TT Go.Proofs.Tryz.f46 R) = b_spec_l00Src_typed_p1 x0 x1 x2 x3 x4 x8 x10 x11 x12 x13 x20 x21 x22 x41 x42 x43 st R :=
 (show hCode prog TT an_spec_l00Src_typed (codeAt [true, true, true, true, true] (optGet Go.Proofs.Tryz.f46.body)) [x0, x1, x2, x3, x4, .junk, .junk, .junk, x8, .junk, x10, x11, x12, x13, .junk, .junk, .junk, .junk, .junk, .junk, x20, x21, x22, .junk, .junk, .junk, .junk, .junk, .junk, .junk, .junk, .junk, .junk, .junk, .junk, .junk, .junk, .junk, .junk, .junk, .junk, x41, x42, x43, .junk, .junk, .junk, .junk, .junk, .junk, .junk, .junk, .junk, .junk, .junk, .junk, .junk, .junk, .junk, .junk, .junk, .junk, .junk, .junk, .junk, .junk, .junk, .junk, .junk, .junk, .junk, .junk, .junk, .junk, .junk, .junk, .junk, .junk, .junk, .junk, .junk, .junk, .junk, .junk, .junk, .junk, .junk, .junk, .junk, .junk, .junk, .junk, .junk, .junk, .junk, .junk, .junk, .junk, .junk, .junk, .junk, .junk, .junk, .junk, .junk, .junk, .junk, .junk, .junk, .junk, .junk, .junk, .junk, .junk, .junk, .junk, .junk, .junk, .junk, .junk, .junk, .junk, .junk, .junk, .junk, .junk, .junk, .junk, .junk, .junk, .junk, .junk, .junk, .junk, .junk, .junk, .junk, .junk, .junk, .junk, .junk, .junk, .junk, .junk, .junk, .junk, .junk, .junk, .junk, .junk, .junk, .junk, .junk, .junk, .junk, .junk, .junk, .junk, .junk, .junk, .junk, .junk, .junk, .junk, .junk, .junk, .junk, .junk, .junk, .junk, .junk, .junk, .junk, .junk, .junk, .junk, .junk, .junk, .junk, .junk, .junk, .junk, .junk, .junk, .junk, .junk, .junk, .junk, .junk, .junk, .junk, .junk, .junk, .junk, .junk, .junk, .junk, .junk, .junk, .junk, .junk, .junk, .junk, .junk, .junk, .junk, .junk, .junk] st (topQ TT Go.Proofs.Tryz.f46 R) = bx_spec_l00Src_typed_p1 x0 x1 x2 x3 x4 x8 x10 x11 x12 x13 x20 x21 x22 x41 x42 x43 st R (fun x0 x1 x2 x3 x4 x8 x10 x11 x12 x13 x14 x20 x21 x22 x41 x42 x43 x44 x45 x46 x47 st => hCode prog TT an_spec_l00Src_typed (codeAt [true, true, true, true, true, true] (optGet Go.Proofs.Tryz.f46.body)) [x0, x1, x2, x3, x4, .junk, .junk, .junk, x8, .junk, x10, x11, x12, x13, x14, .junk, .junk, .junk, .junk, .junk, x20, x21, x22, .junk, .junk, .junk, .junk, .junk, .junk, .junk, .junk, .junk, .junk, .junk, .junk, .junk, .junk, .junk, .junk, .junk, .junk, x41, x42, x43, x44, x45, x46, x47, .junk, .junk, .junk, .junk, .junk, .junk, .junk, .junk, .junk, .junk, .junk, .junk, .junk, .junk, .junk, .junk, .junk, .junk, .junk, .junk, .junk, .junk, .junk, .junk, .junk, .junk, .junk, .junk, .junk, .junk, .junk, .junk, .junk, .junk, .junk, .junk, .junk, .junk, .junk, .junk, .junk, .junk, .junk, .junk, .junk, .junk, .junk, .junk, .junk, .junk, .junk, .junk, .junk, .junk, .junk, .junk, .junk, .junk, .junk, .junk, .junk, .junk, .junk, .junk, .junk, .junk, .junk, .junk, .junk, .junk, .junk, .junk, .junk, .junk, .junk, .junk, .junk, .junk, .junk, .junk, .junk, .junk, .junk, .junk, .junk, .junk, .junk, .junk, .junk, .junk, .junk, .junk, .junk, .junk, .junk, .junk, .junk, .junk, .junk, .junk, .junk, .junk, .junk, .junk, .junk, .junk, .junk, .junk, .junk, .junk, .junk, .junk, .junk, .junk, .junk, .junk, .junk, .junk, .junk, .junk, .junk, .junk, .junk, .junk, .junk, .junk, .junk, .junk, .junk, .junk, .junk, .junk, .junk, .junk, .junk, .junk, .junk, .junk, .junk, .junk, .junk, .junk, .junk, .junk, .junk, .junk, .junk, .junk, .junk, .junk, .junk, .junk, .junk, .junk, .junk, .junk, .junk, .junk, .junk, .junk] st (topQ TT Go.Proofs.Tryz.f46 R)) from t_spec_l00Src_typed_p1 (codeAt [true, true, true, true, true, true] (optGet Go.Proofs.Tryz.f46.body)) x0 x1 x2 x3 x4 x8 x10 x11 x12 x13 x20 x21 x22 x41 x42 x43 st R).trans (congrArg (bx_spec_l00Src_typed_p1 x0 x1 x2 x3 x4 x8 x10 x11 x12 x13 x20 x21 x22 x41 x42 x43 st R) (funext fun x0 => funext fun x1 => funext fun x2 => funext fun x3 => funext fun x4 => funext fun x8 => funext fun x10 => funext fun x11 => funext fun x12 => funext fun x13 => funext fun x14 => funext fun x20 => funext fun x21 => funext fun x22 => funext fun x41 => funext fun x42 => funext fun x43 => funext fun x44 => funext fun x45 => funext fun x46 => funext fun x47 => funext fun st => q_spec_l00Src_typed_p2 x0 x1 x2 x3 x4 x8 x10 x11 x12 x13 x14 x20 x21 x22 x41 x42 x43 x44 x45 x46 x47 st R))
def bx_spec_l00Src_typed (a0 a1 a2 a3 a4 : PV) (st : St) (R : Res → St → Prop) (K1 : PV → PV → PV → PV → PV → PV → PV → PV → PV → PV → PV → PV → PV → PV → PV → PV → St → Prop) : Prop :=
 e_box st a3 fun v8 st =>
 e_alloc st [.int .i64 0, .int .i64 0, .str [], .sl 0 true []] fun v10 st =>
 qb (q_fa 0 v8) fun v20 =>
 qb (q_load st false 1 v20) fun v21 =>
 qb (q_bin .eql v21 (.int .i64 10)) fun v22 =>
 cb v22 fun b => br b
  (qb (q_lit 4 0 0 [] []) fun v24 =>
  qb (q_fa 3 v8) fun v27 =>
  qb (q_load st false 1 v27) fun v28 =>
  qb (q_ia 4 v28 (.int .i64 0)) fun v29 =>
  qb (q_load st true 4 v29) fun v30 =>
  qb (q_lit 4 1 0 [] [(0, v30)]) fun v31 =>
  qb (q_fa 3 v8) fun v34 =>
  qb (q_load st false 1 v34) fun v35 =>
  qb (q_ia 4 v35 (.int .i64 1)) fun v36 =>
  qb (q_load st true 4 v36) fun v37 =>
  e_append st 4 56 v24 a1 (fun v26 st =>
  q_load st true 4 v36 = some v37 ∧ q_load st false 1 v34 = some v35 ∧ q_load st true 4 v29 = some v30 ∧ q_load st false 1 v27 = some v28 ∧ (e_append st 4 56 v26 v31 (fun v32 st =>
  q_load st true 4 v36 = some v37 ∧ q_load st false 1 v34 = some v35 ∧ (callK prog n_spec_l00Src_typed [a0, v32, a2, v37, a4] st (fun v39 st =>
  callK prog n_spec_l01Lam [v39] st (fun v40 st =>
  e_store st 4 v10 v40 fun st =>
  qb (q_load st true 4 v10) fun r => retR R r st) (panR R)) (panR R))))))
  (callK prog n_spec_l03Some [] st (fun v41 st =>
  qb (q_lit 4 0 0 [] []) fun v42 =>
  qb (q_lit 4 0 0 [] []) fun v43 =>
  K1 a0 a1 a2 a3 a4 v8 v10 v41 v42 v43 v20 v21 v22 v41 v42 v43 st) (panR R))
def b_spec_l00Src_typed (a0 a1 a2 a3 a4 : PV) (st : St) (R : Res → St → Prop) : Prop := bx_spec_l00Src_typed a0 a1 a2 a3 a4 st R (fun x0 x1 x2 x3 x4 x8 x10 x11 x12 x13 x20 x21 x22 x41 x42 x43 st => b_spec_l00Src_typed_p1 x0 x1 x2 x3 x4 x8 x10 x11 x12 x13 x20 x21 x22 x41 x42 x43 st R)
theorem t_spec_l00Src_typed (c : Code) (a0 a1 a2 a3 a4 : PV) (st : St) (R : Res → St → Prop) : hCode prog TT an_spec_l00Src_typed (putAt [true, true, true, true, true] (codeAt [] (optGet Go.Proofs.Tryz.f46.body)) c) [a0, a1, a2, a3, a4, .junk, .junk, .junk, .junk, .junk, .junk, .junk, .junk, .junk, .junk, .junk, .junk, .junk, .junk, .junk, .junk, .junk, .junk, .junk, .junk, .junk, .junk, .junk, .junk, .junk, .junk, .junk, .junk, .junk, .junk, .junk, .junk, .junk, .junk, .junk, .junk, .junk, .junk, .junk, .junk, .junk, .junk, .junk, .junk, .junk, .junk, .junk, .junk, .junk, .junk, .junk, .junk, .junk, .junk, .junk, .junk, .junk, .junk, .junk, .junk, .junk, .junk, .junk, .junk, .junk, .junk, .junk, .junk, .junk, .junk, .junk, .junk, .junk, .junk, .junk, .junk, .junk, .junk, .junk, .junk, .junk, .junk, .junk, .junk, .junk, .junk, .junk, .junk, .junk, .junk, .junk, .junk, .junk, .junk, .junk, .junk, .junk, .junk, .junk, .junk, .junk, .junk, .junk, .junk, .junk, .junk, .junk, .junk, .junk, .junk, .junk, .junk, .junk, .junk, .junk, .junk, .junk, .junk, .junk, .junk, .junk, .junk, .junk, .junk, .junk, .junk, .junk, .junk, .junk, .junk, .junk, .junk, .junk, .junk, .junk, .junk, .junk, .junk, .junk, .junk, .junk, .junk, .junk, .junk, .junk, .junk, .junk, .junk, .junk, .junk, .junk, .junk, .junk, .junk, .junk, .junk, .junk, .junk, .junk, .junk, .junk, .junk, .junk, .junk, .junk, .junk, .junk, .junk, .junk, .junk, .junk, .junk, .junk, .junk, .junk, .junk, .junk, .junk, .junk, .junk, .junk, .junk, .junk, .junk, .junk, .junk, .junk, .junk, .junk, .junk, .junk, .junk, .junk, .junk, .junk, .junk, .junk, .junk, .junk, .junk, .junk, .junk, .junk] st (topQ TT Go.Proofs.Tryz.f46 R) = bx_spec_l00Src_typed a0 a1 a2 a3 a4 st R (fun x0 x1 x2 x3 x4 x8 x10 x11 x12 x13 x20 x21 x22 x41 x42 x43 st => hCode prog TT an_spec_l00Src_typed c [x0, x1, x2, x3, x4, .junk, .junk, .junk, x8, .junk, x10, x11, x12, x13, .junk, .junk, .junk, .junk, .junk, .junk, x20, x21, x22, .junk, .junk, .junk, .junk, .junk, .junk, .junk, .junk, .junk, .junk, .junk, .junk, .junk, .junk, .junk, .junk, .junk, .junk, x41, x42, x43, .junk, .junk, .junk, .junk, .junk, .junk, .junk, .junk, .junk, .junk, .junk, .junk, .junk, .junk, .junk, .junk, .junk, .junk, .junk, .junk, .junk, .junk, .junk, .junk, .junk, .junk, .junk, .junk, .junk, .junk, .junk, .junk, .junk, .junk, .junk, .junk, .junk, .junk, .junk, .junk, .junk, .junk, .junk, .junk, .junk, .junk, .junk, .junk, .junk, .junk, .junk, .junk, .junk, .junk, .junk, .junk, .junk, .junk, .junk, .junk, .junk, .junk, .junk, .junk, .junk, .junk, .junk, .junk, .junk, .junk, .junk, .junk, .junk, .junk, .junk, .junk, .junk, .junk, .junk, .junk, .junk, .junk, .junk, .junk, .junk, .junk, .junk, .junk, .junk, .junk, .junk, .junk, .junk, .junk, .junk, .junk, .junk, .junk, .junk, .junk, .junk, .junk, .junk, .junk, .junk, .junk, .junk, .junk, .junk, .junk, .junk, .junk, .junk, .junk, .junk, .junk, .junk, .junk, .junk, .junk, .junk, .junk, .junk, .junk, .junk, .junk, .junk, .junk, .junk, .junk, .junk, .junk, .junk, .junk, .junk, .junk, .junk, .junk, .junk, .junk, .junk, .junk, .junk, .junk, .junk, .junk, .junk, .junk, .junk, .junk, .junk, .junk, .junk, .junk, .junk, .junk, .junk, .junk, .junk, .junk, .junk, .junk, .junk, .junk] st (topQ TT Go.Proofs.Tryz.f46 R)) := by kernel_rfl
theorem q_spec_l00Src_typed (a0 a1 a2 a3 a4 : PV) (st : St) (R : Res → St → Prop) : hCode prog TT an_spec_l00Src_typed (codeAt [] (optGet Go.Proofs.Tryz.f46.body)) [a0, a1, a2, a3, a4, .junk, .junk, .junk, .junk, .junk, .junk, .junk, .junk, .junk, .junk, .junk, .junk, .junk, .junk, .junk, .junk, .junk, .junk, .junk, .junk, .junk, .junk, .junk, .junk, .junk, .junk, .junk, .junk, .junk, .junk, .junk, .junk, .junk, .junk, .junk, .junk, .junk, .junk, .junk, .junk, .junk, .junk, .junk, .junk, .junk, .junk, .junk, .junk, .junk, .junk, .junk, .junk, .junk, .junk, .junk, .junk, .junk, .junk, .junk, .junk, .junk, .junk, .junk, .junk, .junk, .junk, .junk, .junk, .junk, .junk, .junk, .junk, .junk, .junk, .junk, .junk, .junk, .junk, .junk, .junk, .junk, .junk, .junk, .junk, .junk, .junk, .junk, .junk, .junk, .junk, .junk, .junk, .junk, .junk, .junk, .junk, .junk, .junk, .junk, .junk, .junk, .junk, .junk, .junk, .junk, .junk, .junk, .junk, .junk, .junk, .junk, .junk, .junk, .junk, .junk, .junk, .junk, .junk, .junk, .junk, .junk, .junk, .junk, .junk, .junk, .junk, .junk, .junk, .junk, .junk, .junk, .junk, .junk, .junk, .junk, .junk, .junk, .junk, .junk, .junk, .junk, .junk, .junk, .junk, .junk, .junk, .junk, .junk, .junk, .junk, .junk, .junk, .junk, .junk, .junk, .junk, .junk, .junk, .junk, .junk, .junk, .junk, .junk, .junk, .junk, .junk, .junk, .junk, .junk, .junk, .junk, .junk, .junk, .junk, .junk, .junk, .junk, .junk, .junk, .junk, .junk, .junk, .junk, .junk, .junk, .junk, .junk, .junk, .junk, .junk, .junk, .junk, .junk, .junk, .junk, .junk, .junk, .junk, .junk, .junk, .junk, .junk, .junk] st (topQ TT Go.Proofs.Tryz.f46 R) = b_spec_l00Src_typed a0 a1 a2 a3 a4 st R :=
 (show hCode prog TT an_spec_l00Src_typed (codeAt [] (optGet Go.Proofs.Tryz.f46.body)) [a0, a1, a2, a3, a4, .junk, .junk, .junk, .junk, .junk, .junk, .junk, .junk, .junk, .junk, .junk, .junk, .junk, .junk, .junk, .junk, .junk, .junk, .junk, .junk, .junk, .junk, .junk, .junk, .junk, .junk, .junk, .junk, .junk, .junk, .junk, .junk, .junk, .junk, .junk, .junk, .junk, .junk, .junk, .junk, .junk, .junk, .junk, .junk, .junk, .junk, .junk, .junk, .junk, .junk, .junk, .junk, .junk, .junk, .junk, .junk, .junk, .junk, .junk, .junk, .junk, .junk, .junk, .junk, .junk, .junk, .junk, .junk, .junk, .junk, .junk, .junk, .junk, .junk, .junk, .junk, .junk, .junk, .junk, .junk, .junk, .junk, .junk, .junk, .junk, .junk, .junk, .junk, .junk, .junk, .junk, .junk, .junk, .junk, .junk, .junk, .junk, .junk, .junk, .junk, .junk, .junk, .junk, .junk, .junk, .junk, .junk, .junk, .junk, .junk, .junk, .junk, .junk, .junk, .junk, .junk, .junk, .junk, .junk, .junk, .junk, .junk, .junk, .junk, .junk, .junk, .junk, .junk, .junk, .junk, .junk, .junk, .junk, .junk, .junk, .junk, .junk, .junk, .junk, .junk, .junk, .junk, .junk, .junk, .junk, .junk, .junk, .junk, .junk, .junk, .junk, .junk, .junk, .junk, .junk, .junk, .junk, .junk, .junk, .junk, .junk, .junk, .junk, .junk, .junk, .junk, .junk, .junk, .junk, .junk, .junk, .junk, .junk, .junk, .junk, .junk, .junk, .junk, .junk, .junk, .junk, .junk, .junk, .junk, .junk, .junk, .junk, .junk, .junk, .junk, .junk, .junk, .junk, .junk, .junk, .junk, .junk, .junk, .junk, .junk, .junk, .junk, .junk] st (topQ TT Go.Proofs.Tryz.f46 R) = bx_spec_l00Src_typed a0 a1 a2 a3 a4 st R (fun x0 x1 x2 x3 x4 x8 x10 x11 x12 x13 x20 x21 x22 x41 x42 x43 st => hCode prog TT an_spec_l00Src_typed (codeAt [true, true, true, true, true] (optGet Go.Proofs.Tryz.f46.body)) [x0, x1, x2, x3, x4, .junk, .junk, .junk, x8, .junk, x10, x11, x12, x13, .junk, .junk, .junk, .junk, .junk, .junk, x20, x21, x22, .junk, .junk, .junk, .junk, .junk, .junk, .junk, .junk, .junk, .junk, .junk, .junk, .junk, .junk, .junk, .junk, .junk, .junk, x41, x42, x43, .junk, .junk, .junk, .junk, .junk, .junk, .junk, .junk, .junk, .junk, .junk, .junk, .junk, .junk, .junk, .junk, .junk, .junk, .junk, .junk, .junk, .junk, .junk, .junk, .junk, .junk, .junk, .junk, .junk, .junk, .junk, .junk, .junk, .junk, .junk, .junk, .junk, .junk, .junk, .junk, .junk, .junk, .junk, .junk, .junk, .junk, .junk, .junk, .junk, .junk, .junk, .junk, .junk, .junk, .junk, .junk, .junk, .junk, .junk, .junk, .junk, .junk, .junk, .junk, .junk, .junk, .junk, .junk, .junk, .junk, .junk, .junk, .junk, .junk, .junk, .junk, .junk, .junk, .junk, .junk, .junk, .junk, .junk, .junk, .junk, .junk, .junk, .junk, .junk, .junk, .junk, .junk, .junk, .junk, .junk, .junk, .junk, .junk, .junk, .junk, .junk, .junk, .junk, .junk, .junk, .junk, .junk, .junk, .junk, .junk, .junk, .junk, .junk, .junk, .junk, .junk, .junk, .junk, .junk, .junk, .junk, .junk, .junk, .junk, .junk, .junk, .junk, .junk, .junk, .junk, .junk, .junk, .junk, .junk, .junk, .junk, .junk, .junk, .junk, .junk, .junk, .junk, .junk, .junk, .junk, .junk, .junk, .junk, .junk, .junk, .junk, .junk, .junk, .junk, .junk, .junk, .junk, .junk, .junk, .junk, .junk, .junk, .junk, .junk] st (topQ TT Go.Proofs.Tryz.f46 R)) from t_spec_l00Src_typed (codeAt [true, true, true, true, true] (optGet Go.Proofs.Tryz.f46.body)) a0 a1 a2 a3 a4 st R).trans (congrArg (bx_spec_l00Src_typed a0 a1 a2 a3 a4 st R) (funext fun x0 => funext fun x1 => funext fun x2 => funext fun x3 => funext fun x4 => funext fun x8 => funext fun x10 => funext fun x11 => funext fun x12 => funext fun x13 => funext fun x20 => funext fun x21 => funext fun x22 => funext fun x41 => funext fun x42 => funext fun x43 => funext fun st => q_spec_l00Src_typed_p1 x0 x1 x2 x3 x4 x8 x10 x11 x12 x13 x20 x21 x22 x41 x42 x43 st R))
theorem c_spec_l00Src_typed {a0 a1 a2 a3 a4 : PV} {st : St} {R : Res → St → Prop} (h : b_spec_l00Src_typed a0 a1 a2 a3 a4 st R) : HCalls prog n_spec_l00Src_typed [a0, a1, a2, a3, a4] st R :=
 hcalls_of_func tyOK mixed (fn := Go.Proofs.Tryz.f46) (by kernel_rfl) (by kernel_rfl) (by kernel_rfl) (ann := an_spec_l00Src_typed)
  (show hFunc prog TT an_spec_l00Src_typed Go.Proofs.Tryz.f46 [a0, a1, a2, a3, a4] st R from ((show hFunc prog TT an_spec_l00Src_typed Go.Proofs.Tryz.f46 [a0, a1, a2, a3, a4] st R = hCode prog TT an_spec_l00Src_typed (codeAt [] (optGet Go.Proofs.Tryz.f46.body)) [a0, a1, a2, a3, a4, .junk, .junk, .junk, .junk, .junk, .junk, .junk, .junk, .junk, .junk, .junk, .junk, .junk, .junk, .junk, .junk, .junk, .junk, .junk, .junk, .junk, .junk, .junk, .junk, .junk, .junk, .junk, .junk, .junk, .junk, .junk, .junk, .junk, .junk, .junk, .junk, .junk, .junk, .junk, .junk, .junk, .junk, .junk, .junk, .junk, .junk, .junk, .junk, .junk, .junk, .junk, .junk, .junk, .junk, .junk, .junk, .junk, .junk, .junk, .junk, .junk, .junk, .junk, .junk, .junk, .junk, .junk, .junk, .junk, .junk, .junk, .junk, .junk, .junk, .junk, .junk, .junk, .junk, .junk, .junk, .junk, .junk, .junk, .junk, .junk, .junk, .junk, .junk, .junk, .junk, .junk, .junk, .junk, .junk, .junk, .junk, .junk, .junk, .junk, .junk, .junk, .junk, .junk, .junk, .junk, .junk, .junk, .junk, .junk, .junk, .junk, .junk, .junk, .junk, .junk, .junk, .junk, .junk, .junk, .junk, .junk, .junk, .junk, .junk, .junk, .junk, .junk, .junk, .junk, .junk, .junk, .junk, .junk, .junk, .junk, .junk, .junk, .junk, .junk, .junk, .junk, .junk, .junk, .junk, .junk, .junk, .junk, .junk, .junk, .junk, .junk, .junk, .junk, .junk, .junk, .junk, .junk, .junk, .junk, .junk, .junk, .junk, .junk, .junk, .junk, .junk, .junk, .junk, .junk, .junk, .junk, .junk, .junk, .junk, .junk, .junk, .junk, .junk, .junk, .junk, .junk, .junk, .junk, .junk, .junk, .junk, .junk, .junk, .junk, .junk, .junk, .junk, .junk, .junk, .junk, .junk, .junk, .junk, .junk, .junk, .junk, .junk, .junk] st (topQ TT Go.Proofs.Tryz.f46 R) by kernel_rfl).trans (q_spec_l00Src_typed a0 a1 a2 a3 a4 st R)) ▸ h)
def b_spec_l01Small (a0 : PV) (st : St) (R : Res → St → Prop) : Prop :=
 e_box st a0 fun v1 st =>
 qb (q_load st true 4 v1) fun v3 =>
 callK prog n_spec_l01Count [v3, (.int .i64 150)] st (fun v4 st =>
 qb (q_bin .geq v4 (.int .i64 0)) fun v5 =>
 retR R v5 st) (panR R)
theorem c_spec_l01Small {a0 : PV} {st : St} {R : Res → St → Prop} (h : b_spec_l01Small a0 st R) : HCalls prog n_spec_l01Small [a0] st R :=
 hcalls_of_func tyOK mixed (fn := Go.Proofs.Tryz.f47) (by kernel_rfl) (by kernel_rfl) (by kernel_rfl) (ann := [])
  (show hFunc prog TT [] Go.Proofs.Tryz.f47 [a0] st R from (show hFunc prog TT [] Go.Proofs.Tryz.f47 [a0] st R = b_spec_l01Small a0 st R by kernel_rfl) ▸ h)
def b_spec_l01Term (a0 a1 : PV) (st : St) (R : Res → St → Prop) : Prop :=
 e_box st a0 fun v2 st =>
 qb (q_fa 0 v2) fun v5 =>
 qb (q_load st false 1 v5) fun v6 =>
 qb (q_bin .eql v6 (.int .i64 4)) fun v8 =>
 cb v8 fun b => br b
  (qb (q_fa 1 v2) fun v9 =>
  qb (q_load st false 1 v9) fun v10 =>
  qb (q_bin .eql v10 (.int .i64 0)) fun v11 =>
  cb v11 fun b_1 => br b_1
   (qb (q_fa 2 v2) fun v13 =>
   qb (q_load st false 1 v13) fun v14 =>
   qb (q_bin .eql v14 (.str [])) fun v15 =>
   cb v15 fun b_2 => br b_2
    (qb (q_fa 3 v2) fun v18 =>
    qb (q_load st false 1 v18) fun v19 =>
    qb (q_len v19) fun v20 =>
    qb (q_bin .eql v20 (.int .i64 1)) fun v21 =>
    cb v21 fun b_3 => br b_3
     (qb (q_fa 3 v2) fun v24 =>
     qb (q_load st false 1 v24) fun v25 =>
     qb (q_ia 4 v25 (.int .i64 0)) fun v26 =>
     qb (q_load st true 4 v26) fun v27 =>
     callK prog n_spec_l01Term [v27, a1] st (fun v29 st =>
     retR R v29 st) (panR R))
     (retR R (.bool false) st))
    (retR R (.bool false) st))
   (retR R (.bool false) st))
  (qb (q_bin .eql v6 (.int .i64 5)) fun v32 =>
  hJ (fun ls st =>
   cb (ls.getD 0 .junk) fun b_5 => br b_5
    (qb (q_fa 1 v2) fun v34 =>
    qb (q_load st false 1 v34) fun v35 =>
    qb (q_bin .geq v35 (.int .i64 0)) fun v36 =>
    cb v36 fun b_6 => br b_6
     (qb (q_fa 1 v2) fun v38 =>
     qb (q_load st false 1 v38) fun v39 =>
     qb (q_bin .leq v39 (.int .i64 100)) fun v40 =>
     cb v40 fun b_7 => br b_7
      (qb (q_fa 2 v2) fun v43 =>
      qb (q_load st false 1 v43) fun v44 =>
      qb (q_bin .eql v44 (.str [])) fun v45 =>
      cb v45 fun b_8 => br b_8
       (qb (q_fa 3 v2) fun v48 =>
       qb (q_load st false 1 v48) fun v49 =>
       callK prog n_spec_l01Terms [v49, a1] st (fun v51 st =>
       retR R v51 st) (panR R))
       (retR R (.bool false) st))
      (retR R (.bool false) st))
     (retR R (.bool false) st))
    (qb (q_bin .eql v6 (.int .i64 6)) fun v54 =>
    cb v54 fun b_9 => br b_9
     (qb (q_fa 1 v2) fun v55 =>
     qb (q_load st false 1 v55) fun v56 =>
     qb (q_bin .eql v56 (.int .i64 0)) fun v57 =>
     cb v57 fun b_10 => br b_10
      (qb (q_fa 2 v2) fun v59 =>
      qb (q_load st false 1 v59) fun v60 =>
      callK prog n_spec_NameOK [v60] st (fun v61 st =>
      cb v61 fun b_11 => br b_11
       (qb (q_fa 3 v2) fun v64 =>
       qb (q_load st false 1 v64) fun v65 =>
       callK prog n_spec_l01Terms [v65, a1] st (fun v67 st =>
       retR R v67 st) (panR R))
       (retR R (.bool false) st)) (panR R))
      (retR R (.bool false) st))
     (retR R (.bool false) st)))
   (fun k =>
  cb v32 fun b_4 => br b_4
   (k [v32] st)
   (qb (q_bin .eql v6 (.int .i64 7)) fun v33 =>
   k [v33] st)))
theorem e_spec_l01Term : Enters prog n_spec_l01Term := ⟨Go.Proofs.Tryz.f48, by kernel_rfl, by kernel_rfl, by kernel_rfl⟩
theorem c_spec_l01Term {a0 a1 : PV} {st : St} {R : Res → St → Prop} (h : b_spec_l01Term a0 a1 st R) : HCalls prog n_spec_l01Term [a0, a1] st R :=
 hcalls_of_func tyOK mixed (fn := Go.Proofs.Tryz.f48) (by kernel_rfl) (by kernel_rfl) (by kernel_rfl) (ann := [(22, [31])])
  (show hFunc prog TT [(22, [31])] Go.Proofs.Tryz.f48 [a0, a1] st R from (show hFunc prog TT [(22, [31])] Go.Proofs.Tryz.f48 [a0, a1] st R = b_spec_l01Term a0 a1 st R by kernel_rfl) ▸ h)
def b_slices_ContainsFunc_impl_Tree_impl_Tree (a0 a1 : PV) (st : St) (R : Res → St → Prop) : Prop :=
 callK prog n_slices_IndexFunc_impl_Tree_impl_Tree [a0, a1] st (fun v7 st =>
 qb (q_bin .geq v7 (.int .i64 0)) fun v8 =>
 retR R v8 st) (panR R)
theorem c_slices_ContainsFunc_impl_Tree_impl_Tree {a0 a1 : PV} {st : St} {R : Res → St → Prop} (h : b_slices_ContainsFunc_impl_Tree_impl_Tree a0 a1 st R) : HCalls prog n_slices_ContainsFunc_impl_Tree_impl_Tree [a0, a1] st R :=
 hcalls_of_func tyOK mixed (fn := Go.Proofs.Tryz.f49) (by kernel_rfl) (by kernel_rfl) (by kernel_rfl) (ann := [])
  (show hFunc prog TT [] Go.Proofs.Tryz.f49 [a0, a1] st R from (show hFunc prog TT [] Go.Proofs.Tryz.f49 [a0, a1] st R = b_slices_ContainsFunc_impl_Tree_impl_Tree a0 a1 st R by kernel_rfl) ▸ h)
def b_impl_Fill_1 (a0 : PV) (st : St) (R : Res → St → Prop) : Prop :=
 e_box st a0 fun v1 st =>
 qb (q_load st true 4 v1) fun v3 =>
 callK prog n_impl_closed [v3] st (fun v4 st =>
 qb (q_un .not v4) fun v5 =>
 retR R v5 st) (panR R)
theorem c_impl_Fill_1 {a0 : PV} {st : St} {R : Res → St → Prop} (h : b_impl_Fill_1 a0 st R) : HCalls prog n_impl_Fill_1 [a0] st R :=
 hcalls_of_func tyOK mixed (fn := Go.Proofs.Tryz.f50) (by kernel_rfl) (by kernel_rfl) (by kernel_rfl) (ann := [])
  (show hFunc prog TT [] Go.Proofs.Tryz.f50 [a0] st R from (show hFunc prog TT [] Go.Proofs.Tryz.f50 [a0] st R = b_impl_Fill_1 a0 st R by kernel_rfl) ▸ h)
def b_impl_closed (a0 : PV) (st : St) (R : Res → St → Prop) : Prop :=
 e_box st a0 fun v1 st =>
 callK prog n_impl_Tree_each [v1, (.int .i64 0), (.fn (.func n_impl_closed_1) [] [])] st (fun v3 st =>
 qb (q_un .not v3) fun v4 =>
 retR R v4 st) (panR R)
theorem c_impl_closed {a0 : PV} {st : St} {R : Res → St → Prop} (h : b_impl_closed a0 st R) : HCalls prog n_impl_closed [a0] st R :=
 hcalls_of_func tyOK mixed (fn := Go.Proofs.Tryz.f51) (by kernel_rfl) (by kernel_rfl) (by kernel_rfl) (ann := [])
  (show hFunc prog TT [] Go.Proofs.Tryz.f51 [a0] st R from (show hFunc prog TT [] Go.Proofs.Tryz.f51 [a0] st R = b_impl_closed a0 st R by kernel_rfl) ▸ h)
def b_impl_Tree_each (a0 a1 a2 : PV) (st : St) (R : Res → St → Prop) : Prop :=
 e_call prog st a2 [a0, a1] (fun v11 st =>
 cb v11 fun b => br b
  (retR R (.bool true) st)
  (qb (q_nil a0) fun v13 =>
  qb (q_fa 3 v13) fun v14 =>
  qb (q_load st false 1 v14) fun v15 =>
  qb (q_len v15) fun v16 =>
  hFix (fun ls st X =>
   qb (q_bin .lss (ls.getD 0 .junk) v16) fun v18 =>
   cb v18 fun b_1 => br b_1
    (qb (q_nil a0) fun v21 =>
    qb (q_fa 3 v21) fun v22 =>
    qb (q_load st false 1 v22) fun v23 =>
    qb (q_ia 4 v23 (ls.getD 0 .junk)) fun v25 =>
    callK prog n_impl_Tree_under [a0, (ls.getD 0 .junk)] st (fun v29 st =>
    q_load st false 1 v22 = some v23 ∧ (qb (q_bin .add a1 v29) fun v30 =>
    callK prog n_impl_Tree_each [v25, v30, a2] st (fun v32 st =>
    cb v32 fun b_2 => br b_2
     (retR R (.bool true) st)
     (qb (q_bin .add (ls.getD 0 .junk) (.int .i64 1)) fun v33 =>
     X [v33] st)) (panR R))) (panR R))
    (retR R (.bool false) st))
   [(.int .i64 0)] st)) (panR R)
theorem c_impl_Tree_each {a0 a1 a2 : PV} {st : St} {R : Res → St → Prop} (h : b_impl_Tree_each a0 a1 a2 st R) : HCalls prog n_impl_Tree_each [a0, a1, a2] st R :=
 hcalls_of_func tyOK mixed (fn := Go.Proofs.Tryz.f52) (by kernel_rfl) (by kernel_rfl) (by kernel_rfl) (ann := [(16, [17])])
  (show hFunc prog TT [(16, [17])] Go.Proofs.Tryz.f52 [a0, a1, a2] st R from (show hFunc prog TT [(16, [17])] Go.Proofs.Tryz.f52 [a0, a1, a2] st R = b_impl_Tree_each a0 a1 a2 st R by kernel_rfl) ▸ h)
def b_impl_Fill_2 (a0 a1 a2 : PV) (st : St) (R : Res → St → Prop) : Prop :=
 qb (q_nil a0) fun v7 =>
 qb (q_fa 0 v7) fun v8 =>
 qb (q_load st false 1 v8) fun v9 =>
 qb (q_bin .eql v9 (.int .i64 7)) fun v10 =>
 cb v10 fun b => br b
  (qb (q_nil a0) fun v13 =>
  qb (q_fa 1 v13) fun v14 =>
  qb (q_load st false 1 v14) fun v15 =>
  qb (q_load st false 1 a2) fun v16 =>
  qb (q_len v16) fun v17 =>
  qb (q_bin .geq v15 v17) fun v18 =>
  retR R v18 st)
  (retR R (.bool false) st)
theorem c_impl_Fill_2 {a0 a1 a2 : PV} {st : St} {R : Res → St → Prop} (h : b_impl_Fill_2 a0 a1 a2 st R) : HCalls prog n_impl_Fill_2 [a0, a1, a2] st R :=
 hcalls_of_func tyOK mixed (fn := Go.Proofs.Tryz.f53) (by kernel_rfl) (by kernel_rfl) (by kernel_rfl) (ann := [])
  (show hFunc prog TT [] Go.Proofs.Tryz.f53 [a0, a1, a2] st R from (show hFunc prog TT [] Go.Proofs.Tryz.f53 [a0, a1, a2] st R = b_impl_Fill_2 a0 a1 a2 st R by kernel_rfl) ▸ h)
def b_impl_Fill_3 (a0 a1 a2 : PV) (st : St) (R : Res → St → Prop) : Prop :=
 e_alloc st [.int .i64 0, .int .i64 0, .str [], .sl 0 true []] fun v3 st =>
 qb (q_struct [.int .i64 0] []) fun v4 =>
 e_box st v4 fun v5 st =>
 qb (q_load st true 4 a0) fun v6 =>
 callK prog n_impl_work_fill [v5, v6, (.fn (.func n_impl_Fill_3_1) [] [a1, a2])] st (fun v8 st =>
 e_store st 4 v3 v8 fun st =>
 qb (q_load st true 4 v3) fun r => retR R r st) (panR R)
theorem c_impl_Fill_3 {a0 a1 a2 : PV} {st : St} {R : Res → St → Prop} (h : b_impl_Fill_3 a0 a1 a2 st R) : HCalls prog n_impl_Fill_3 [a0, a1, a2] st R :=
 hcalls_of_func tyOK mixed (fn := Go.Proofs.Tryz.f54) (by kernel_rfl) (by kernel_rfl) (by kernel_rfl) (ann := [])
  (show hFunc prog TT [] Go.Proofs.Tryz.f54 [a0, a1, a2] st R from (show hFunc prog TT [] Go.Proofs.Tryz.f54 [a0, a1, a2] st R = b_impl_Fill_3 a0 a1 a2 st R by kernel_rfl) ▸ h)
def b_impl_work_fill (a0 a1 a2 : PV) (st : St) (R : Res → St → Prop) : Prop :=
 e_box st a1 fun v4 st =>
 e_alloc st [.int .i64 0, .int .i64 0, .str [], .sl 0 true []] fun v6 st =>
 qb (q_lit 4 0 0 [] []) fun v13 =>
 qb (q_fa 3 v4) fun v14 =>
 qb (q_load st false 1 v14) fun v15 =>
 qb (q_len v15) fun v16 =>
 hJ (fun ls st =>
  qb (q_fa 0 v4) fun v29 =>
  qb (q_load st false 1 v29) fun v30 =>
  qb (q_bin .eql v30 (.int .i64 7)) fun v31 =>
  hJ (fun ls_1 st =>
   qb (q_fa 3 v4) fun v47 =>
   e_store st 1 v47 (ls.getD 0 .junk) fun st =>
   qb (q_load st true 4 v4) fun v48 =>
   callK prog n_impl_formed [v48] st (fun v49 st =>
   e_store st 4 v6 v49 fun st =>
   qb (q_load st true 4 v6) fun r => retR R r st) (panR R))
   (fun k_1 =>
  cb v31 fun b => br b
   (qb (q_fa 1 v4) fun v34 =>
   qb (q_load st false 1 v34) fun v35 =>
   e_call prog st a2 [v35] (fun v36 st =>
   qb (q_ex v36 0) fun v37 =>
   qb (q_ex v36 1) fun v38 =>
   qb (q_ex v36 2) fun v39 =>
   e_alloc st [.int .i64 0, .int .i64 0, .str [], .sl 0 true []] fun v10 st =>
   e_alloc st [.int .i64 0, .int .i64 0, .str [], .sl 0 true []] fun v11 st =>
   e_store st 4 v10 v37 fun st =>
   e_store st 4 v11 v38 fun st =>
   cb v39 fun b_1 => br b_1
    (qb (q_load st true 4 v10) fun v42 =>
    qb (q_load st true 4 v11) fun v43 =>
    callK prog n_impl_work_apply [a0, v42, v43, (ls.getD 0 .junk)] st (fun v45 st =>
    e_store st 4 v6 v45 fun st =>
    qb (q_load st true 4 v6) fun r_1 => retR R r_1 st) (panR R))
    (k_1 [] st)) (panR R))
   (k_1 [] st)))
  (fun k =>
 hFix (fun ls_2 st X =>
  qb (q_bin .lss (ls_2.getD 1 .junk) v16) fun v18 =>
  cb v18 fun b_2 => br b_2
   (qb (q_ia 4 v15 (ls_2.getD 1 .junk)) fun v19 =>
   qb (q_load st true 4 v19) fun v20 =>
   e_alloc st [.int .i64 0, .int .i64 0, .str [], .sl 0 true []] fun v9 st =>
   e_store st 4 v9 v20 fun st =>
   qb (q_load st true 4 v9) fun v23 =>
   callK prog n_impl_work_fill [a0, v23, a2] st (fun v25 st =>
   qb (q_lit 4 1 0 [] [(0, v25)]) fun v26 =>
   e_append st 4 56 (ls_2.getD 0 .junk) v26 (fun v27 st =>
   qb (q_bin .add (ls_2.getD 1 .junk) (.int .i64 1)) fun v28 =>
   X [v27, v28] st)) (panR R))
   (k [(ls_2.getD 0 .junk)] st))
  [v13, (.int .i64 0)] st)
theorem c_impl_work_fill {a0 a1 a2 : PV} {st : St} {R : Res → St → Prop} (h : b_impl_work_fill a0 a1 a2 st R) : HCalls prog n_impl_work_fill [a0, a1, a2] st R :=
 hcalls_of_func tyOK mixed (fn := Go.Proofs.Tryz.f55) (by kernel_rfl) (by kernel_rfl) (by kernel_rfl) (ann := [(12, [7, 17]), (3, [7]), (34, [])])
  (show hFunc prog TT [(12, [7, 17]), (3, [7]), (34, [])] Go.Proofs.Tryz.f55 [a0, a1, a2] st R from (show hFunc prog TT [(12, [7, 17]), (3, [7]), (34, [])] Go.Proofs.Tryz.f55 [a0, a1, a2] st R = b_impl_work_fill a0 a1 a2 st R by kernel_rfl) ▸ h)
def b_impl_Fill_3_1 (a0 a1 a2 : PV) (st : St) (R : Res → St → Prop) : Prop :=
 e_alloc st [.int .i64 0, .int .i64 0, .str [], .sl 0 true []] fun v4 st =>
 e_alloc st [.int .i64 0, .int .i64 0, .str [], .sl 0 true []] fun v5 st =>
 qb (q_load st false 1 a1) fun v7 =>
 qb (q_ia 4 v7 a0) fun v9 =>
 qb (q_load st true 4 v9) fun v10 =>
 qb (q_load st false 1 a2) fun v11 =>
 qb (q_ia 4 v11 a0) fun v13 =>
 qb (q_load st true 4 v13) fun v14 =>
 e_store st 4 v4 v10 fun st =>
 q_load st true 4 v13 = some v14 ∧ q_load st false 1 a2 = some v11 ∧ (e_store st 4 v5 v14 fun st =>
 qb (q_load st true 4 v4) fun r => qb (q_load st true 4 v5) fun r_1 => retR R (.tup [r, r_1, (.bool true)]) st)
theorem c_impl_Fill_3_1 {a0 a1 a2 : PV} {st : St} {R : Res → St → Prop} (h : b_impl_Fill_3_1 a0 a1 a2 st R) : HCalls prog n_impl_Fill_3_1 [a0, a1, a2] st R :=
 hcalls_of_func tyOK mixed (fn := Go.Proofs.Tryz.f56) (by kernel_rfl) (by kernel_rfl) (by kernel_rfl) (ann := [])
  (show hFunc prog TT [] Go.Proofs.Tryz.f56 [a0, a1, a2] st R from (show hFunc prog TT [] Go.Proofs.Tryz.f56 [a0, a1, a2] st R = b_impl_Fill_3_1 a0 a1 a2 st R by kernel_rfl) ▸ h)
def b_spec_l03Simples (a0 a1 : PV) (st : St) (R : Res → St → Prop) : Prop :=
 qb (q_len a0) fun v7 =>
 qb (q_bin .gtr v7 a1) fun v9 =>
 cb v9 fun b => br b
  (retR R (.bool false) st)
  (hFix (fun ls st X =>
   qb (q_len a0) fun v12 =>
   qb (q_bin .lss (ls.getD 0 .junk) v12) fun v13 =>
   cb v13 fun b_1 => br b_1
    (qb (q_ia 4 a0 (ls.getD 0 .junk)) fun v18 =>
    qb (q_load st true 4 v18) fun v19 =>
    callK prog n_spec_SimpleOK [v19] st (fun v20 st =>
    qb (q_un .not v20) fun v21 =>
    cb v21 fun b_2 => br b_2
     (retR R (.bool false) st)
     (qb (q_bin .add (ls.getD 0 .junk) (.int .i64 1)) fun v15 =>
     X [v15] st)) (panR R))
    (retR R (.bool true) st))
   [(.int .i64 0)] st)
theorem e_spec_l03Simples : Enters prog n_spec_l03Simples := ⟨Go.Proofs.Tryz.f57, by kernel_rfl, by kernel_rfl, by kernel_rfl⟩
theorem c_spec_l03Simples {a0 a1 : PV} {st : St} {R : Res → St → Prop} (h : b_spec_l03Simples a0 a1 st R) : HCalls prog n_spec_l03Simples [a0, a1] st R :=
 hcalls_of_func tyOK mixed (fn := Go.Proofs.Tryz.f57) (by kernel_rfl) (by kernel_rfl) (by kernel_rfl) (ann := [(16, [5])])
  (show hFunc prog TT [(16, [5])] Go.Proofs.Tryz.f57 [a0, a1] st R from (show hFunc prog TT [(16, [5])] Go.Proofs.Tryz.f57 [a0, a1] st R = b_spec_l03Simples a0 a1 st R by kernel_rfl) ▸ h)
def b_spec_l03Spine (a0 : PV) (st : St) (R : Res → St → Prop) : Prop :=
 hFix (fun ls st X =>
  qb (q_len a0) fun v6 =>
  qb (q_bin .lss (ls.getD 0 .junk) v6) fun v7 =>
  cb v7 fun b => br b
   (qb (q_ia 4 a0 (ls.getD 0 .junk)) fun v12 =>
   qb (q_load st true 4 v12) fun v13 =>
   callK prog n_spec_TermOK [v13] st (fun v14 st =>
   qb (q_un .not v14) fun v15 =>
   cb v15 fun b_1 => br b_1
    (retR R (.bool false) st)
    (qb (q_bin .add (ls.getD 0 .junk) (.int .i64 1)) fun v9 =>
    X [v9] st)) (panR R))
   (retR R (.bool true) st))
  [(.int .i64 0)] st
theorem c_spec_l03Spine {a0 : PV} {st : St} {R : Res → St → Prop} (h : b_spec_l03Spine a0 st R) : HCalls prog n_spec_l03Spine [a0] st R :=
 hcalls_of_func tyOK mixed (fn := Go.Proofs.Tryz.f58) (by kernel_rfl) (by kernel_rfl) (by kernel_rfl) (ann := [(8, [3])])
  (show hFunc prog TT [(8, [3])] Go.Proofs.Tryz.f58 [a0] st R from (show hFunc prog TT [(8, [3])] Go.Proofs.Tryz.f58 [a0] st R = b_spec_l03Spine a0 st R by kernel_rfl) ▸ h)
def b_spec_l02Closed (a0 a1 : PV) (st : St) (R : Res → St → Prop) : Prop :=
 e_box st a0 fun v2 st =>
 hJ (fun ls st =>
  cb (ls.getD 0 .junk) fun b => br b
   (retR R (.bool false) st)
   (hFix (fun ls_1 st X =>
    qb (q_fa 3 v2) fun v16 =>
    qb (q_load st false 1 v16) fun v17 =>
    qb (q_len v17) fun v18 =>
    qb (q_bin .lss (ls_1.getD 0 .junk) v18) fun v19 =>
    cb v19 fun b_1 => br b_1
     (qb (q_fa 3 v2) fun v22 =>
     qb (q_load st false 1 v22) fun v23 =>
     qb (q_ia 4 v23 (ls_1.getD 0 .junk)) fun v25 =>
     qb (q_load st true 4 v25) fun v26 =>
     qb (q_load st true 4 v2) fun v28 =>
     callK prog n_spec_l01Under [v28, (ls_1.getD 0 .junk)] st (fun v30 st =>
     q_load st true 4 v25 = some v26 ∧ q_load st false 1 v22 = some v23 ∧ (qb (q_bin .add a1 v30) fun v31 =>
     callK prog n_spec_l02Closed [v26, v31] st (fun v32 st =>
     qb (q_un .not v32) fun v33 =>
     cb v33 fun b_2 => br b_2
      (retR R (.bool false) st)
      (qb (q_bin .add (ls_1.getD 0 .junk) (.int .i64 1)) fun v21 =>
      X [v21] st)) (panR R))) (panR R))
     (retR R (.bool true) st))
    [(.int .i64 0)] st))
  (fun k =>
 qb (q_fa 0 v2) fun v6 =>
 qb (q_load st false 1 v6) fun v7 =>
 qb (q_bin .eql v7 (.int .i64 5)) fun v8 =>
 cb v8 fun b_3 => br b_3
  (qb (q_fa 1 v2) fun v10 =>
  qb (q_load st false 1 v10) fun v11 =>
  qb (q_bin .geq v11 a1) fun v13 =>
  k [v13] st)
  (k [(.bool false)] st))
theorem c_spec_l02Closed {a0 a1 : PV} {st : St} {R : Res → St → Prop} (h : b_spec_l02Closed a0 a1 st R) : HCalls prog n_spec_l02Closed [a0, a1] st R :=
 hcalls_of_func tyOK mixed (fn := Go.Proofs.Tryz.f59) (by kernel_rfl) (by kernel_rfl) (by kernel_rfl) (ann := [(16, [5]), (5, [14])])
  (show hFunc prog TT [(16, [5]), (5, [14])] Go.Proofs.Tryz.f59 [a0, a1] st R from (show hFunc prog TT [(16, [5]), (5, [14])] Go.Proofs.Tryz.f59 [a0, a1] st R = b_spec_l02Closed a0 a1 st R by kernel_rfl) ▸ h)
def b_spec_l06Known (a0 a1 : PV) (st : St) (R : Res → St → Prop) : Prop :=
 e_box st a0 fun v2 st =>
 hJ (fun ls st =>
  cb (ls.getD 0 .junk) fun b => br b
   (retR R (.bool false) st)
   (hFix (fun ls_1 st X =>
    qb (q_fa 3 v2) fun v16 =>
    qb (q_load st false 1 v16) fun v17 =>
    qb (q_len v17) fun v18 =>
    qb (q_bin .lss (ls_1.getD 0 .junk) v18) fun v19 =>
    cb v19 fun b_1 => br b_1
     (qb (q_fa 3 v2) fun v22 =>
     qb (q_load st false 1 v22) fun v23 =>
     qb (q_ia 4 v23 (ls_1.getD 0 .junk)) fun v25 =>
     qb (q_load st true 4 v25) fun v26 =>
     callK prog n_spec_l06Known [v26, a1] st (fun v28 st =>
     qb (q_un .not v28) fun v29 =>
     cb v29 fun b_2 => br b_2
      (retR R (.bool false) st)
      (qb (q_bin .add (ls_1.getD 0 .junk) (.int .i64 1)) fun v21 =>
      X [v21] st)) (panR R))
     (retR R (.bool true) st))
    [(.int .i64 0)] st))
  (fun k =>
 qb (q_fa 0 v2) fun v6 =>
 qb (q_load st false 1 v6) fun v7 =>
 qb (q_bin .eql v7 (.int .i64 7)) fun v8 =>
 cb v8 fun b_3 => br b_3
  (qb (q_fa 1 v2) fun v10 =>
  qb (q_load st false 1 v10) fun v11 =>
  qb (q_bin .geq v11 a1) fun v13 =>
  k [v13] st)
  (k [(.bool false)] st))
theorem c_spec_l06Known {a0 a1 : PV} {st : St} {R : Res → St → Prop} (h : b_spec_l06Known a0 a1 st R) : HCalls prog n_spec_l06Known [a0, a1] st R :=
 hcalls_of_func tyOK mixed (fn := Go.Proofs.Tryz.f60) (by kernel_rfl) (by kernel_rfl) (by kernel_rfl) (ann := [(16, [5]), (5, [14])])
  (show hFunc prog TT [(16, [5]), (5, [14])] Go.Proofs.Tryz.f60 [a0, a1] st R from (show hFunc prog TT [(16, [5]), (5, [14])] Go.Proofs.Tryz.f60 [a0, a1] st R = b_spec_l06Known a0 a1 st R by kernel_rfl) ▸ h)
def b_spec_l06Run_fill (a0 a1 : PV) (st : St) (R : Res → St → Prop) : Prop :=
 e_box st a1 fun v3 st =>
 e_alloc st [.int .i64 0, .int .i64 0, .str [], .sl 0 true []] fun v4 st =>
 qb (q_lit 4 0 0 [] []) fun v10 =>
 hJ (fun ls st =>
  hJ (fun ls_1 st =>
   cb (ls_1.getD 0 .junk) fun b => br b
    (hJ (fun ls_2 st =>
     qb (q_bin .neq (ls_2.getD 1 .junk) (.int .i64 0)) fun v75 =>
     cb v75 fun b_1 => br b_1
      (callK prog n_spec_l06Run_fail [a0, (ls_2.getD 1 .junk)] st (fun v78 st =>
      qb (q_struct [.int .i64 0, .int .i64 0, .str [], .sl 0 true []] []) fun v79 =>
      e_store st 4 v4 v79 fun st =>
      qb (q_load st true 4 v4) fun r => retR R r st) (panR R))
      (qb (q_load st true 4 (ls_2.getD 0 .junk)) fun v80 =>
      e_store st 4 v4 v80 fun st =>
      qb (q_load st true 4 v4) fun r_1 => retR R r_1 st))
     (fun k_2 =>
    qb (q_nil a0) fun v51 =>
    qb (q_fa 3 v51) fun v52 =>
    qb (q_load st false 1 v52) fun v53 =>
    qb (q_nil a0) fun v55 =>
    qb (q_fa 2 v55) fun v56 =>
    qb (q_load st false 1 v56) fun v57 =>
    qb (q_fa 1 v3) fun v58 =>
    qb (q_load st false 1 v58) fun v59 =>
    qb (q_ia 4 v57 v59) fun v60 =>
    qb (q_load st true 4 v60) fun v61 =>
    qb (q_nil a0) fun v63 =>
    qb (q_fa 1 v63) fun v64 =>
    qb (q_load st false 1 v64) fun v65 =>
    qb (q_fa 1 v3) fun v66 =>
    qb (q_load st false 1 v66) fun v67 =>
    qb (q_ia 4 v65 v67) fun v68 =>
    qb (q_load st true 4 v68) fun v69 =>
    (callK prog n_spec_l03Run_reduce [v53, v61, v69, (ls.getD 0 .junk)] st (fun v71 st =>
    qb (q_ex v71 0) fun v72 =>
    qb (q_ex v71 1) fun v73 =>
    e_alloc st [.int .i64 0, .int .i64 0, .str [], .sl 0 true []] fun v7 st =>
    q_load st true 4 v68 = some v69 ∧ q_load st false 1 v66 = some v67 ∧ q_load st false 1 v64 = some v65 ∧ q_load st true 4 v60 = some v61 ∧ q_load st false 1 v58 = some v59 ∧ q_load st false 1 v56 = some v57 ∧ q_load st false 1 v52 = some v53 ∧ (e_store st 4 v7 v72 fun st =>
    k_2 [v7, v73] st)) (panR R)) ∧
    (e_alloc st [.int .i64 0, .int .i64 0, .str [], .sl 0 true []] fun v7_1 st =>
    q_load st true 4 v68 = some v69 ∧ q_load st false 1 v66 = some v67 ∧ q_load st false 1 v64 = some v65 ∧ q_load st true 4 v60 = some v61 ∧ q_load st false 1 v58 = some v59 ∧ q_load st false 1 v56 = some v57 ∧ q_load st false 1 v52 = some v53 ∧ (callK prog n_spec_l03Run_reduce [v53, v61, v69, (ls.getD 0 .junk)] st (fun v71_1 st =>
    qb (q_ex v71_1 0) fun v72_1 =>
    qb (q_ex v71_1 1) fun v73_1 =>
    e_store st 4 v7_1 v72_1 fun st =>
    k_2 [v7_1, v73_1] st) (panR R)))))
    (qb (q_load st true 4 v3) fun v81 =>
    callK prog n_spec_l01With [v81, (ls.getD 0 .junk)] st (fun v83 st =>
    e_alloc st [.int .i64 0, .int .i64 0, .str [], .sl 0 true []] fun v9 st =>
    e_store st 4 v9 v83 fun st =>
    qb (q_load st true 4 v9) fun v84 =>
    callK prog n_spec_l03Big [v84] st (fun v85 st =>
    cb v85 fun b_2 => br b_2
     (callK prog n_spec_l06Run_fail [a0, (.int .i64 11)] st (fun v87 st =>
     qb (q_struct [.int .i64 0, .int .i64 0, .str [], .sl 0 true []] []) fun v88 =>
     e_store st 4 v4 v88 fun st =>
     qb (q_load st true 4 v4) fun r_2 => retR R r_2 st) (panR R))
     (qb (q_load st true 4 v9) fun v89 =>
     e_store st 4 v4 v89 fun st =>
     qb (q_load st true 4 v4) fun r_3 => retR R r_3 st)) (panR R)) (panR R)))
   (fun k_1 =>
  qb (q_fa 0 v3) fun v34 =>
  qb (q_load st false 1 v34) fun v35 =>
  qb (q_bin .eql v35 (.int .i64 7)) fun v36 =>
  cb v36 fun b_3 => br b_3
   (qb (q_nil a0) fun v39 =>
   qb (q_fa 2 v39) fun v40 =>
   qb (q_load st false 1 v40) fun v41 =>
   qb (q_fa 1 v3) fun v42 =>
   qb (q_load st false 1 v42) fun v43 =>
   qb (q_ia 4 v41 v43) fun v44 =>
   qb (q_fa 0 v44) fun v45 =>
   qb (q_load st false 1 v45) fun v46 =>
   qb (q_bin .neq v46 (.int .i64 0)) fun v47 =>
   k_1 [v47] st)
   (k_1 [(.bool false)] st)))
  (fun k =>
 hFix (fun ls_3 st X =>
  qb (q_fa 3 v3) fun v12 =>
  qb (q_load st false 1 v12) fun v13 =>
  qb (q_len v13) fun v14 =>
  qb (q_bin .lss (ls_3.getD 1 .junk) v14) fun v15 =>
  cb v15 fun b_4 => br b_4
   (qb (q_fa 3 v3) fun v20 =>
   qb (q_load st false 1 v20) fun v21 =>
   qb (q_ia 4 v21 (ls_3.getD 1 .junk)) fun v23 =>
   qb (q_load st true 4 v23) fun v24 =>
   callK prog n_spec_l06Run_fill [a0, v24] st (fun v25 st =>
   qb (q_lit 4 1 0 [] [(0, v25)]) fun v26 =>
   e_append st 4 56 (ls_3.getD 0 .junk) v26 (fun v27 st =>
   qb (q_nil a0) fun v29 =>
   qb (q_fa 4 v29) fun v30 =>
   qb (q_load st false 1 v30) fun v31 =>
   qb (q_bin .neq v31 (.int .i64 0)) fun v32 =>
   cb v32 fun b_5 => br b_5
    (qb (q_struct [.int .i64 0, .int .i64 0, .str [], .sl 0 true []] []) fun v33 =>
    e_store st 4 v4 v33 fun st =>
    qb (q_load st true 4 v4) fun r_4 => retR R r_4 st)
    (qb (q_bin .add (ls_3.getD 1 .junk) (.int .i64 1)) fun v17 =>
    X [v27, v17] st))) (panR R))
   (k [(ls_3.getD 0 .junk)] st))
  [v10, (.int .i64 0)] st)
theorem c_spec_l06Run_fill {a0 a1 : PV} {st : St} {R : Res → St → Prop} (h : b_spec_l06Run_fill a0 a1 st R) : HCalls prog n_spec_l06Run_fill [a0, a1] st R :=
 hcalls_of_func tyOK mixed (fn := Go.Proofs.Tryz.f61) (by kernel_rfl) (by kernel_rfl) (by kernel_rfl) (ann := [(12, [5, 6]), (3, [5]), (33, [48]), (37, [7, 8])])
  (show hFunc prog TT [(12, [5, 6]), (3, [5]), (33, [48]), (37, [7, 8])] Go.Proofs.Tryz.f61 [a0, a1] st R from (show hFunc prog TT [(12, [5, 6]), (3, [5]), (33, [48]), (37, [7, 8])] Go.Proofs.Tryz.f61 [a0, a1] st R = b_spec_l06Run_fill a0 a1 st R by kernel_rfl) ▸ h)
end Go.H.Tryz
