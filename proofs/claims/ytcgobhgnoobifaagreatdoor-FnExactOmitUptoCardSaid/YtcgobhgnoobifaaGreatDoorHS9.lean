/- Part of a proof that the program answers as the reference does: EDS9. -/
import Derived.Test.YtcgobhgnoobifaaGreatDoorHT
/- MADE BY PROGRAM (hgen.py): what the functions compute, over pure values. -/
set_option linter.unusedVariables false
set_option maxRecDepth 100000
namespace Go.H.Tryz
open Go Go.H
def b_impl_tooBig (a0 : PV) (st : St) (R : Res → St → Prop) : Prop :=
 e_box st a0 fun v1 st =>
 e_alloc st [.int .i64 0] fun v3 st =>
 e_store st 1 v3 (.int .i64 0) fun st =>
 callK prog n_impl_Tree_each [v1, (.int .i64 0), (.fn (.func n_impl_tooBig_1) [] [v3])] st (fun v5 st =>
 retR R v5 st) (panR R)
theorem c_impl_tooBig {a0 : PV} {st : St} {R : Res → St → Prop} (h : b_impl_tooBig a0 st R) : HCalls prog n_impl_tooBig [a0] st R :=
 hcalls_of_func tyOK mixed (fn := Go.Proofs.Tryz.f185) (by kernel_rfl) (by kernel_rfl) (by kernel_rfl) (ann := [])
  (show hFunc prog TT [] Go.Proofs.Tryz.f185 [a0] st R from (show hFunc prog TT [] Go.Proofs.Tryz.f185 [a0] st R = b_impl_tooBig a0 st R by kernel_rfl) ▸ h)
def b_spec_l06Var (a0 a1 : PV) (st : St) (R : Res → St → Prop) : Prop :=
 e_box st a0 fun v2 st =>
 e_box st a1 fun v3 st =>
 qb (q_load st true 4 v2) fun v7 =>
 e_alloc st [.int .i64 0, .int .i64 0, .str [], .sl 0 true []] fun v6 st =>
 e_store st 4 v6 v7 fun st =>
 hJ (fun ls st =>
  qb (q_fa 0 v6) fun v17 =>
  qb (q_load st false 1 v17) fun v18 =>
  qb (q_bin .neq v18 (.int .i64 5)) fun v19 =>
  cb v19 fun b => br b
   (retR R (.int .i64 (-1)) st)
   (qb (q_fa 1 v6) fun v21 =>
   qb (q_load st false 1 v21) fun v22 =>
   qb (q_bin .lss v22 (ls.getD 0 .junk)) fun v24 =>
   cb v24 fun b_1 => br b_1
    (retR R (.int .i64 (-1)) st)
    (qb (q_load st true 4 v2) fun v26 =>
    qb (q_fa 1 v6) fun v27 =>
    qb (q_load st false 1 v27) fun v28 =>
    qb (q_bin .sub v28 (ls.getD 0 .junk)) fun v30 =>
    qb (q_load st true 4 v3) fun v32 =>
    callK prog n_spec_l01Var [v30, (.sl 0 true [])] st (fun v31 st =>
    q_load st true 4 v3 = some v32 ∧ q_load st true 4 v2 = some v26 ∧ (callK prog n_spec_l03Long [v31, v32] st (fun v33 st =>
    q_load st true 4 v2 = some v26 ∧ (callK prog n_spec_l01Same [v26, v33] st (fun v34 st =>
    qb (q_un .not v34) fun v35 =>
    cb v35 fun b_2 => br b_2
     (retR R (.int .i64 (-1)) st)
     (qb (q_fa 1 v6) fun v36 =>
     qb (q_load st false 1 v36) fun v37 =>
     qb (q_bin .sub v37 (ls.getD 0 .junk)) fun v39 =>
     retR R v39 st)) (panR R))) (panR R))) (panR R))))
  (fun k =>
 hFix (fun ls_1 st X =>
  qb (q_fa 0 v6) fun v8 =>
  qb (q_load st false 1 v8) fun v9 =>
  qb (q_bin .eql v9 (.int .i64 4)) fun v10 =>
  cb v10 fun b_3 => br b_3
   (qb (q_fa 3 v6) fun v11 =>
   qb (q_load st false 1 v11) fun v12 =>
   qb (q_ia 4 v12 (.int .i64 0)) fun v13 =>
   qb (q_load st true 4 v13) fun v14 =>
   e_store st 4 v6 v14 fun st =>
   qb (q_bin .add (ls_1.getD 0 .junk) (.int .i64 1)) fun v16 =>
   X [v16] st)
   (k [(ls_1.getD 0 .junk)] st))
  [(.int .i64 0)] st)
theorem c_spec_l06Var {a0 a1 : PV} {st : St} {R : Res → St → Prop} (h : b_spec_l06Var a0 a1 st R) : HCalls prog n_spec_l06Var [a0, a1] st R :=
 hcalls_of_func tyOK mixed (fn := Go.Proofs.Tryz.f186) (by kernel_rfl) (by kernel_rfl) (by kernel_rfl) (ann := [(12, [5]), (3, [5])])
  (show hFunc prog TT [(12, [5]), (3, [5])] Go.Proofs.Tryz.f186 [a0, a1] st R from (show hFunc prog TT [(12, [5]), (3, [5])] Go.Proofs.Tryz.f186 [a0, a1] st R = b_spec_l06Var a0 a1 st R by kernel_rfl) ▸ h)
def b_slices_ContainsFunc_impl_Tree_impl_Tree (a0 a1 : PV) (st : St) (R : Res → St → Prop) : Prop :=
 callK prog n_slices_IndexFunc_impl_Tree_impl_Tree [a0, a1] st (fun v7 st =>
 qb (q_bin .geq v7 (.int .i64 0)) fun v8 =>
 retR R v8 st) (panR R)
theorem c_slices_ContainsFunc_impl_Tree_impl_Tree {a0 a1 : PV} {st : St} {R : Res → St → Prop} (h : b_slices_ContainsFunc_impl_Tree_impl_Tree a0 a1 st R) : HCalls prog n_slices_ContainsFunc_impl_Tree_impl_Tree [a0, a1] st R :=
 hcalls_of_func tyOK mixed (fn := Go.Proofs.Tryz.f187) (by kernel_rfl) (by kernel_rfl) (by kernel_rfl) (ann := [])
  (show hFunc prog TT [] Go.Proofs.Tryz.f187 [a0, a1] st R from (show hFunc prog TT [] Go.Proofs.Tryz.f187 [a0, a1] st R = b_slices_ContainsFunc_impl_Tree_impl_Tree a0 a1 st R by kernel_rfl) ▸ h)
def b_impl_tells_1 (a0 a1 : PV) (st : St) (R : Res → St → Prop) : Prop :=
 e_box st a0 fun v2 st =>
 qb (q_load st true 4 v2) fun v4 =>
 qb (q_load st true 4 a1) fun v5 =>
 callK prog n_impl_same [v4, v5] st (fun v6 st =>
 cb v6 fun b => br b
  (retR R (.bool true) st)
  (qb (q_fa 0 v2) fun v8 =>
  qb (q_load st false 1 v8) fun v9 =>
  qb (q_bin .eql v9 (.int .i64 6)) fun v10 =>
  cb v10 fun b_1 => br b_1
   (qb (q_fa 3 v2) fun v12 =>
   qb (q_load st false 1 v12) fun v13 =>
   qb (q_load st true 4 a1) fun v14 =>
   callK prog n_impl_tells [v13, v14] st (fun v15 st =>
   retR R v15 st) (panR R))
   (retR R (.bool false) st))) (panR R)
theorem c_impl_tells_1 {a0 a1 : PV} {st : St} {R : Res → St → Prop} (h : b_impl_tells_1 a0 a1 st R) : HCalls prog n_impl_tells_1 [a0, a1] st R :=
 hcalls_of_func tyOK mixed (fn := Go.Proofs.Tryz.f188) (by kernel_rfl) (by kernel_rfl) (by kernel_rfl) (ann := [])
  (show hFunc prog TT [] Go.Proofs.Tryz.f188 [a0, a1] st R from (show hFunc prog TT [] Go.Proofs.Tryz.f188 [a0, a1] st R = b_impl_tells_1 a0 a1 st R by kernel_rfl) ▸ h)
def b_impl_takes (a0 : PV) (st : St) (R : Res → St → Prop) : Prop :=
 e_box st a0 fun v1 st =>
 e_alloc st [.int .i64 0, .int .i64 0, .str [], .sl 0 true []] fun v3 st =>
 qb (q_lit 4 0 0 [] []) fun v5 =>
 hFix (fun ls st X =>
  qb (q_fa 0 v1) fun v6 =>
  qb (q_load st false 1 v6) fun v7 =>
  qb (q_bin .eql v7 (.int .i64 10)) fun v8 =>
  cb v8 fun b => br b
   (qb (q_fa 3 v1) fun v10 =>
   qb (q_load st false 1 v10) fun v11 =>
   qb (q_ia 4 v11 (.int .i64 0)) fun v12 =>
   qb (q_load st true 4 v12) fun v13 =>
   qb (q_lit 4 1 0 [] [(0, v13)]) fun v14 =>
   qb (q_fa 3 v1) fun v16 =>
   qb (q_load st false 1 v16) fun v17 =>
   qb (q_ia 4 v17 (.int .i64 1)) fun v18 =>
   qb (q_load st true 4 v18) fun v19 =>
   e_append st 4 56 (ls.getD 0 .junk) v14 (fun v15 st =>
   q_load st true 4 v18 = some v19 ∧ q_load st false 1 v16 = some v17 ∧ (e_store st 4 v1 v19 fun st =>
   X [v15] st)))
   (qb (q_load st true 4 v1) fun v21 =>
   e_store st 4 v3 v21 fun st =>
   qb (q_load st true 4 v3) fun r => retR R (.tup [(ls.getD 0 .junk), r]) st))
  [v5] st
theorem c_impl_takes {a0 : PV} {st : St} {R : Res → St → Prop} (h : b_impl_takes a0 st R) : HCalls prog n_impl_takes [a0] st R :=
 hcalls_of_func tyOK mixed (fn := Go.Proofs.Tryz.f189) (by kernel_rfl) (by kernel_rfl) (by kernel_rfl) (ann := [(8, [4])])
  (show hFunc prog TT [(8, [4])] Go.Proofs.Tryz.f189 [a0] st R from (show hFunc prog TT [(8, [4])] Go.Proofs.Tryz.f189 [a0] st R = b_impl_takes a0 st R by kernel_rfl) ▸ h)
def b_impl_lam (a0 : PV) (st : St) (R : Res → St → Prop) : Prop :=
 e_box st a0 fun v1 st =>
 e_alloc st [.int .i64 0, .int .i64 0, .str [], .sl 0 true []] fun v2 st =>
 qb (q_load st true 4 v1) fun v3 =>
 qb (q_lit 4 1 0 [] [(0, v3)]) fun v4 =>
 qb (q_struct [.int .i64 0, .int .i64 0, .str [], .sl 0 true []] [(0, 1, (.int .i64 4)), (3, 1, v4)]) fun v5 =>
 e_store st 4 v2 v5 fun st =>
 qb (q_load st true 4 v2) fun r => retR R r st
theorem c_impl_lam {a0 : PV} {st : St} {R : Res → St → Prop} (h : b_impl_lam a0 st R) : HCalls prog n_impl_lam [a0] st R :=
 hcalls_of_func tyOK mixed (fn := Go.Proofs.Tryz.f190) (by kernel_rfl) (by kernel_rfl) (by kernel_rfl) (ann := [])
  (show hFunc prog TT [] Go.Proofs.Tryz.f190 [a0] st R from (show hFunc prog TT [] Go.Proofs.Tryz.f190 [a0] st R = b_impl_lam a0 st R by kernel_rfl) ▸ h)
def b_spec_l00Letter (a0 : PV) (st : St) (R : Res → St → Prop) : Prop :=
 qb (q_bin .geq a0 (.int .u8 97)) fun v4 =>
 cb v4 fun b => br b
  (qb (q_bin .leq a0 (.int .u8 122)) fun v7 =>
  cb v7 fun b_1 => br b_1
   (retR R (.bool true) st)
   (qb (q_bin .geq a0 (.int .u8 65)) fun v11 =>
   cb v11 fun b_2 => br b_2
    (qb (q_bin .leq a0 (.int .u8 90)) fun v14 =>
    cb v14 fun b_3 => br b_3
     (retR R (.bool true) st)
     (qb (q_bin .eql a0 (.int .u8 95)) fun v19 =>
     retR R v19 st))
    (qb (q_bin .eql a0 (.int .u8 95)) fun v19_1 =>
    retR R v19_1 st)))
  (qb (q_bin .geq a0 (.int .u8 65)) fun v11_1 =>
  cb v11_1 fun b_4 => br b_4
   (qb (q_bin .leq a0 (.int .u8 90)) fun v14_1 =>
   cb v14_1 fun b_5 => br b_5
    (retR R (.bool true) st)
    (qb (q_bin .eql a0 (.int .u8 95)) fun v19_2 =>
    retR R v19_2 st))
   (qb (q_bin .eql a0 (.int .u8 95)) fun v19_3 =>
   retR R v19_3 st))
theorem c_spec_l00Letter {a0 : PV} {st : St} {R : Res → St → Prop} (h : b_spec_l00Letter a0 st R) : HCalls prog n_spec_l00Letter [a0] st R :=
 hcalls_of_func tyOK mixed (fn := Go.Proofs.Tryz.f191) (by kernel_rfl) (by kernel_rfl) (by kernel_rfl) (ann := [])
  (show hFunc prog TT [] Go.Proofs.Tryz.f191 [a0] st R from (show hFunc prog TT [] Go.Proofs.Tryz.f191 [a0] st R = b_spec_l00Letter a0 st R by kernel_rfl) ▸ h)
def b_impl_isHead (a0 : PV) (st : St) (R : Res → St → Prop) : Prop :=
 callK prog n_strings_IndexByte [(.str [97, 98, 99, 100, 101, 102, 103, 104, 105, 106, 107, 108, 109, 110, 111, 112, 113, 114, 115, 116, 117, 118, 119, 120, 121, 122, 65, 66, 67, 68, 69, 70, 71, 72, 73, 74, 75, 76, 77, 78, 79, 80, 81, 82, 83, 84, 85, 86, 87, 88, 89, 90, 95]), a0] st (fun v4 st =>
 qb (q_bin .geq v4 (.int .i64 0)) fun v5 =>
 retR R v5 st) (panR R)
theorem c_impl_isHead {a0 : PV} {st : St} {R : Res → St → Prop} (h : b_impl_isHead a0 st R) : HCalls prog n_impl_isHead [a0] st R :=
 hcalls_of_func tyOK mixed (fn := Go.Proofs.Tryz.f192) (by kernel_rfl) (by kernel_rfl) (by kernel_rfl) (ann := [])
  (show hFunc prog TT [] Go.Proofs.Tryz.f192 [a0] st R from (show hFunc prog TT [] Go.Proofs.Tryz.f192 [a0] st R = b_impl_isHead a0 st R by kernel_rfl) ▸ h)
def b_internal_stringslite_CutPrefix (a0 a1 : PV) (st : St) (R : Res → St → Prop) : Prop :=
 callK prog n_internal_stringslite_HasPrefix [a0, a1] st (fun v8 st =>
 qb (q_un .not v8) fun v9 =>
 cb v9 fun b => br b
  (retR R (.tup [a0, (.bool false)]) st)
  (qb (q_lenS a1) fun v13 =>
  qb (q_sliceS a0 (some v13) none none) fun v14 =>
  retR R (.tup [v14, (.bool true)]) st)) (panR R)
theorem c_internal_stringslite_CutPrefix {a0 a1 : PV} {st : St} {R : Res → St → Prop} (h : b_internal_stringslite_CutPrefix a0 a1 st R) : HCalls prog n_internal_stringslite_CutPrefix [a0, a1] st R :=
 hcalls_of_func tyOK mixed (fn := Go.Proofs.Tryz.f193) (by kernel_rfl) (by kernel_rfl) (by kernel_rfl) (ann := [])
  (show hFunc prog TT [] Go.Proofs.Tryz.f193 [a0, a1] st R from (show hFunc prog TT [] Go.Proofs.Tryz.f193 [a0, a1] st R = b_internal_stringslite_CutPrefix a0 a1 st R by kernel_rfl) ▸ h)
theorem e_strings_Trim : Enters prog n_strings_Trim := ⟨Go.Proofs.Tryz.f194, by kernel_rfl, by kernel_rfl, by kernel_rfl⟩
def b_spec_l01Under (a0 a1 : PV) (st : St) (R : Res → St → Prop) : Prop :=
 e_box st a0 fun v2 st =>
 qb (q_load st true 4 v2) fun v5 =>
 callK prog n_spec_l01Binds [v5, a1] st (fun v7 st =>
 cb v7 fun b => br b
  (retR R (.int .i64 1) st)
  (retR R (.int .i64 0) st)) (panR R)
theorem c_spec_l01Under {a0 a1 : PV} {st : St} {R : Res → St → Prop} (h : b_spec_l01Under a0 a1 st R) : HCalls prog n_spec_l01Under [a0, a1] st R :=
 hcalls_of_func tyOK mixed (fn := Go.Proofs.Tryz.f195) (by kernel_rfl) (by kernel_rfl) (by kernel_rfl) (ann := [])
  (show hFunc prog TT [] Go.Proofs.Tryz.f195 [a0, a1] st R from (show hFunc prog TT [] Go.Proofs.Tryz.f195 [a0, a1] st R = b_spec_l01Under a0 a1 st R by kernel_rfl) ▸ h)
def b_spec_l03Run_reduce (a0 a1 a2 a3 : PV) (st : St) (R : Res → St → Prop) : Prop :=
 e_box st a1 fun v5 st =>
 e_box st a2 fun v6 st =>
 e_alloc st [.int .i64 0, .int .i64 0, .str [], .sl 0 true []] fun v8 st =>
 hJ (fun ls st =>
  qb (q_load st true 4 v5) fun v67 =>
  callK prog n_spec_l01Copy [v67] st (fun v68 st =>
  e_store st 4 v8 v68 fun st =>
  qb (q_load st true 4 v8) fun r => retR R (.tup [r, (.int .i64 0)]) st) (panR R))
  (fun k =>
 hFix (fun ls_1 st X =>
  qb (q_len a3) fun v15 =>
  qb (q_bin .lss (ls_1.getD 0 .junk) v15) fun v16 =>
  cb v16 fun b => br b
   (hJ (fun ls_2 st =>
    cb (ls_2.getD 0 .junk) fun b_1 => br b_1
     (qb (q_struct [.int .i64 0, .int .i64 0, .str [], .sl 0 true []] []) fun v27 =>
     e_store st 4 v8 v27 fun st =>
     qb (q_load st true 4 v8) fun r_1 => retR R (.tup [r_1, (.int .i64 12)]) st)
     (qb (q_nil a0) fun v29 =>
     qb (q_fa 0 v29) fun v30 =>
     qb (q_load st false 1 v30) fun v31 =>
     qb (q_bin .add v31 (.int .i64 1)) fun v32 =>
     qb (q_nil a0) fun v33 =>
     qb (q_fa 0 v33) fun v34 =>
     e_store st 1 v34 v32 fun st =>
     qb (q_nil a0) fun v36 =>
     qb (q_fa 0 v36) fun v37 =>
     qb (q_load st false 1 v37) fun v38 =>
     qb (q_bin .gtr v38 (.int .i64 20000)) fun v39 =>
     cb v39 fun b_2 => br b_2
      (qb (q_struct [.int .i64 0, .int .i64 0, .str [], .sl 0 true []] []) fun v40 =>
      e_store st 4 v8 v40 fun st =>
      qb (q_load st true 4 v8) fun r_2 => retR R (.tup [r_2, (.int .i64 17)]) st)
      (hJ (fun ls_3 st =>
       qb (q_bin .neq (ls_3.getD 1 .junk) (.int .i64 0)) fun v59 =>
       cb v59 fun b_3 => br b_3
        (qb (q_struct [.int .i64 0, .int .i64 0, .str [], .sl 0 true []] []) fun v60 =>
        e_store st 4 v8 v60 fun st =>
        qb (q_load st true 4 v8) fun r_3 => retR R (.tup [r_3, (ls_3.getD 1 .junk)]) st)
        (qb (q_load st true 4 (ls_3.getD 0 .junk)) fun v62 =>
        e_store st 4 v5 v62 fun st =>
        qb (q_fa 3 v6) fun v63 =>
        qb (q_load st false 1 v63) fun v64 =>
        qb (q_ia 4 v64 (.int .i64 1)) fun v65 =>
        qb (q_load st true 4 v65) fun v66 =>
        e_store st 4 v6 v66 fun st =>
        qb (q_bin .add (ls_1.getD 0 .junk) (.int .i64 1)) fun v18 =>
        X [v18] st))
       (fun k_2 =>
      qb (q_ia 4 a3 (ls_1.getD 0 .junk)) fun v45 =>
      qb (q_load st true 4 v45) fun v46 =>
      qb (q_fa 3 v6) fun v47 =>
      qb (q_load st false 1 v47) fun v48 =>
      qb (q_ia 4 v48 (.int .i64 0)) fun v49 =>
      qb (q_load st true 4 v49) fun v50 =>
      qb (q_fa 3 v5) fun v51 =>
      qb (q_load st false 1 v51) fun v52 =>
      qb (q_ia 4 v52 (.int .i64 0)) fun v53 =>
      qb (q_load st true 4 v53) fun v54 =>
      (callK prog n_spec_l03Run_sub [a0, v46, v50, v54, (.int .i64 0)] st (fun v55 st =>
      qb (q_ex v55 0) fun v56 =>
      qb (q_ex v55 1) fun v57 =>
      e_alloc st [.int .i64 0, .int .i64 0, .str [], .sl 0 true []] fun v11 st =>
      q_load st true 4 v53 = some v54 ∧ q_load st false 1 v51 = some v52 ∧ q_load st true 4 v49 = some v50 ∧ q_load st false 1 v47 = some v48 ∧ q_load st true 4 v45 = some v46 ∧ (e_store st 4 v11 v56 fun st =>
      k_2 [v11, v57] st)) (panR R)) ∧
      (e_alloc st [.int .i64 0, .int .i64 0, .str [], .sl 0 true []] fun v11_1 st =>
      q_load st true 4 v53 = some v54 ∧ q_load st false 1 v51 = some v52 ∧ q_load st true 4 v49 = some v50 ∧ q_load st false 1 v47 = some v48 ∧ q_load st true 4 v45 = some v46 ∧ (callK prog n_spec_l03Run_sub [a0, v46, v50, v54, (.int .i64 0)] st (fun v55_1 st =>
      qb (q_ex v55_1 0) fun v56_1 =>
      qb (q_ex v55_1 1) fun v57_1 =>
      e_store st 4 v11_1 v56_1 fun st =>
      k_2 [v11_1, v57_1] st) (panR R)))))))
    (fun k_1 =>
   qb (q_fa 0 v6) fun v19 =>
   qb (q_load st false 1 v19) fun v20 =>
   qb (q_bin .neq v20 (.int .i64 10)) fun v21 =>
   cb v21 fun b_4 => br b_4
    (k_1 [(.bool true)] st)
    (qb (q_fa 0 v5) fun v23 =>
    qb (q_load st false 1 v23) fun v24 =>
    qb (q_bin .neq v24 (.int .i64 4)) fun v25 =>
    k_1 [v25] st)))
   (k [] st))
  [(.int .i64 0)] st)
theorem c_spec_l03Run_reduce {a0 a1 a2 a3 : PV} {st : St} {R : Res → St → Prop} (h : b_spec_l03Run_reduce a0 a1 a2 a3 st R) : HCalls prog n_spec_l03Run_reduce [a0, a1, a2, a3] st R :=
 hcalls_of_func tyOK mixed (fn := Go.Proofs.Tryz.f196) (by kernel_rfl) (by kernel_rfl) (by kernel_rfl) (ann := [(8, [10]), (3, []), (17, [26]), (37, [11, 12])])
  (show hFunc prog TT [(8, [10]), (3, []), (17, [26]), (37, [11, 12])] Go.Proofs.Tryz.f196 [a0, a1, a2, a3] st R from (show hFunc prog TT [(8, [10]), (3, []), (17, [26]), (37, [11, 12])] Go.Proofs.Tryz.f196 [a0, a1, a2, a3] st R = b_spec_l03Run_reduce a0 a1 a2 a3 st R by kernel_rfl) ▸ h)
def b_impl_at (a0 a1 : PV) (st : St) (R : Res → St → Prop) : Prop :=
 callK prog n_impl_caught [a1] st (fun v6 st =>
 e_alloc st [.int .i64 0, .int .i64 0] fun v4 st =>
 e_store st 2 v4 v6 fun st =>
 qb (q_fa 0 v4) fun v7 =>
 qb (q_load st false 1 v7) fun v8 =>
 qb (q_bin .neq v8 (.int .i64 0)) fun v9 =>
 cb v9 fun b => br b
  (qb (q_fa 0 v4) fun v10 =>
  qb (q_load st false 1 v10) fun v11 =>
  callK prog n_impl_stop [v11, a0] st (fun v13 st =>
  retR R (.tup []) st) (panR R))
  (retR R (.tup []) st)) (panR R)
theorem c_impl_at {a0 a1 : PV} {st : St} {R : Res → St → Prop} (h : b_impl_at a0 a1 st R) : HCalls prog n_impl_at [a0, a1] st R :=
 hcalls_of_func tyOK mixed (fn := Go.Proofs.Tryz.f197) (by kernel_rfl) (by kernel_rfl) (by kernel_rfl) (ann := [])
  (show hFunc prog TT [] Go.Proofs.Tryz.f197 [a0, a1] st R from (show hFunc prog TT [] Go.Proofs.Tryz.f197 [a0, a1] st R = b_impl_at a0 a1 st R by kernel_rfl) ▸ h)
def b_impl_checker_left_1 (a0 a1 a2 a3 : PV) (st : St) (R : Res → St → Prop) : Prop :=
 qb (q_load st false 1 a0) fun v4 =>
 qb (q_nil v4) fun v5 =>
 qb (q_fa 0 v5) fun v6 =>
 qb (q_load st true 4 a1) fun v7 =>
 qb (q_fa 3 a2) fun v8 =>
 qb (q_load st false 1 v8) fun v9 =>
 qb (q_ia 4 v9 (.int .i64 0)) fun v10 =>
 qb (q_load st true 4 v10) fun v11 =>
 qb (q_fa 3 a2) fun v13 =>
 qb (q_load st false 1 v13) fun v14 =>
 qb (q_ia 4 v14 (.int .i64 1)) fun v15 =>
 qb (q_load st true 4 v15) fun v16 =>
 callK prog n_impl_erase [v11] st (fun v12 st =>
 q_load st true 4 v15 = some v16 ∧ q_load st false 1 v13 = some v14 ∧ q_load st true 4 a1 = some v7 ∧ q_load st false 1 a0 = some v4 ∧ (callK prog n_impl_work_put [v6, v7, v12, (.int .i64 0), v16] st (fun v17 st =>
 e_store st 4 a3 v17 fun st =>
 retR R (.tup []) st) (panR R))) (panR R)
theorem c_impl_checker_left_1 {a0 a1 a2 a3 : PV} {st : St} {R : Res → St → Prop} (h : b_impl_checker_left_1 a0 a1 a2 a3 st R) : HCalls prog n_impl_checker_left_1 [a0, a1, a2, a3] st R :=
 hcalls_of_func tyOK mixed (fn := Go.Proofs.Tryz.f198) (by kernel_rfl) (by kernel_rfl) (by kernel_rfl) (ann := [])
  (show hFunc prog TT [] Go.Proofs.Tryz.f198 [a0, a1, a2, a3] st R from (show hFunc prog TT [] Go.Proofs.Tryz.f198 [a0, a1, a2, a3] st R = b_impl_checker_left_1 a0 a1 a2 a3 st R by kernel_rfl) ▸ h)
def b_impl_work_put (a0 a1 a2 a3 a4 : PV) (st : St) (R : Res → St → Prop) : Prop :=
 e_box st a1 fun v6 st =>
 e_box st a2 fun v7 st =>
 e_box st a4 fun v9 st =>
 e_alloc st [.int .i64 0, .int .i64 0, .str [], .sl 0 true []] fun v10 st =>
 qb (q_lit 4 0 0 [] []) fun v14 =>
 qb (q_fa 3 v9) fun v15 =>
 qb (q_load st false 1 v15) fun v16 =>
 qb (q_len v16) fun v17 =>
 hJ (fun ls st =>
  hJ (fun ls_1 st =>
   cb (ls_1.getD 0 .junk) fun b => br b
    (qb (q_load st true 4 v6) fun v46 =>
    qb (q_load st true 4 v7) fun v50 =>
    callK prog n_impl_lift [v46, (.int .i64 0), a3] st (fun v48 st =>
    q_load st true 4 v7 = some v50 ∧ (callK prog n_impl_formed [v48] st (fun v49 st =>
    q_load st true 4 v7 = some v50 ∧ (callK prog n_impl_work_apply [a0, v49, v50, (ls.getD 0 .junk)] st (fun v52 st =>
    e_store st 4 v10 v52 fun st =>
    qb (q_load st true 4 v10) fun r => retR R r st) (panR R))) (panR R))) (panR R))
    (hJ (fun ls_2 st =>
     hJ (fun ls_3 st =>
      qb (q_fa 3 v9) fun v67 =>
      e_store st 1 v67 (ls.getD 0 .junk) fun st =>
      qb (q_load st true 4 v9) fun v68 =>
      callK prog n_impl_formed [v68] st (fun v69 st =>
      e_store st 4 v10 v69 fun st =>
      qb (q_load st true 4 v10) fun r_1 => retR R r_1 st) (panR R))
      (fun k_3 =>
     cb (ls_2.getD 0 .junk) fun b_1 => br b_1
      (qb (q_fa 1 v9) fun v62 =>
      qb (q_load st false 1 v62) fun v63 =>
      qb (q_bin .sub v63 (.int .i64 1)) fun v64 =>
      qb (q_fa 1 v9) fun v65 =>
      e_store st 1 v65 v64 fun st =>
      k_3 [] st)
      (k_3 [] st)))
     (fun k_2 =>
    qb (q_fa 0 v9) fun v53 =>
    qb (q_load st false 1 v53) fun v54 =>
    qb (q_bin .eql v54 (.int .i64 5)) fun v55 =>
    cb v55 fun b_2 => br b_2
     (qb (q_fa 1 v9) fun v57 =>
     qb (q_load st false 1 v57) fun v58 =>
     qb (q_bin .gtr v58 a3) fun v60 =>
     k_2 [v60] st)
     (k_2 [(.bool false)] st))))
   (fun k_1 =>
  qb (q_fa 0 v9) fun v36 =>
  qb (q_load st false 1 v36) fun v37 =>
  qb (q_bin .eql v37 (.int .i64 5)) fun v38 =>
  cb v38 fun b_3 => br b_3
   (qb (q_fa 1 v9) fun v40 =>
   qb (q_load st false 1 v40) fun v41 =>
   qb (q_bin .eql v41 a3) fun v43 =>
   k_1 [v43] st)
   (k_1 [(.bool false)] st)))
  (fun k =>
 hFix (fun ls_4 st X =>
  qb (q_bin .lss (ls_4.getD 1 .junk) v17) fun v19 =>
  cb v19 fun b_4 => br b_4
   (qb (q_ia 4 v16 (ls_4.getD 1 .junk)) fun v21 =>
   qb (q_load st true 4 v21) fun v22 =>
   e_alloc st [.int .i64 0, .int .i64 0, .str [], .sl 0 true []] fun v13 st =>
   e_store st 4 v13 v22 fun st =>
   qb (q_load st true 4 v6) fun v25 =>
   qb (q_load st true 4 v7) fun v26 =>
   qb (q_load st true 4 v13) fun v31 =>
   callK prog n_impl_Tree_under [v9, (ls_4.getD 1 .junk)] st (fun v29 st =>
   q_load st true 4 v13 = some v31 ∧ q_load st true 4 v7 = some v26 ∧ q_load st true 4 v6 = some v25 ∧ (qb (q_bin .add a3 v29) fun v30 =>
   callK prog n_impl_work_put [a0, v25, v26, v30, v31] st (fun v32 st =>
   qb (q_lit 4 1 0 [] [(0, v32)]) fun v33 =>
   e_append st 4 56 (ls_4.getD 0 .junk) v33 (fun v34 st =>
   qb (q_bin .add (ls_4.getD 1 .junk) (.int .i64 1)) fun v35 =>
   X [v34, v35] st)) (panR R))) (panR R))
   (k [(ls_4.getD 0 .junk)] st))
  [v14, (.int .i64 0)] st)
theorem c_impl_work_put {a0 a1 a2 a3 a4 : PV} {st : St} {R : Res → St → Prop} (h : b_impl_work_put a0 a1 a2 a3 a4 st R) : HCalls prog n_impl_work_put [a0, a1, a2, a3, a4] st R :=
 hcalls_of_func tyOK mixed (fn := Go.Proofs.Tryz.f199) (by kernel_rfl) (by kernel_rfl) (by kernel_rfl) (ann := [(12, [11, 18]), (3, [11]), (29, [44]), (37, [61]), (42, [])])
  (show hFunc prog TT [(12, [11, 18]), (3, [11]), (29, [44]), (37, [61]), (42, [])] Go.Proofs.Tryz.f199 [a0, a1, a2, a3, a4] st R from (show hFunc prog TT [(12, [11, 18]), (3, [11]), (29, [44]), (37, [61]), (42, [])] Go.Proofs.Tryz.f199 [a0, a1, a2, a3, a4] st R = b_impl_work_put a0 a1 a2 a3 a4 st R by kernel_rfl) ▸ h)
def b_impl_Tree_under (a0 a1 : PV) (st : St) (R : Res → St → Prop) : Prop :=
 callK prog n_impl_Tree_binds [a0, a1] st (fun v7 st =>
 cb v7 fun b => br b
  (retR R (.int .i64 1) st)
  (retR R (.int .i64 0) st)) (panR R)
theorem c_impl_Tree_under {a0 a1 : PV} {st : St} {R : Res → St → Prop} (h : b_impl_Tree_under a0 a1 st R) : HCalls prog n_impl_Tree_under [a0, a1] st R :=
 hcalls_of_func tyOK mixed (fn := Go.Proofs.Tryz.f200) (by kernel_rfl) (by kernel_rfl) (by kernel_rfl) (ann := [])
  (show hFunc prog TT [] Go.Proofs.Tryz.f200 [a0, a1] st R from (show hFunc prog TT [] Go.Proofs.Tryz.f200 [a0, a1] st R = b_impl_Tree_under a0 a1 st R by kernel_rfl) ▸ h)
def b_spec_l01High (a0 : PV) (st : St) (R : Res → St → Prop) : Prop :=
 e_box st a0 fun v1 st =>
 hJ (fun ls st =>
  cb (ls.getD 0 .junk) fun b => br b
   (retR R (.bool true) st)
   (hFix (fun ls_1 st X =>
    qb (q_fa 3 v1) fun v13 =>
    qb (q_load st false 1 v13) fun v14 =>
    qb (q_len v14) fun v15 =>
    qb (q_bin .lss (ls_1.getD 0 .junk) v15) fun v16 =>
    cb v16 fun b_1 => br b_1
     (qb (q_fa 3 v1) fun v19 =>
     qb (q_load st false 1 v19) fun v20 =>
     qb (q_ia 4 v20 (ls_1.getD 0 .junk)) fun v22 =>
     qb (q_load st true 4 v22) fun v23 =>
     callK prog n_spec_l01High [v23] st (fun v24 st =>
     cb v24 fun b_2 => br b_2
      (retR R (.bool true) st)
      (qb (q_bin .add (ls_1.getD 0 .junk) (.int .i64 1)) fun v18 =>
      X [v18] st)) (panR R))
     (retR R (.bool false) st))
    [(.int .i64 0)] st))
  (fun k =>
 qb (q_fa 0 v1) fun v4 =>
 qb (q_load st false 1 v4) fun v5 =>
 qb (q_bin .eql v5 (.int .i64 5)) fun v6 =>
 cb v6 fun b_3 => br b_3
  (qb (q_fa 1 v1) fun v8 =>
  qb (q_load st false 1 v8) fun v9 =>
  qb (q_bin .gtr v9 (.int .i64 100)) fun v10 =>
  k [v10] st)
  (k [(.bool false)] st))
theorem e_spec_l01High : Enters prog n_spec_l01High := ⟨Go.Proofs.Tryz.f201, by kernel_rfl, by kernel_rfl, by kernel_rfl⟩
theorem c_spec_l01High {a0 : PV} {st : St} {R : Res → St → Prop} (h : b_spec_l01High a0 st R) : HCalls prog n_spec_l01High [a0] st R :=
 hcalls_of_func tyOK mixed (fn := Go.Proofs.Tryz.f201) (by kernel_rfl) (by kernel_rfl) (by kernel_rfl) (ann := [(16, [3]), (5, [11])])
  (show hFunc prog TT [(16, [3]), (5, [11])] Go.Proofs.Tryz.f201 [a0] st R from (show hFunc prog TT [(16, [3]), (5, [11])] Go.Proofs.Tryz.f201 [a0] st R = b_spec_l01High a0 st R by kernel_rfl) ▸ h)
def b_impl_turned (a0 a1 a2 : PV) (st : St) (R : Res → St → Prop) : Prop :=
 e_box st a0 fun v3 st =>
 e_alloc st [.int .i64 0, .int .i64 0, .str [], .sl 0 true []] fun v6 st =>
 qb (q_lit 4 0 0 [] []) fun v10 =>
 qb (q_fa 3 v3) fun v11 =>
 qb (q_load st false 1 v11) fun v12 =>
 qb (q_len v12) fun v13 =>
 hJ (fun ls st =>
  qb (q_fa 3 v3) fun v31 =>
  e_store st 1 v31 (ls.getD 0 .junk) fun st =>
  qb (q_fa 0 v3) fun v32 =>
  qb (q_load st false 1 v32) fun v33 =>
  qb (q_bin .eql v33 (.int .i64 5)) fun v34 =>
  cb v34 fun b => br b
   (qb (q_load st true 4 v3) fun v36 =>
   e_call prog st a2 [v36, a1] (fun v38 st =>
   e_store st 4 v6 v38 fun st =>
   qb (q_load st true 4 v6) fun r => retR R r st) (panR R))
   (qb (q_load st true 4 v3) fun v39 =>
   e_store st 4 v6 v39 fun st =>
   qb (q_load st true 4 v6) fun r_1 => retR R r_1 st))
  (fun k =>
 hFix (fun ls_1 st X =>
  qb (q_bin .lss (ls_1.getD 1 .junk) v13) fun v15 =>
  cb v15 fun b_1 => br b_1
   (qb (q_ia 4 v12 (ls_1.getD 1 .junk)) fun v17 =>
   qb (q_load st true 4 v17) fun v18 =>
   e_alloc st [.int .i64 0, .int .i64 0, .str [], .sl 0 true []] fun v9 st =>
   e_store st 4 v9 v18 fun st =>
   qb (q_load st true 4 v9) fun v20 =>
   callK prog n_impl_Tree_under [v3, (ls_1.getD 1 .junk)] st (fun v23 st =>
   q_load st true 4 v9 = some v20 ∧ (qb (q_bin .add a1 v23) fun v24 =>
   callK prog n_impl_turned [v20, v24, a2] st (fun v26 st =>
   qb (q_lit 4 1 0 [] [(0, v26)]) fun v27 =>
   e_append st 4 56 (ls_1.getD 0 .junk) v27 (fun v28 st =>
   qb (q_bin .add (ls_1.getD 1 .junk) (.int .i64 1)) fun v29 =>
   X [v28, v29] st)) (panR R))) (panR R))
   (k [(ls_1.getD 0 .junk)] st))
  [v10, (.int .i64 0)] st)
theorem c_impl_turned {a0 a1 a2 : PV} {st : St} {R : Res → St → Prop} (h : b_impl_turned a0 a1 a2 st R) : HCalls prog n_impl_turned [a0, a1, a2] st R :=
 hcalls_of_func tyOK mixed (fn := Go.Proofs.Tryz.f202) (by kernel_rfl) (by kernel_rfl) (by kernel_rfl) (ann := [(12, [7, 14]), (3, [7])])
  (show hFunc prog TT [(12, [7, 14]), (3, [7])] Go.Proofs.Tryz.f202 [a0, a1, a2] st R from (show hFunc prog TT [(12, [7, 14]), (3, [7])] Go.Proofs.Tryz.f202 [a0, a1, a2] st R = b_impl_turned a0 a1 a2 st R by kernel_rfl) ▸ h)
def b_impl_lift_1 (a0 a1 a2 a3 : PV) (st : St) (R : Res → St → Prop) : Prop :=
 e_box st a0 fun v4 st =>
 e_alloc st [.int .i64 0, .int .i64 0, .str [], .sl 0 true []] fun v6 st =>
 qb (q_fa 1 v4) fun v7 =>
 qb (q_load st false 1 v7) fun v8 =>
 qb (q_load st false 1 a2) fun v9 =>
 qb (q_bin .add v9 a1) fun v11 =>
 qb (q_bin .geq v8 v11) fun v12 =>
 cb v12 fun b => br b
  (qb (q_fa 1 v4) fun v13 =>
  qb (q_load st false 1 v13) fun v14 =>
  qb (q_load st false 1 a3) fun v15 =>
  qb (q_bin .add v14 v15) fun v16 =>
  qb (q_fa 1 v4) fun v17 =>
  e_store st 1 v17 v16 fun st =>
  qb (q_load st true 4 v4) fun v18 =>
  e_store st 4 v6 v18 fun st =>
  qb (q_load st true 4 v6) fun r => retR R r st)
  (qb (q_load st true 4 v4) fun v18_1 =>
  e_store st 4 v6 v18_1 fun st =>
  qb (q_load st true 4 v6) fun r_1 => retR R r_1 st)
theorem c_impl_lift_1 {a0 a1 a2 a3 : PV} {st : St} {R : Res → St → Prop} (h : b_impl_lift_1 a0 a1 a2 a3 st R) : HCalls prog n_impl_lift_1 [a0, a1, a2, a3] st R :=
 hcalls_of_func tyOK mixed (fn := Go.Proofs.Tryz.f203) (by kernel_rfl) (by kernel_rfl) (by kernel_rfl) (ann := [])
  (show hFunc prog TT [] Go.Proofs.Tryz.f203 [a0, a1, a2, a3] st R from (show hFunc prog TT [] Go.Proofs.Tryz.f203 [a0, a1, a2, a3] st R = b_impl_lift_1 a0 a1 a2 a3 st R by kernel_rfl) ▸ h)
def b_impl_tooBig_1 (a0 a1 a2 : PV) (st : St) (R : Res → St → Prop) : Prop :=
 qb (q_load st false 1 a2) fun v6 =>
 qb (q_bin .add v6 (.int .i64 1)) fun v7 =>
 e_store st 1 a2 v7 fun st =>
 qb (q_load st false 1 a2) fun v8 =>
 qb (q_bin .gtr v8 (.int .i64 150)) fun v9 =>
 cb v9 fun b => br b
  (retR R (.bool true) st)
  (qb (q_nil a0) fun v12 =>
  qb (q_fa 0 v12) fun v13 =>
  qb (q_load st false 1 v13) fun v14 =>
  qb (q_bin .eql v14 (.int .i64 5)) fun v15 =>
  cb v15 fun b_1 => br b_1
   (qb (q_nil a0) fun v18 =>
   qb (q_fa 1 v18) fun v19 =>
   qb (q_load st false 1 v19) fun v20 =>
   qb (q_bin .gtr v20 (.int .i64 100)) fun v21 =>
   retR R v21 st)
   (retR R (.bool false) st))
theorem c_impl_tooBig_1 {a0 a1 a2 : PV} {st : St} {R : Res → St → Prop} (h : b_impl_tooBig_1 a0 a1 a2 st R) : HCalls prog n_impl_tooBig_1 [a0, a1, a2] st R :=
 hcalls_of_func tyOK mixed (fn := Go.Proofs.Tryz.f204) (by kernel_rfl) (by kernel_rfl) (by kernel_rfl) (ann := [])
  (show hFunc prog TT [] Go.Proofs.Tryz.f204 [a0, a1, a2] st R from (show hFunc prog TT [] Go.Proofs.Tryz.f204 [a0, a1, a2] st R = b_impl_tooBig_1 a0 a1 a2 st R by kernel_rfl) ▸ h)
end Go.H.Tryz
