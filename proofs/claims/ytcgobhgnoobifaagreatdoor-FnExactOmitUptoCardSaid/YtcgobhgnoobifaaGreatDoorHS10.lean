/- Part of a proof that the program answers as the reference does: EDS10. -/
import Derived.Test.YtcgobhgnoobifaaGreatDoorHT
/- MADE BY PROGRAM (hgen.py): what the functions compute, over pure values. -/
set_option linter.unusedVariables false
set_option maxRecDepth 100000
namespace Go.H.Tryz
open Go Go.H
def b_spec_l03Long (a0 a1 : PV) (st : St) (R : Res → St → Prop) : Prop :=
 e_box st a0 fun v2 st =>
 e_box st a1 fun v3 st =>
 e_alloc st [.int .i64 0, .int .i64 0, .str [], .sl 0 true []] fun v4 st =>
 qb (q_load st true 4 v3) fun v10 =>
 e_alloc st [.int .i64 0, .int .i64 0, .str [], .sl 0 true []] fun v6 st =>
 e_store st 4 v6 v10 fun st =>
 hFix (fun ls st X =>
  qb (q_fa 0 (ls.getD 1 .junk)) fun v11 =>
  qb (q_load st false 1 v11) fun v12 =>
  qb (q_bin .eql v12 (.int .i64 10)) fun v13 =>
  cb v13 fun b => br b
   (qb (q_bin .add (ls.getD 0 .junk) (.int .i64 1)) fun v19 =>
   qb (q_load st true 4 (ls.getD 1 .junk)) fun v20 =>
   e_alloc st [.int .i64 0, .int .i64 0, .str [], .sl 0 true []] fun v6_1 st =>
   e_store st 4 v6_1 v20 fun st =>
   qb (q_fa 3 v6_1) fun v14 =>
   qb (q_load st false 1 v14) fun v15 =>
   qb (q_ia 4 v15 (.int .i64 1)) fun v16 =>
   qb (q_load st true 4 v16) fun v17 =>
   e_store st 4 v6_1 v17 fun st =>
   X [v19, v6_1] st)
   (qb (q_load st true 4 v2) fun v21 =>
   callK prog n_spec_l01Lift [v21, (.int .i64 0), (ls.getD 0 .junk)] st (fun v23 st =>
   e_alloc st [.int .i64 0, .int .i64 0, .str [], .sl 0 true []] fun v7 st =>
   e_store st 4 v7 v23 fun st =>
   qb (q_lit 4 0 0 [] []) fun v24 =>
   qb (q_fa 3 v7) fun v25 =>
   qb (q_load st false 1 v25) fun v26 =>
   e_append st 4 56 v24 v26 (fun v27 st =>
   qb (q_bin .sub (ls.getD 0 .junk) (.int .i64 1)) fun v29 =>
   hFix (fun ls_1 st X_1 =>
    qb (q_bin .geq (ls_1.getD 1 .junk) (.int .i64 0)) fun v31 =>
    cb v31 fun b_1 => br b_1
     (qb (q_fa 3 v3) fun v37 =>
     qb (q_load st false 1 v37) fun v38 =>
     qb (q_ia 4 v38 (.int .i64 0)) fun v39 =>
     qb (q_load st true 4 v39) fun v40 =>
     callK prog n_spec_l01Var [(ls_1.getD 1 .junk), (.sl 0 true [])] st (fun v36 st =>
     q_load st true 4 v39 = some v40 ∧ q_load st false 1 v37 = some v38 ∧ (callK prog n_spec_l03Long [v36, v40] st (fun v41 st =>
     qb (q_lit 4 1 0 [] [(0, v41)]) fun v42 =>
     e_append st 4 56 (ls_1.getD 0 .junk) v42 (fun v43 st =>
     qb (q_fa 3 v3) fun v44 =>
     qb (q_load st false 1 v44) fun v45 =>
     qb (q_ia 4 v45 (.int .i64 1)) fun v46 =>
     qb (q_load st true 4 v46) fun v47 =>
     e_store st 4 v3 v47 fun st =>
     qb (q_bin .sub (ls_1.getD 1 .junk) (.int .i64 1)) fun v33 =>
     X_1 [v43, v33] st)) (panR R))) (panR R))
     (qb (q_load st true 4 v7) fun v48 =>
     callK prog n_spec_l01With [v48, (ls_1.getD 0 .junk)] st (fun v50 st =>
     e_store st 4 v7 v50 fun st =>
     hFix (fun ls_2 st X_2 =>
      qb (q_bin .gtr (ls_2.getD 0 .junk) (.int .i64 0)) fun v52 =>
      cb v52 fun b_2 => br b_2
       (qb (q_load st true 4 v7) fun v55 =>
       callK prog n_spec_l01Lam [v55] st (fun v56 st =>
       e_store st 4 v7 v56 fun st =>
       qb (q_bin .sub (ls_2.getD 0 .junk) (.int .i64 1)) fun v54 =>
       X_2 [v54] st) (panR R))
       (qb (q_load st true 4 v7) fun v57 =>
       e_store st 4 v4 v57 fun st =>
       qb (q_load st true 4 v4) fun r => retR R r st))
      [(ls.getD 0 .junk)] st) (panR R)))
    [v27, v29] st)) (panR R)))
  [(.int .i64 0), v6] st
theorem c_spec_l03Long {a0 a1 : PV} {st : St} {R : Res → St → Prop} (h : b_spec_l03Long a0 a1 st R) : HCalls prog n_spec_l03Long [a0, a1] st R :=
 hcalls_of_func tyOK mixed (fn := Go.Proofs.Tryz.f205) (by kernel_rfl) (by kernel_rfl) (by kernel_rfl) (ann := [(64, [5]), (44, [8, 9]), (12, [5, 6])])
  (show hFunc prog TT [(64, [5]), (44, [8, 9]), (12, [5, 6])] Go.Proofs.Tryz.f205 [a0, a1] st R from (show hFunc prog TT [(64, [5]), (44, [8, 9]), (12, [5, 6])] Go.Proofs.Tryz.f205 [a0, a1] st R = b_spec_l03Long a0 a1 st R by kernel_rfl) ▸ h)
def b_spec_l01Var (a0 a1 : PV) (st : St) (R : Res → St → Prop) : Prop :=
 e_alloc st [.int .i64 0, .int .i64 0, .str [], .sl 0 true []] fun v4 st =>
 qb (q_struct [.int .i64 0, .int .i64 0, .str [], .sl 0 true []] [(0, 1, (.int .i64 5)), (1, 1, a0), (3, 1, a1)]) fun v7 =>
 e_store st 4 v4 v7 fun st =>
 qb (q_load st true 4 v4) fun r => retR R r st
theorem c_spec_l01Var {a0 a1 : PV} {st : St} {R : Res → St → Prop} (h : b_spec_l01Var a0 a1 st R) : HCalls prog n_spec_l01Var [a0, a1] st R :=
 hcalls_of_func tyOK mixed (fn := Go.Proofs.Tryz.f206) (by kernel_rfl) (by kernel_rfl) (by kernel_rfl) (ann := [])
  (show hFunc prog TT [] Go.Proofs.Tryz.f206 [a0, a1] st R from (show hFunc prog TT [] Go.Proofs.Tryz.f206 [a0, a1] st R = b_spec_l01Var a0 a1 st R by kernel_rfl) ▸ h)
def b_slices_IndexFunc_impl_Tree_impl_Tree (a0 a1 : PV) (st : St) (R : Res → St → Prop) : Prop :=
 qb (q_len a0) fun v7 =>
 hFix (fun ls st X =>
  qb (q_bin .lss (ls.getD 0 .junk) v7) fun v9 =>
  cb v9 fun b => br b
   (qb (q_ia 4 a0 (ls.getD 0 .junk)) fun v14 =>
   qb (q_load st true 4 v14) fun v15 =>
   e_call prog st a1 [v15] (fun v16 st =>
   cb v16 fun b_1 => br b_1
    (retR R (ls.getD 0 .junk) st)
    (qb (q_bin .add (ls.getD 0 .junk) (.int .i64 1)) fun v18 =>
    X [v18] st)) (panR R))
   (retR R (.int .i64 (-1)) st))
  [(.int .i64 0)] st
theorem e_slices_IndexFunc_impl_Tree_impl_Tree : Enters prog n_slices_IndexFunc_impl_Tree_impl_Tree := ⟨Go.Proofs.Tryz.f207, by kernel_rfl, by kernel_rfl, by kernel_rfl⟩
theorem c_slices_IndexFunc_impl_Tree_impl_Tree {a0 a1 : PV} {st : St} {R : Res → St → Prop} (h : b_slices_IndexFunc_impl_Tree_impl_Tree a0 a1 st R) : HCalls prog n_slices_IndexFunc_impl_Tree_impl_Tree [a0, a1] st R :=
 hcalls_of_func tyOK mixed (fn := Go.Proofs.Tryz.f207) (by kernel_rfl) (by kernel_rfl) (by kernel_rfl) (ann := [(8, [8])])
  (show hFunc prog TT [(8, [8])] Go.Proofs.Tryz.f207 [a0, a1] st R from (show hFunc prog TT [(8, [8])] Go.Proofs.Tryz.f207 [a0, a1] st R = b_slices_IndexFunc_impl_Tree_impl_Tree a0 a1 st R by kernel_rfl) ▸ h)
theorem e_strings_IndexByte : Enters prog n_strings_IndexByte := ⟨Go.Proofs.Tryz.f208, by kernel_rfl, by kernel_rfl, by kernel_rfl⟩
def b_internal_stringslite_HasPrefix (a0 a1 : PV) (st : St) (R : Res → St → Prop) : Prop :=
 qb (q_lenS a0) fun v6 =>
 qb (q_lenS a1) fun v8 =>
 qb (q_bin .geq v6 v8) fun v9 =>
 cb v9 fun b => br b
  (qb (q_lenS a1) fun v13 =>
  qb (q_sliceS a0 none (some v13) none) fun v14 =>
  qb (q_bin .eql v14 a1) fun v16 =>
  retR R v16 st)
  (retR R (.bool false) st)
theorem c_internal_stringslite_HasPrefix {a0 a1 : PV} {st : St} {R : Res → St → Prop} (h : b_internal_stringslite_HasPrefix a0 a1 st R) : HCalls prog n_internal_stringslite_HasPrefix [a0, a1] st R :=
 hcalls_of_func tyOK mixed (fn := Go.Proofs.Tryz.f209) (by kernel_rfl) (by kernel_rfl) (by kernel_rfl) (ann := [])
  (show hFunc prog TT [] Go.Proofs.Tryz.f209 [a0, a1] st R from (show hFunc prog TT [] Go.Proofs.Tryz.f209 [a0, a1] st R = b_internal_stringslite_HasPrefix a0 a1 st R by kernel_rfl) ▸ h)
def b_spec_l01Binds (a0 a1 : PV) (st : St) (R : Res → St → Prop) : Prop :=
 e_box st a0 fun v2 st =>
 qb (q_fa 0 v2) fun v5 =>
 qb (q_load st false 1 v5) fun v6 =>
 qb (q_bin .eql v6 (.int .i64 4)) fun v7 =>
 cb v7 fun b => br b
  (retR R (.bool true) st)
  (qb (q_fa 0 v2) fun v9 =>
  qb (q_load st false 1 v9) fun v10 =>
  qb (q_bin .eql v10 (.int .i64 2)) fun v11 =>
  cb v11 fun b_1 => br b_1
   (qb (q_bin .eql a1 (.int .i64 1)) fun v14 =>
   retR R v14 st)
   (retR R (.bool false) st))
theorem c_spec_l01Binds {a0 a1 : PV} {st : St} {R : Res → St → Prop} (h : b_spec_l01Binds a0 a1 st R) : HCalls prog n_spec_l01Binds [a0, a1] st R :=
 hcalls_of_func tyOK mixed (fn := Go.Proofs.Tryz.f217) (by kernel_rfl) (by kernel_rfl) (by kernel_rfl) (ann := [])
  (show hFunc prog TT [] Go.Proofs.Tryz.f217 [a0, a1] st R from (show hFunc prog TT [] Go.Proofs.Tryz.f217 [a0, a1] st R = b_spec_l01Binds a0 a1 st R by kernel_rfl) ▸ h)
def b_impl_work_apply (a0 a1 a2 a3 : PV) (st : St) (R : Res → St → Prop) : Prop :=
 e_box st a1 fun v5 st =>
 e_box st a2 fun v6 st =>
 e_alloc st [.int .i64 0, .int .i64 0, .str [], .sl 0 true []] fun v8 st =>
 qb (q_len a3) fun v12 =>
 hFix (fun ls st X =>
  qb (q_bin .lss (ls.getD 0 .junk) v12) fun v14 =>
  cb v14 fun b => br b
   (qb (q_ia 4 a3 (ls.getD 0 .junk)) fun v15 =>
   qb (q_load st true 4 v15) fun v16 =>
   e_alloc st [.int .i64 0, .int .i64 0, .str [], .sl 0 true []] fun v10 st =>
   e_store st 4 v10 v16 fun st =>
   hJ (fun ls_1 st =>
    cb (ls_1.getD 0 .junk) fun b_1 => br b_1
     (callK prog n_impl_stop [(.int .i64 12), (.int .i64 0)] st (fun v25 st =>
     qb (q_nil a0) fun v27 =>
     qb (q_fa 0 v27) fun v28 =>
     qb (q_load st false 1 v28) fun v29 =>
     qb (q_bin .add v29 (.int .i64 1)) fun v30 =>
     qb (q_nil a0) fun v31 =>
     qb (q_fa 0 v31) fun v32 =>
     e_store st 1 v32 v30 fun st =>
     qb (q_nil a0) fun v34 =>
     qb (q_fa 0 v34) fun v35 =>
     qb (q_load st false 1 v35) fun v36 =>
     qb (q_bin .gtr v36 (.int .i64 20000)) fun v37 =>
     hJ (fun ls_2 st =>
      qb (q_load st true 4 v10) fun v40 =>
      qb (q_fa 3 v6) fun v41 =>
      qb (q_load st false 1 v41) fun v42 =>
      qb (q_ia 4 v42 (.int .i64 0)) fun v43 =>
      qb (q_load st true 4 v43) fun v44 =>
      qb (q_fa 3 v5) fun v45 =>
      qb (q_load st false 1 v45) fun v46 =>
      qb (q_ia 4 v46 (.int .i64 0)) fun v47 =>
      qb (q_load st true 4 v47) fun v48 =>
      callK prog n_impl_work_put [a0, v40, v44, (.int .i64 0), v48] st (fun v49 st =>
      e_store st 4 v5 v49 fun st =>
      qb (q_fa 3 v6) fun v50 =>
      qb (q_load st false 1 v50) fun v51 =>
      qb (q_ia 4 v51 (.int .i64 1)) fun v52 =>
      qb (q_load st true 4 v52) fun v53 =>
      e_store st 4 v6 v53 fun st =>
      qb (q_bin .add (ls.getD 0 .junk) (.int .i64 1)) fun v54 =>
      X [v54] st) (panR R))
      (fun k_1 =>
     cb v37 fun b_2 => br b_2
      (callK prog n_impl_stop [(.int .i64 17), (.int .i64 0)] st (fun v38 st =>
      k_1 [] st) (panR R))
      (k_1 [] st))) (panR R))
     (qb (q_nil a0) fun v27_1 =>
     qb (q_fa 0 v27_1) fun v28_1 =>
     qb (q_load st false 1 v28_1) fun v29_1 =>
     qb (q_bin .add v29_1 (.int .i64 1)) fun v30_1 =>
     qb (q_nil a0) fun v31_1 =>
     qb (q_fa 0 v31_1) fun v32_1 =>
     e_store st 1 v32_1 v30_1 fun st =>
     qb (q_nil a0) fun v34_1 =>
     qb (q_fa 0 v34_1) fun v35_1 =>
     qb (q_load st false 1 v35_1) fun v36_1 =>
     qb (q_bin .gtr v36_1 (.int .i64 20000)) fun v37_1 =>
     hJ (fun ls_3 st =>
      qb (q_load st true 4 v10) fun v40_1 =>
      qb (q_fa 3 v6) fun v41_1 =>
      qb (q_load st false 1 v41_1) fun v42_1 =>
      qb (q_ia 4 v42_1 (.int .i64 0)) fun v43_1 =>
      qb (q_load st true 4 v43_1) fun v44_1 =>
      qb (q_fa 3 v5) fun v45_1 =>
      qb (q_load st false 1 v45_1) fun v46_1 =>
      qb (q_ia 4 v46_1 (.int .i64 0)) fun v47_1 =>
      qb (q_load st true 4 v47_1) fun v48_1 =>
      callK prog n_impl_work_put [a0, v40_1, v44_1, (.int .i64 0), v48_1] st (fun v49_1 st =>
      e_store st 4 v5 v49_1 fun st =>
      qb (q_fa 3 v6) fun v50_1 =>
      qb (q_load st false 1 v50_1) fun v51_1 =>
      qb (q_ia 4 v51_1 (.int .i64 1)) fun v52_1 =>
      qb (q_load st true 4 v52_1) fun v53_1 =>
      e_store st 4 v6 v53_1 fun st =>
      qb (q_bin .add (ls.getD 0 .junk) (.int .i64 1)) fun v54_1 =>
      X [v54_1] st) (panR R))
      (fun k_2 =>
     cb v37_1 fun b_3 => br b_3
      (callK prog n_impl_stop [(.int .i64 17), (.int .i64 0)] st (fun v38_1 st =>
      k_2 [] st) (panR R))
      (k_2 [] st))))
    (fun k =>
   qb (q_fa 0 v6) fun v17 =>
   qb (q_load st false 1 v17) fun v18 =>
   qb (q_bin .neq v18 (.int .i64 10)) fun v19 =>
   cb v19 fun b_4 => br b_4
    (k [(.bool true)] st)
    (qb (q_fa 0 v5) fun v21 =>
    qb (q_load st false 1 v21) fun v22 =>
    qb (q_bin .neq v22 (.int .i64 4)) fun v23 =>
    k [v23] st)))
   (qb (q_load st true 4 v5) fun v55 =>
   e_store st 4 v8 v55 fun st =>
   qb (q_load st true 4 v8) fun r => retR R r st))
  [(.int .i64 0)] st
theorem c_impl_work_apply {a0 a1 a2 a3 : PV} {st : St} {R : Res → St → Prop} (h : b_impl_work_apply a0 a1 a2 a3 st R) : HCalls prog n_impl_work_apply [a0, a1, a2, a3] st R :=
 hcalls_of_func tyOK mixed (fn := Go.Proofs.Tryz.f218) (by kernel_rfl) (by kernel_rfl) (by kernel_rfl) (ann := [(8, [13]), (17, [24]), (34, [])])
  (show hFunc prog TT [(8, [13]), (17, [24]), (34, [])] Go.Proofs.Tryz.f218 [a0, a1, a2, a3] st R from (show hFunc prog TT [(8, [13]), (17, [24]), (34, [])] Go.Proofs.Tryz.f218 [a0, a1, a2, a3] st R = b_impl_work_apply a0 a1 a2 a3 st R by kernel_rfl) ▸ h)
def b_impl_formed (a0 : PV) (st : St) (R : Res → St → Prop) : Prop :=
 e_box st a0 fun v1 st =>
 e_alloc st [.int .i64 0, .int .i64 0, .str [], .sl 0 true []] fun v2 st =>
 qb (q_load st true 4 v1) fun v3 =>
 callK prog n_impl_tooBig [v3] st (fun v4 st =>
 cb v4 fun b => br b
  (callK prog n_impl_stop [(.int .i64 11), (.int .i64 0)] st (fun v5 st =>
  qb (q_load st true 4 v1) fun v6 =>
  e_store st 4 v2 v6 fun st =>
  qb (q_load st true 4 v2) fun r => retR R r st) (panR R))
  (qb (q_load st true 4 v1) fun v6_1 =>
  e_store st 4 v2 v6_1 fun st =>
  qb (q_load st true 4 v2) fun r_1 => retR R r_1 st)) (panR R)
theorem c_impl_formed {a0 : PV} {st : St} {R : Res → St → Prop} (h : b_impl_formed a0 st R) : HCalls prog n_impl_formed [a0] st R :=
 hcalls_of_func tyOK mixed (fn := Go.Proofs.Tryz.f219) (by kernel_rfl) (by kernel_rfl) (by kernel_rfl) (ann := [])
  (show hFunc prog TT [] Go.Proofs.Tryz.f219 [a0] st R from (show hFunc prog TT [] Go.Proofs.Tryz.f219 [a0] st R = b_impl_formed a0 st R by kernel_rfl) ▸ h)
def b_impl_Tree_binds (a0 a1 : PV) (st : St) (R : Res → St → Prop) : Prop :=
 qb (q_nil a0) fun v6 =>
 qb (q_fa 0 v6) fun v7 =>
 qb (q_load st false 1 v7) fun v8 =>
 qb (q_bin .eql v8 (.int .i64 4)) fun v9 =>
 cb v9 fun b => br b
  (retR R (.bool true) st)
  (qb (q_nil a0) fun v12 =>
  qb (q_fa 0 v12) fun v13 =>
  qb (q_load st false 1 v13) fun v14 =>
  qb (q_bin .eql v14 (.int .i64 2)) fun v15 =>
  cb v15 fun b_1 => br b_1
   (qb (q_bin .eql a1 (.int .i64 1)) fun v18 =>
   retR R v18 st)
   (retR R (.bool false) st))
theorem c_impl_Tree_binds {a0 a1 : PV} {st : St} {R : Res → St → Prop} (h : b_impl_Tree_binds a0 a1 st R) : HCalls prog n_impl_Tree_binds [a0, a1] st R :=
 hcalls_of_func tyOK mixed (fn := Go.Proofs.Tryz.f220) (by kernel_rfl) (by kernel_rfl) (by kernel_rfl) (ann := [])
  (show hFunc prog TT [] Go.Proofs.Tryz.f220 [a0, a1] st R from (show hFunc prog TT [] Go.Proofs.Tryz.f220 [a0, a1] st R = b_impl_Tree_binds a0 a1 st R by kernel_rfl) ▸ h)
def b_spec_l01Lam (a0 : PV) (st : St) (R : Res → St → Prop) : Prop :=
 e_box st a0 fun v1 st =>
 e_alloc st [.int .i64 0, .int .i64 0, .str [], .sl 0 true []] fun v2 st =>
 qb (q_load st true 4 v1) fun v3 =>
 qb (q_lit 4 1 0 [] [(0, v3)]) fun v4 =>
 qb (q_struct [.int .i64 0, .int .i64 0, .str [], .sl 0 true []] [(0, 1, (.int .i64 4)), (3, 1, v4)]) fun v5 =>
 e_store st 4 v2 v5 fun st =>
 qb (q_load st true 4 v2) fun r => retR R r st
theorem c_spec_l01Lam {a0 : PV} {st : St} {R : Res → St → Prop} (h : b_spec_l01Lam a0 st R) : HCalls prog n_spec_l01Lam [a0] st R :=
 hcalls_of_func tyOK mixed (fn := Go.Proofs.Tryz.f221) (by kernel_rfl) (by kernel_rfl) (by kernel_rfl) (ann := [])
  (show hFunc prog TT [] Go.Proofs.Tryz.f221 [a0] st R from (show hFunc prog TT [] Go.Proofs.Tryz.f221 [a0] st R = b_spec_l01Lam a0 st R by kernel_rfl) ▸ h)
end Go.H.Tryz
