/- Part of a proof that the program answers as the reference does: DS3. -/
import Derived.Test.YtmfdgpjmdbdhcaaDoorHT
/- MADE BY PROGRAM (hgen.py): what the functions compute, over pure values. -/
set_option linter.unusedVariables false
set_option maxRecDepth 100000
namespace Go.H.Tryd
open Go Go.H
def b_impl_over (a0 a1 : PV) (st : St) (R : Res → St → Prop) : Prop :=
 callK prog n_strings_Trim [a0, a1] st (fun v7 st =>
 qb (q_bin .eql v7 (.str [])) fun v8 =>
 retR R v8 st) (panR R)
theorem e_impl_over : Enters prog n_impl_over := ⟨Go.Proofs.Tryd.f64, by kernel_rfl, by kernel_rfl, by kernel_rfl⟩
theorem c_impl_over {a0 a1 : PV} {st : St} {R : Res → St → Prop} (h : b_impl_over a0 a1 st R) : HCalls prog n_impl_over [a0, a1] st R :=
 hcalls_of_func tyOK mixed (fn := Go.Proofs.Tryd.f64) (by kernel_rfl) (by kernel_rfl) (by kernel_rfl) (ann := [])
  (show hFunc prog TT [] Go.Proofs.Tryd.f64 [a0, a1] st R from (show hFunc prog TT [] Go.Proofs.Tryd.f64 [a0, a1] st R = b_impl_over a0 a1 st R by kernel_rfl) ▸ h)
def b_slices_IndexFunc_impl_Tree_impl_Tree (a0 a1 : PV) (st : St) (R : Res → St → Prop) : Prop :=
 qb (q_len a0) fun v7 =>
 hFix (fun ls st X =>
  qb (q_bin .lss (ls.getD 0 .junk) v7) fun v9 =>
  cb v9 fun b => br b
   (qb (q_ia 4 a0 (ls.getD 0 .junk)) fun v14 =>
   qb (q_load st true 4 v14) fun v15 =>
   e_call prog st a1 [v15] (fun v16 st =>
   cb v16 fun b_1 => br b_1
    (retR R (ls.getD 0 .junk) st)
    (qb (q_bin .add (ls.getD 0 .junk) (.int .i64 1)) fun v18 =>
    X [v18] st)) (panR R))
   (retR R (.int .i64 (-1)) st))
  [(.int .i64 0)] st
theorem e_slices_IndexFunc_impl_Tree_impl_Tree : Enters prog n_slices_IndexFunc_impl_Tree_impl_Tree := ⟨Go.Proofs.Tryd.f65, by kernel_rfl, by kernel_rfl, by kernel_rfl⟩
theorem c_slices_IndexFunc_impl_Tree_impl_Tree {a0 a1 : PV} {st : St} {R : Res → St → Prop} (h : b_slices_IndexFunc_impl_Tree_impl_Tree a0 a1 st R) : HCalls prog n_slices_IndexFunc_impl_Tree_impl_Tree [a0, a1] st R :=
 hcalls_of_func tyOK mixed (fn := Go.Proofs.Tryd.f65) (by kernel_rfl) (by kernel_rfl) (by kernel_rfl) (ann := [(8, [8])])
  (show hFunc prog TT [(8, [8])] Go.Proofs.Tryd.f65 [a0, a1] st R from (show hFunc prog TT [(8, [8])] Go.Proofs.Tryd.f65 [a0, a1] st R = b_slices_IndexFunc_impl_Tree_impl_Tree a0 a1 st R by kernel_rfl) ▸ h)
def b_impl_looker_simple (a0 a1 : PV) (st : St) (R : Res → St → Prop) : Prop :=
 e_box st a1 fun v3 st =>
 callK prog n_impl_looker_node [a0] st (fun v6 st =>
 qb (q_un .not v6) fun v7 =>
 cb v7 fun b => br b
  (retR R (.bool false) st)
  (qb (q_fa 0 v3) fun v8 =>
  qb (q_load st false 1 v8) fun v9 =>
  qb (q_bin .eql v9 (.int .i64 9)) fun v11 =>
  cb v11 fun b_1 => br b_1
   (qb (q_fa 1 v3) fun v12 =>
   qb (q_load st false 1 v12) fun v13 =>
   qb (q_bin .eql v13 (.int .i64 0)) fun v14 =>
   cb v14 fun b_2 => br b_2
    (qb (q_fa 2 v3) fun v16 =>
    qb (q_load st false 1 v16) fun v17 =>
    callK prog n_impl_NameOK [v17] st (fun v18 st =>
    cb v18 fun b_3 => br b_3
     (qb (q_fa 3 v3) fun v21 =>
     qb (q_load st false 1 v21) fun v22 =>
     qb (q_len v22) fun v23 =>
     qb (q_bin .eql v23 (.int .i64 0)) fun v24 =>
     retR R v24 st)
     (retR R (.bool false) st)) (panR R))
    (retR R (.bool false) st))
   (qb (q_bin .eql v9 (.int .i64 10)) fun v27 =>
   cb v27 fun b_4 => br b_4
    (callK prog n_impl_Tree_bare [v3, (.int .i64 2)] st (fun v28 st =>
    cb v28 fun b_5 => br b_5
     (qb (q_fa 3 v3) fun v31 =>
     qb (q_load st false 1 v31) fun v32 =>
     qb (q_ia 4 v32 (.int .i64 0)) fun v33 =>
     qb (q_load st true 4 v33) fun v34 =>
     callK prog n_impl_looker_simple [a0, v34] st (fun v35 st =>
     cb v35 fun b_6 => br b_6
      (qb (q_fa 3 v3) fun v39 =>
      qb (q_load st false 1 v39) fun v40 =>
      qb (q_ia 4 v40 (.int .i64 1)) fun v41 =>
      qb (q_load st true 4 v41) fun v42 =>
      callK prog n_impl_looker_simple [a0, v42] st (fun v43 st =>
      retR R v43 st) (panR R))
      (retR R (.bool false) st)) (panR R))
     (retR R (.bool false) st)) (panR R))
    (retR R (.bool false) st)))) (panR R)
theorem e_impl_looker_simple : Enters prog n_impl_looker_simple := ⟨Go.Proofs.Tryd.f66, by kernel_rfl, by kernel_rfl, by kernel_rfl⟩
theorem c_impl_looker_simple {a0 a1 : PV} {st : St} {R : Res → St → Prop} (h : b_impl_looker_simple a0 a1 st R) : HCalls prog n_impl_looker_simple [a0, a1] st R :=
 hcalls_of_func tyOK mixed (fn := Go.Proofs.Tryd.f66) (by kernel_rfl) (by kernel_rfl) (by kernel_rfl) (ann := [])
  (show hFunc prog TT [] Go.Proofs.Tryd.f66 [a0, a1] st R from (show hFunc prog TT [] Go.Proofs.Tryd.f66 [a0, a1] st R = b_impl_looker_simple a0 a1 st R by kernel_rfl) ▸ h)
def b_slices_IndexFunc_impl_Typed_impl_Typed (a0 a1 : PV) (st : St) (R : Res → St → Prop) : Prop :=
 qb (q_len a0) fun v7 =>
 hFix (fun ls st X =>
  qb (q_bin .lss (ls.getD 0 .junk) v7) fun v9 =>
  cb v9 fun b => br b
   (qb (q_ia 5 a0 (ls.getD 0 .junk)) fun v14 =>
   qb (q_load st true 5 v14) fun v15 =>
   e_call prog st a1 [v15] (fun v16 st =>
   cb v16 fun b_1 => br b_1
    (retR R (ls.getD 0 .junk) st)
    (qb (q_bin .add (ls.getD 0 .junk) (.int .i64 1)) fun v18 =>
    X [v18] st)) (panR R))
   (retR R (.int .i64 (-1)) st))
  [(.int .i64 0)] st
theorem e_slices_IndexFunc_impl_Typed_impl_Typed : Enters prog n_slices_IndexFunc_impl_Typed_impl_Typed := ⟨Go.Proofs.Tryd.f67, by kernel_rfl, by kernel_rfl, by kernel_rfl⟩
theorem c_slices_IndexFunc_impl_Typed_impl_Typed {a0 a1 : PV} {st : St} {R : Res → St → Prop} (h : b_slices_IndexFunc_impl_Typed_impl_Typed a0 a1 st R) : HCalls prog n_slices_IndexFunc_impl_Typed_impl_Typed [a0, a1] st R :=
 hcalls_of_func tyOK mixed (fn := Go.Proofs.Tryd.f67) (by kernel_rfl) (by kernel_rfl) (by kernel_rfl) (ann := [(8, [8])])
  (show hFunc prog TT [(8, [8])] Go.Proofs.Tryd.f67 [a0, a1] st R from (show hFunc prog TT [(8, [8])] Go.Proofs.Tryd.f67 [a0, a1] st R = b_slices_IndexFunc_impl_Typed_impl_Typed a0 a1 st R by kernel_rfl) ▸ h)
def b_impl_simpler_typeOf_1 (a0 a1 : PV) (st : St) (R : Res → St → Prop) : Prop :=
 e_box st a0 fun v2 st =>
 qb (q_fa 0 v2) fun v4 =>
 qb (q_load st false 1 v4) fun v5 =>
 qb (q_fa 2 a1) fun v6 =>
 qb (q_load st false 1 v6) fun v7 =>
 qb (q_bin .eql v5 v7) fun v8 =>
 retR R v8 st
theorem e_impl_simpler_typeOf_1 : Enters prog n_impl_simpler_typeOf_1 := ⟨Go.Proofs.Tryd.f68, by kernel_rfl, by kernel_rfl, by kernel_rfl⟩
theorem c_impl_simpler_typeOf_1 {a0 a1 : PV} {st : St} {R : Res → St → Prop} (h : b_impl_simpler_typeOf_1 a0 a1 st R) : HCalls prog n_impl_simpler_typeOf_1 [a0, a1] st R :=
 hcalls_of_func tyOK mixed (fn := Go.Proofs.Tryd.f68) (by kernel_rfl) (by kernel_rfl) (by kernel_rfl) (ann := [])
  (show hFunc prog TT [] Go.Proofs.Tryd.f68 [a0, a1] st R from (show hFunc prog TT [] Go.Proofs.Tryd.f68 [a0, a1] st R = b_impl_simpler_typeOf_1 a0 a1 st R by kernel_rfl) ▸ h)
def b_spec_l06Var (a0 a1 : PV) (st : St) (R : Res → St → Prop) : Prop :=
 e_box st a0 fun v2 st =>
 e_box st a1 fun v3 st =>
 qb (q_load st true 4 v2) fun v7 =>
 e_alloc st [.int .i64 0, .int .i64 0, .str [], .sl 0 true []] fun v6 st =>
 e_store st 4 v6 v7 fun st =>
 hJ (fun ls st =>
  qb (q_fa 0 v6) fun v17 =>
  qb (q_load st false 1 v17) fun v18 =>
  qb (q_bin .neq v18 (.int .i64 5)) fun v19 =>
  cb v19 fun b => br b
   (retR R (.int .i64 (-1)) st)
   (qb (q_fa 1 v6) fun v21 =>
   qb (q_load st false 1 v21) fun v22 =>
   qb (q_bin .lss v22 (ls.getD 0 .junk)) fun v24 =>
   cb v24 fun b_1 => br b_1
    (retR R (.int .i64 (-1)) st)
    (qb (q_load st true 4 v2) fun v26 =>
    qb (q_fa 1 v6) fun v27 =>
    qb (q_load st false 1 v27) fun v28 =>
    qb (q_bin .sub v28 (ls.getD 0 .junk)) fun v30 =>
    qb (q_load st true 4 v3) fun v32 =>
    callK prog n_spec_l01Var [v30, (.sl 0 true [])] st (fun v31 st =>
    q_load st true 4 v3 = some v32 ∧ q_load st true 4 v2 = some v26 ∧ (callK prog n_spec_l03Long [v31, v32] st (fun v33 st =>
    q_load st true 4 v2 = some v26 ∧ (callK prog n_spec_l01Same [v26, v33] st (fun v34 st =>
    qb (q_un .not v34) fun v35 =>
    cb v35 fun b_2 => br b_2
     (retR R (.int .i64 (-1)) st)
     (qb (q_fa 1 v6) fun v36 =>
     qb (q_load st false 1 v36) fun v37 =>
     qb (q_bin .sub v37 (ls.getD 0 .junk)) fun v39 =>
     retR R v39 st)) (panR R))) (panR R))) (panR R))))
  (fun k =>
 hFix (fun ls_1 st X =>
  qb (q_fa 0 v6) fun v8 =>
  qb (q_load st false 1 v8) fun v9 =>
  qb (q_bin .eql v9 (.int .i64 4)) fun v10 =>
  cb v10 fun b_3 => br b_3
   (qb (q_fa 3 v6) fun v11 =>
   qb (q_load st false 1 v11) fun v12 =>
   qb (q_ia 4 v12 (.int .i64 0)) fun v13 =>
   qb (q_load st true 4 v13) fun v14 =>
   e_store st 4 v6 v14 fun st =>
   qb (q_bin .add (ls_1.getD 0 .junk) (.int .i64 1)) fun v16 =>
   X [v16] st)
   (k [(ls_1.getD 0 .junk)] st))
  [(.int .i64 0)] st)
theorem e_spec_l06Var : Enters prog n_spec_l06Var := ⟨Go.Proofs.Tryd.f69, by kernel_rfl, by kernel_rfl, by kernel_rfl⟩
theorem c_spec_l06Var {a0 a1 : PV} {st : St} {R : Res → St → Prop} (h : b_spec_l06Var a0 a1 st R) : HCalls prog n_spec_l06Var [a0, a1] st R :=
 hcalls_of_func tyOK mixed (fn := Go.Proofs.Tryd.f69) (by kernel_rfl) (by kernel_rfl) (by kernel_rfl) (ann := [(12, [5]), (3, [5])])
  (show hFunc prog TT [(12, [5]), (3, [5])] Go.Proofs.Tryd.f69 [a0, a1] st R from (show hFunc prog TT [(12, [5]), (3, [5])] Go.Proofs.Tryd.f69 [a0, a1] st R = b_spec_l06Var a0 a1 st R by kernel_rfl) ▸ h)
def b_spec_l06Place (a0 a1 : PV) (st : St) (R : Res → St → Prop) : Prop :=
 hFix (fun ls st X =>
  qb (q_len a0) fun v8 =>
  qb (q_bin .lss (ls.getD 0 .junk) v8) fun v9 =>
  cb v9 fun b => br b
   (qb (q_ia 1 a0 (ls.getD 0 .junk)) fun v14 =>
   qb (q_load st false 1 v14) fun v15 =>
   qb (q_bin .eql v15 a1) fun v17 =>
   cb v17 fun b_1 => br b_1
    (retR R (ls.getD 0 .junk) st)
    (qb (q_bin .add (ls.getD 0 .junk) (.int .i64 1)) fun v11 =>
    X [v11] st))
   (retR R (.int .i64 (-1)) st))
  [(.int .i64 0)] st
theorem e_spec_l06Place : Enters prog n_spec_l06Place := ⟨Go.Proofs.Tryd.f70, by kernel_rfl, by kernel_rfl, by kernel_rfl⟩
theorem c_spec_l06Place {a0 a1 : PV} {st : St} {R : Res → St → Prop} (h : b_spec_l06Place a0 a1 st R) : HCalls prog n_spec_l06Place [a0, a1] st R :=
 hcalls_of_func tyOK mixed (fn := Go.Proofs.Tryd.f70) (by kernel_rfl) (by kernel_rfl) (by kernel_rfl) (ann := [(8, [5])])
  (show hFunc prog TT [(8, [5])] Go.Proofs.Tryd.f70 [a0, a1] st R from (show hFunc prog TT [(8, [5])] Go.Proofs.Tryd.f70 [a0, a1] st R = b_spec_l06Place a0 a1 st R by kernel_rfl) ▸ h)
def b_impl_looker_node (a0 : PV) (st : St) (R : Res → St → Prop) : Prop :=
 qb (q_nil a0) fun v4 =>
 qb (q_fa 0 v4) fun v5 =>
 qb (q_load st false 1 v5) fun v6 =>
 qb (q_bin .sub v6 (.int .i64 1)) fun v7 =>
 qb (q_nil a0) fun v8 =>
 qb (q_fa 0 v8) fun v9 =>
 e_store st 1 v9 v7 fun st =>
 qb (q_nil a0) fun v11 =>
 qb (q_fa 0 v11) fun v12 =>
 qb (q_load st false 1 v12) fun v13 =>
 qb (q_bin .geq v13 (.int .i64 0)) fun v14 =>
 retR R v14 st
theorem e_impl_looker_node : Enters prog n_impl_looker_node := ⟨Go.Proofs.Tryd.f71, by kernel_rfl, by kernel_rfl, by kernel_rfl⟩
theorem c_impl_looker_node {a0 : PV} {st : St} {R : Res → St → Prop} (h : b_impl_looker_node a0 st R) : HCalls prog n_impl_looker_node [a0] st R :=
 hcalls_of_func tyOK mixed (fn := Go.Proofs.Tryd.f71) (by kernel_rfl) (by kernel_rfl) (by kernel_rfl) (ann := [])
  (show hFunc prog TT [] Go.Proofs.Tryd.f71 [a0] st R from (show hFunc prog TT [] Go.Proofs.Tryd.f71 [a0] st R = b_impl_looker_node a0 st R by kernel_rfl) ▸ h)
def b_impl_Tree_bare (a0 a1 : PV) (st : St) (R : Res → St → Prop) : Prop :=
 qb (q_nil a0) fun v6 =>
 qb (q_fa 1 v6) fun v7 =>
 qb (q_load st false 1 v7) fun v8 =>
 qb (q_bin .eql v8 (.int .i64 0)) fun v9 =>
 cb v9 fun b => br b
  (qb (q_nil a0) fun v12 =>
  qb (q_fa 2 v12) fun v13 =>
  qb (q_load st false 1 v13) fun v14 =>
  qb (q_bin .eql v14 (.str [])) fun v15 =>
  cb v15 fun b_1 => br b_1
   (qb (q_nil a0) fun v19 =>
   qb (q_fa 3 v19) fun v20 =>
   qb (q_load st false 1 v20) fun v21 =>
   qb (q_len v21) fun v22 =>
   qb (q_bin .eql v22 a1) fun v24 =>
   retR R v24 st)
   (retR R (.bool false) st))
  (retR R (.bool false) st)
theorem e_impl_Tree_bare : Enters prog n_impl_Tree_bare := ⟨Go.Proofs.Tryd.f72, by kernel_rfl, by kernel_rfl, by kernel_rfl⟩
theorem c_impl_Tree_bare {a0 a1 : PV} {st : St} {R : Res → St → Prop} (h : b_impl_Tree_bare a0 a1 st R) : HCalls prog n_impl_Tree_bare [a0, a1] st R :=
 hcalls_of_func tyOK mixed (fn := Go.Proofs.Tryd.f72) (by kernel_rfl) (by kernel_rfl) (by kernel_rfl) (ann := [])
  (show hFunc prog TT [] Go.Proofs.Tryd.f72 [a0, a1] st R from (show hFunc prog TT [] Go.Proofs.Tryd.f72 [a0, a1] st R = b_impl_Tree_bare a0 a1 st R by kernel_rfl) ▸ h)
def b_impl_in (a0 a1 a2 : PV) (st : St) (R : Res → St → Prop) : Prop :=
 qb (q_bin .geq a0 a1) fun v9 =>
 cb v9 fun b => br b
  (qb (q_bin .leq a0 a2) fun v13 =>
  retR R v13 st)
  (retR R (.bool false) st)
theorem e_impl_in : Enters prog n_impl_in := ⟨Go.Proofs.Tryd.f73, by kernel_rfl, by kernel_rfl, by kernel_rfl⟩
theorem c_impl_in {a0 a1 a2 : PV} {st : St} {R : Res → St → Prop} (h : b_impl_in a0 a1 a2 st R) : HCalls prog n_impl_in [a0, a1, a2] st R :=
 hcalls_of_func tyOK mixed (fn := Go.Proofs.Tryd.f73) (by kernel_rfl) (by kernel_rfl) (by kernel_rfl) (ann := [])
  (show hFunc prog TT [] Go.Proofs.Tryd.f73 [a0, a1, a2] st R from (show hFunc prog TT [] Go.Proofs.Tryd.f73 [a0, a1, a2] st R = b_impl_in a0 a1 a2 st R by kernel_rfl) ▸ h)
def b_impl_looker_args (a0 a1 : PV) (st : St) (R : Res → St → Prop) : Prop :=
 qb (q_len a1) fun v8 =>
 hFix (fun ls st X =>
  qb (q_bin .lss (ls.getD 0 .junk) v8) fun v10 =>
  cb v10 fun b => br b
   (qb (q_ia 4 a1 (ls.getD 0 .junk)) fun v11 =>
   qb (q_load st true 4 v11) fun v12 =>
   e_alloc st [.int .i64 0, .int .i64 0, .str [], .sl 0 true []] fun v6 st =>
   e_store st 4 v6 v12 fun st =>
   hJ (fun ls_1 st =>
    cb (ls_1.getD 0 .junk) fun b_1 => br b_1
     (callK prog n_impl_Tree_bare [v6, (.int .i64 0)] st (fun v22 st =>
     qb (q_un .not v22) fun v23 =>
     cb v23 fun b_2 => br b_2
      (retR R (.bool false) st)
      (callK prog n_impl_looker_node [a0] st (fun v26 st =>
      qb (q_un .not v26) fun v27 =>
      cb v27 fun b_3 => br b_3
       (retR R (.bool false) st)
       (qb (q_bin .add (ls.getD 0 .junk) (.int .i64 1)) fun v33 =>
       X [v33] st)) (panR R))) (panR R))
     (qb (q_load st true 4 v6) fun v30 =>
     callK prog n_impl_looker_term [a0, v30] st (fun v31 st =>
     qb (q_un .not v31) fun v32 =>
     cb v32 fun b_4 => br b_4
      (retR R (.bool false) st)
      (qb (q_bin .add (ls.getD 0 .junk) (.int .i64 1)) fun v33_1 =>
      X [v33_1] st)) (panR R)))
    (fun k =>
   qb (q_nil a0) fun v14 =>
   qb (q_fa 1 v14) fun v15 =>
   qb (q_load st false 1 v15) fun v16 =>
   cb v16 fun b_5 => br b_5
    (qb (q_fa 0 v6) fun v18 =>
    qb (q_load st false 1 v18) fun v19 =>
    qb (q_bin .eql v19 (.int .i64 8)) fun v20 =>
    k [v20] st)
    (k [(.bool false)] st)))
   (retR R (.bool true) st))
  [(.int .i64 0)] st
theorem e_impl_looker_args : Enters prog n_impl_looker_args := ⟨Go.Proofs.Tryd.f74, by kernel_rfl, by kernel_rfl, by kernel_rfl⟩
theorem c_impl_looker_args {a0 a1 : PV} {st : St} {R : Res → St → Prop} (h : b_impl_looker_args a0 a1 st R) : HCalls prog n_impl_looker_args [a0, a1] st R :=
 hcalls_of_func tyOK mixed (fn := Go.Proofs.Tryd.f74) (by kernel_rfl) (by kernel_rfl) (by kernel_rfl) (ann := [(8, [9]), (17, [21])])
  (show hFunc prog TT [(8, [9]), (17, [21])] Go.Proofs.Tryd.f74 [a0, a1] st R from (show hFunc prog TT [(8, [9]), (17, [21])] Go.Proofs.Tryd.f74 [a0, a1] st R = b_impl_looker_args a0 a1 st R by kernel_rfl) ▸ h)
def b_impl_Tree_under (a0 a1 : PV) (st : St) (R : Res → St → Prop) : Prop :=
 callK prog n_impl_Tree_binds [a0, a1] st (fun v7 st =>
 cb v7 fun b => br b
  (retR R (.int .i64 1) st)
  (retR R (.int .i64 0) st)) (panR R)
theorem e_impl_Tree_under : Enters prog n_impl_Tree_under := ⟨Go.Proofs.Tryd.f75, by kernel_rfl, by kernel_rfl, by kernel_rfl⟩
theorem c_impl_Tree_under {a0 a1 : PV} {st : St} {R : Res → St → Prop} (h : b_impl_Tree_under a0 a1 st R) : HCalls prog n_impl_Tree_under [a0, a1] st R :=
 hcalls_of_func tyOK mixed (fn := Go.Proofs.Tryd.f75) (by kernel_rfl) (by kernel_rfl) (by kernel_rfl) (ann := [])
  (show hFunc prog TT [] Go.Proofs.Tryd.f75 [a0, a1] st R from (show hFunc prog TT [] Go.Proofs.Tryd.f75 [a0, a1] st R = b_impl_Tree_under a0 a1 st R by kernel_rfl) ▸ h)
def b_impl_takes (a0 : PV) (st : St) (R : Res → St → Prop) : Prop :=
 e_box st a0 fun v1 st =>
 e_alloc st [.int .i64 0, .int .i64 0, .str [], .sl 0 true []] fun v3 st =>
 qb (q_lit 4 0 0 [] []) fun v5 =>
 hFix (fun ls st X =>
  qb (q_fa 0 v1) fun v6 =>
  qb (q_load st false 1 v6) fun v7 =>
  qb (q_bin .eql v7 (.int .i64 10)) fun v8 =>
  cb v8 fun b => br b
   (qb (q_fa 3 v1) fun v10 =>
   qb (q_load st false 1 v10) fun v11 =>
   qb (q_ia 4 v11 (.int .i64 0)) fun v12 =>
   qb (q_load st true 4 v12) fun v13 =>
   qb (q_lit 4 1 0 [] [(0, v13)]) fun v14 =>
   qb (q_fa 3 v1) fun v16 =>
   qb (q_load st false 1 v16) fun v17 =>
   qb (q_ia 4 v17 (.int .i64 1)) fun v18 =>
   qb (q_load st true 4 v18) fun v19 =>
   e_append st 4 56 (ls.getD 0 .junk) v14 (fun v15 st =>
   q_load st true 4 v18 = some v19 ∧ q_load st false 1 v16 = some v17 ∧ (e_store st 4 v1 v19 fun st =>
   X [v15] st)))
   (qb (q_load st true 4 v1) fun v21 =>
   e_store st 4 v3 v21 fun st =>
   qb (q_load st true 4 v3) fun r => retR R (.tup [(ls.getD 0 .junk), r]) st))
  [v5] st
theorem e_impl_takes : Enters prog n_impl_takes := ⟨Go.Proofs.Tryd.f76, by kernel_rfl, by kernel_rfl, by kernel_rfl⟩
theorem c_impl_takes {a0 : PV} {st : St} {R : Res → St → Prop} (h : b_impl_takes a0 st R) : HCalls prog n_impl_takes [a0] st R :=
 hcalls_of_func tyOK mixed (fn := Go.Proofs.Tryd.f76) (by kernel_rfl) (by kernel_rfl) (by kernel_rfl) (ann := [(8, [4])])
  (show hFunc prog TT [(8, [4])] Go.Proofs.Tryd.f76 [a0] st R from (show hFunc prog TT [(8, [4])] Go.Proofs.Tryd.f76 [a0] st R = b_impl_takes a0 st R by kernel_rfl) ▸ h)
def b_impl_longVariable (a0 a1 : PV) (st : St) (R : Res → St → Prop) : Prop :=
 e_box st a0 fun v2 st =>
 e_box st a1 fun v3 st =>
 qb (q_load st true 4 v2) fun v9 =>
 e_alloc st [.int .i64 0, .int .i64 0, .str [], .sl 0 true []] fun v6 st =>
 e_store st 4 v6 v9 fun st =>
 hJ (fun ls st =>
  qb (q_fa 1 v6) fun v19 =>
  qb (q_load st false 1 v19) fun v20 =>
  qb (q_bin .sub v20 (ls.getD 0 .junk)) fun v22 =>
  qb (q_fa 0 v6) fun v23 =>
  qb (q_load st false 1 v23) fun v24 =>
  qb (q_bin .neq v24 (.int .i64 5)) fun v25 =>
  cb v25 fun b => br b
   (retR R (.tup [(.int .i64 0), (.bool false)]) st)
   (qb (q_bin .lss v22 (.int .i64 0)) fun v28 =>
   cb v28 fun b_1 => br b_1
    (retR R (.tup [(.int .i64 0), (.bool false)]) st)
    (qb (q_load st true 4 v3) fun v33 =>
    qb (q_load st true 4 v2) fun v35 =>
    callK prog n_impl_variable [v22, (.sl 0 true [])] st (fun v32 st =>
    q_load st true 4 v2 = some v35 ∧ q_load st true 4 v3 = some v33 ∧ (callK prog n_impl_longForm [v32, v33] st (fun v34 st =>
    q_load st true 4 v2 = some v35 ∧ (callK prog n_impl_same [v34, v35] st (fun v36 st =>
    qb (q_un .not v36) fun v37 =>
    cb v37 fun b_2 => br b_2
     (retR R (.tup [(.int .i64 0), (.bool false)]) st)
     (retR R (.tup [v22, (.bool true)]) st)) (panR R))) (panR R))) (panR R))))
  (fun k =>
 hFix (fun ls_1 st X =>
  qb (q_fa 0 v6) fun v10 =>
  qb (q_load st false 1 v10) fun v11 =>
  qb (q_bin .eql v11 (.int .i64 4)) fun v12 =>
  cb v12 fun b_3 => br b_3
   (qb (q_fa 3 v6) fun v13 =>
   qb (q_load st false 1 v13) fun v14 =>
   qb (q_ia 4 v14 (.int .i64 0)) fun v15 =>
   qb (q_load st true 4 v15) fun v16 =>
   qb (q_bin .add (ls_1.getD 0 .junk) (.int .i64 1)) fun v18 =>
   e_store st 4 v6 v16 fun st =>
   X [v18] st)
   (k [(ls_1.getD 0 .junk)] st))
  [(.int .i64 0)] st)
theorem e_impl_longVariable : Enters prog n_impl_longVariable := ⟨Go.Proofs.Tryd.f77, by kernel_rfl, by kernel_rfl, by kernel_rfl⟩
theorem c_impl_longVariable {a0 a1 : PV} {st : St} {R : Res → St → Prop} (h : b_impl_longVariable a0 a1 st R) : HCalls prog n_impl_longVariable [a0, a1] st R :=
 hcalls_of_func tyOK mixed (fn := Go.Proofs.Tryd.f77) (by kernel_rfl) (by kernel_rfl) (by kernel_rfl) (ann := [(8, [7]), (3, [7])])
  (show hFunc prog TT [(8, [7]), (3, [7])] Go.Proofs.Tryd.f77 [a0, a1] st R from (show hFunc prog TT [(8, [7]), (3, [7])] Go.Proofs.Tryd.f77 [a0, a1] st R = b_impl_longVariable a0 a1 st R by kernel_rfl) ▸ h)
def b_slices_Contains_int_int (a0 a1 : PV) (st : St) (R : Res → St → Prop) : Prop :=
 callK prog n_slices_Index_int_int [a0, a1] st (fun v7 st =>
 qb (q_bin .geq v7 (.int .i64 0)) fun v8 =>
 retR R v8 st) (panR R)
theorem e_slices_Contains_int_int : Enters prog n_slices_Contains_int_int := ⟨Go.Proofs.Tryd.f78, by kernel_rfl, by kernel_rfl, by kernel_rfl⟩
theorem c_slices_Contains_int_int {a0 a1 : PV} {st : St} {R : Res → St → Prop} (h : b_slices_Contains_int_int a0 a1 st R) : HCalls prog n_slices_Contains_int_int [a0, a1] st R :=
 hcalls_of_func tyOK mixed (fn := Go.Proofs.Tryd.f78) (by kernel_rfl) (by kernel_rfl) (by kernel_rfl) (ann := [])
  (show hFunc prog TT [] Go.Proofs.Tryd.f78 [a0, a1] st R from (show hFunc prog TT [] Go.Proofs.Tryd.f78 [a0, a1] st R = b_slices_Contains_int_int a0 a1 st R by kernel_rfl) ▸ h)
def b_spec_l00Letter (a0 : PV) (st : St) (R : Res → St → Prop) : Prop :=
 qb (q_bin .geq a0 (.int .u8 97)) fun v4 =>
 cb v4 fun b => br b
  (qb (q_bin .leq a0 (.int .u8 122)) fun v7 =>
  cb v7 fun b_1 => br b_1
   (retR R (.bool true) st)
   (qb (q_bin .geq a0 (.int .u8 65)) fun v11 =>
   cb v11 fun b_2 => br b_2
    (qb (q_bin .leq a0 (.int .u8 90)) fun v14 =>
    cb v14 fun b_3 => br b_3
     (retR R (.bool true) st)
     (qb (q_bin .eql a0 (.int .u8 95)) fun v19 =>
     retR R v19 st))
    (qb (q_bin .eql a0 (.int .u8 95)) fun v19_1 =>
    retR R v19_1 st)))
  (qb (q_bin .geq a0 (.int .u8 65)) fun v11_1 =>
  cb v11_1 fun b_4 => br b_4
   (qb (q_bin .leq a0 (.int .u8 90)) fun v14_1 =>
   cb v14_1 fun b_5 => br b_5
    (retR R (.bool true) st)
    (qb (q_bin .eql a0 (.int .u8 95)) fun v19_2 =>
    retR R v19_2 st))
   (qb (q_bin .eql a0 (.int .u8 95)) fun v19_3 =>
   retR R v19_3 st))
theorem e_spec_l00Letter : Enters prog n_spec_l00Letter := ⟨Go.Proofs.Tryd.f79, by kernel_rfl, by kernel_rfl, by kernel_rfl⟩
theorem c_spec_l00Letter {a0 : PV} {st : St} {R : Res → St → Prop} (h : b_spec_l00Letter a0 st R) : HCalls prog n_spec_l00Letter [a0] st R :=
 hcalls_of_func tyOK mixed (fn := Go.Proofs.Tryd.f79) (by kernel_rfl) (by kernel_rfl) (by kernel_rfl) (ann := [])
  (show hFunc prog TT [] Go.Proofs.Tryd.f79 [a0] st R from (show hFunc prog TT [] Go.Proofs.Tryd.f79 [a0] st R = b_spec_l00Letter a0 st R by kernel_rfl) ▸ h)
def b_impl_isHead (a0 : PV) (st : St) (R : Res → St → Prop) : Prop :=
 callK prog n_strings_IndexByte [(.str [97, 98, 99, 100, 101, 102, 103, 104, 105, 106, 107, 108, 109, 110, 111, 112, 113, 114, 115, 116, 117, 118, 119, 120, 121, 122, 65, 66, 67, 68, 69, 70, 71, 72, 73, 74, 75, 76, 77, 78, 79, 80, 81, 82, 83, 84, 85, 86, 87, 88, 89, 90, 95]), a0] st (fun v4 st =>
 qb (q_bin .geq v4 (.int .i64 0)) fun v5 =>
 retR R v5 st) (panR R)
theorem e_impl_isHead : Enters prog n_impl_isHead := ⟨Go.Proofs.Tryd.f80, by kernel_rfl, by kernel_rfl, by kernel_rfl⟩
theorem c_impl_isHead {a0 : PV} {st : St} {R : Res → St → Prop} (h : b_impl_isHead a0 st R) : HCalls prog n_impl_isHead [a0] st R :=
 hcalls_of_func tyOK mixed (fn := Go.Proofs.Tryd.f80) (by kernel_rfl) (by kernel_rfl) (by kernel_rfl) (ann := [])
  (show hFunc prog TT [] Go.Proofs.Tryd.f80 [a0] st R from (show hFunc prog TT [] Go.Proofs.Tryd.f80 [a0] st R = b_impl_isHead a0 st R by kernel_rfl) ▸ h)
def b_internal_stringslite_CutPrefix (a0 a1 : PV) (st : St) (R : Res → St → Prop) : Prop :=
 callK prog n_internal_stringslite_HasPrefix [a0, a1] st (fun v8 st =>
 qb (q_un .not v8) fun v9 =>
 cb v9 fun b => br b
  (retR R (.tup [a0, (.bool false)]) st)
  (qb (q_lenS a1) fun v13 =>
  qb (q_sliceS a0 (some v13) none none) fun v14 =>
  retR R (.tup [v14, (.bool true)]) st)) (panR R)
theorem e_internal_stringslite_CutPrefix : Enters prog n_internal_stringslite_CutPrefix := ⟨Go.Proofs.Tryd.f81, by kernel_rfl, by kernel_rfl, by kernel_rfl⟩
theorem c_internal_stringslite_CutPrefix {a0 a1 : PV} {st : St} {R : Res → St → Prop} (h : b_internal_stringslite_CutPrefix a0 a1 st R) : HCalls prog n_internal_stringslite_CutPrefix [a0, a1] st R :=
 hcalls_of_func tyOK mixed (fn := Go.Proofs.Tryd.f81) (by kernel_rfl) (by kernel_rfl) (by kernel_rfl) (ann := [])
  (show hFunc prog TT [] Go.Proofs.Tryd.f81 [a0, a1] st R from (show hFunc prog TT [] Go.Proofs.Tryd.f81 [a0, a1] st R = b_internal_stringslite_CutPrefix a0 a1 st R by kernel_rfl) ▸ h)
def b_strings_Trim (a0 a1 : PV) (st : St) (R : Res → St → Prop) : Prop :=
 qb (q_bin .eql a0 (.str [])) fun v8 =>
 cb v8 fun b => br b
  (retR R a0 st)
  (qb (q_bin .eql a1 (.str [])) fun v11 =>
  cb v11 fun b_1 => br b_1
   (retR R a0 st)
   (hJ (fun ls st =>
    cb (ls.getD 0 .junk) fun b_2 => br b_2
     (qb (q_ix a1 (.int .i64 0)) fun v24 =>
     qb (q_ix a1 (.int .i64 0)) fun v27 =>
     callK prog n_strings_trimRightByte [a0, v24] st (fun v25 st =>
     callK prog n_strings_trimLeftByte [v25, v27] st (fun v28 st =>
     retR R v28 st) (panR R)) (panR R))
     (callK prog n_strings_makeASCIISet [a1] st (fun v31 st =>
     qb (q_ex v31 0) fun v32 =>
     qb (q_ex v31 1) fun v33 =>
     e_alloc st [.bool false, .bool false, .bool false, .bool false, .bool false, .bool false, .bool false, .bool false, .bool false, .bool false, .bool false, .bool false, .bool false, .bool false, .bool false, .bool false, .bool false, .bool false, .bool false, .bool false, .bool false, .bool false, .bool false, .bool false, .bool false, .bool false, .bool false, .bool false, .bool false, .bool false, .bool false, .bool false, .bool false, .bool false, .bool false, .bool false, .bool false, .bool false, .bool false, .bool false, .bool false, .bool false, .bool false, .bool false, .bool false, .bool false, .bool false, .bool false, .bool false, .bool false, .bool false, .bool false, .bool false, .bool false, .bool false, .bool false, .bool false, .bool false, .bool false, .bool false, .bool false, .bool false, .bool false, .bool false, .bool false, .bool false, .bool false, .bool false, .bool false, .bool false, .bool false, .bool false, .bool false, .bool false, .bool false, .bool false, .bool false, .bool false, .bool false, .bool false, .bool false, .bool false, .bool false, .bool false, .bool false, .bool false, .bool false, .bool false, .bool false, .bool false, .bool false, .bool false, .bool false, .bool false, .bool false, .bool false, .bool false, .bool false, .bool false, .bool false, .bool false, .bool false, .bool false, .bool false, .bool false, .bool false, .bool false, .bool false, .bool false, .bool false, .bool false, .bool false, .bool false, .bool false, .bool false, .bool false, .bool false, .bool false, .bool false, .bool false, .bool false, .bool false, .bool false, .bool false, .bool false, .bool false, .bool false, .bool false, .bool false, .bool false, .bool false, .bool false, .bool false, .bool false, .bool false, .bool false, .bool false, .bool false, .bool false, .bool false, .bool false, .bool false, .bool false, .bool false, .bool false, .bool false, .bool false, .bool false, .bool false, .bool false, .bool false, .bool false, .bool false, .bool false, .bool false, .bool false, .bool false, .bool false, .bool false, .bool false, .bool false, .bool false, .bool false, .bool false, .bool false, .bool false, .bool false, .bool false, .bool false, .bool false, .bool false, .bool false, .bool false, .bool false, .bool false, .bool false, .bool false, .bool false, .bool false, .bool false, .bool false, .bool false, .bool false, .bool false, .bool false, .bool false, .bool false, .bool false, .bool false, .bool false, .bool false, .bool false, .bool false, .bool false, .bool false, .bool false, .bool false, .bool false, .bool false, .bool false, .bool false, .bool false, .bool false, .bool false, .bool false, .bool false, .bool false, .bool false, .bool false, .bool false, .bool false, .bool false, .bool false, .bool false, .bool false, .bool false, .bool false, .bool false, .bool false, .bool false, .bool false, .bool false, .bool false, .bool false, .bool false, .bool false, .bool false, .bool false, .bool false, .bool false, .bool false, .bool false, .bool false, .bool false, .bool false, .bool false, .bool false, .bool false, .bool false, .bool false, .bool false, .bool false, .bool false, .bool false, .bool false, .bool false, .bool false, .bool false, .bool false, .bool false, .bool false, .bool false, .bool false, .bool false, .bool false, .bool false] fun v5 st =>
     e_store st 256 v5 v32 fun st =>
     cb v33 fun b_3 => br b_3
      (callK prog n_strings_trimRightASCII [a0, v5] st (fun v36 st =>
      callK prog n_strings_trimLeftASCII [v36, v5] st (fun v37 st =>
      retR R v37 st) (panR R)) (panR R))
      (callK prog n_strings_trimRightUnicode [a0, a1] st (fun v40 st =>
      callK prog n_strings_trimLeftUnicode [v40, a1] st (fun v42 st =>
      retR R v42 st) (panR R)) (panR R))) (panR R)))
    (fun k =>
   qb (q_lenS a1) fun v15 =>
   qb (q_bin .eql v15 (.int .i64 1)) fun v16 =>
   cb v16 fun b_4 => br b_4
    (qb (q_ix a1 (.int .i64 0)) fun v19 =>
    qb (q_bin .lss v19 (.int .u8 128)) fun v20 =>
    k [v20] st)
    (k [(.bool false)] st))))
theorem e_strings_Trim : Enters prog n_strings_Trim := ⟨Go.Proofs.Tryd.f82, by kernel_rfl, by kernel_rfl, by kernel_rfl⟩
theorem c_strings_Trim {a0 a1 : PV} {st : St} {R : Res → St → Prop} (h : b_strings_Trim a0 a1 st R) : HCalls prog n_strings_Trim [a0, a1] st R :=
 hcalls_of_func tyOK mixed (fn := Go.Proofs.Tryd.f82) (by kernel_rfl) (by kernel_rfl) (by kernel_rfl) (ann := [(13, [21])])
  (show hFunc prog TT [(13, [21])] Go.Proofs.Tryd.f82 [a0, a1] st R from (show hFunc prog TT [(13, [21])] Go.Proofs.Tryd.f82 [a0, a1] st R = b_strings_Trim a0 a1 st R by kernel_rfl) ▸ h)
def b_spec_l01Same (a0 a1 : PV) (st : St) (R : Res → St → Prop) : Prop :=
 e_box st a0 fun v2 st =>
 e_box st a1 fun v3 st =>
 qb (q_fa 0 v2) fun v6 =>
 qb (q_load st false 1 v6) fun v7 =>
 qb (q_fa 0 v3) fun v8 =>
 qb (q_load st false 1 v8) fun v9 =>
 qb (q_bin .neq v7 v9) fun v10 =>
 cb v10 fun b => br b
  (retR R (.bool false) st)
  (qb (q_fa 1 v2) fun v12 =>
  qb (q_load st false 1 v12) fun v13 =>
  qb (q_fa 1 v3) fun v14 =>
  qb (q_load st false 1 v14) fun v15 =>
  qb (q_bin .neq v13 v15) fun v16 =>
  cb v16 fun b_1 => br b_1
   (retR R (.bool false) st)
   (qb (q_fa 2 v2) fun v19 =>
   qb (q_load st false 1 v19) fun v20 =>
   qb (q_fa 2 v3) fun v21 =>
   qb (q_load st false 1 v21) fun v22 =>
   qb (q_bin .neq v20 v22) fun v23 =>
   cb v23 fun b_2 => br b_2
    (retR R (.bool false) st)
    (qb (q_fa 3 v2) fun v26 =>
    qb (q_load st false 1 v26) fun v27 =>
    qb (q_len v27) fun v28 =>
    qb (q_fa 3 v3) fun v29 =>
    qb (q_load st false 1 v29) fun v30 =>
    qb (q_len v30) fun v31 =>
    qb (q_bin .neq v28 v31) fun v32 =>
    cb v32 fun b_3 => br b_3
     (retR R (.bool false) st)
     (hFix (fun ls st X =>
      qb (q_fa 3 v2) fun v35 =>
      qb (q_load st false 1 v35) fun v36 =>
      qb (q_len v36) fun v37 =>
      qb (q_bin .lss (ls.getD 0 .junk) v37) fun v38 =>
      cb v38 fun b_4 => br b_4
       (qb (q_fa 3 v2) fun v41 =>
       qb (q_load st false 1 v41) fun v42 =>
       qb (q_ia 4 v42 (ls.getD 0 .junk)) fun v44 =>
       qb (q_load st true 4 v44) fun v45 =>
       qb (q_fa 3 v3) fun v46 =>
       qb (q_load st false 1 v46) fun v47 =>
       qb (q_ia 4 v47 (ls.getD 0 .junk)) fun v49 =>
       qb (q_load st true 4 v49) fun v50 =>
       callK prog n_spec_l01Same [v45, v50] st (fun v51 st =>
       qb (q_un .not v51) fun v52 =>
       cb v52 fun b_5 => br b_5
        (retR R (.bool false) st)
        (qb (q_bin .add (ls.getD 0 .junk) (.int .i64 1)) fun v40 =>
        X [v40] st)) (panR R))
       (retR R (.bool true) st))
      [(.int .i64 0)] st))))
theorem e_spec_l01Same : Enters prog n_spec_l01Same := ⟨Go.Proofs.Tryd.f83, by kernel_rfl, by kernel_rfl, by kernel_rfl⟩
theorem c_spec_l01Same {a0 a1 : PV} {st : St} {R : Res → St → Prop} (h : b_spec_l01Same a0 a1 st R) : HCalls prog n_spec_l01Same [a0, a1] st R :=
 hcalls_of_func tyOK mixed (fn := Go.Proofs.Tryd.f83) (by kernel_rfl) (by kernel_rfl) (by kernel_rfl) (ann := [(16, [5])])
  (show hFunc prog TT [(16, [5])] Go.Proofs.Tryd.f83 [a0, a1] st R from (show hFunc prog TT [(16, [5])] Go.Proofs.Tryd.f83 [a0, a1] st R = b_spec_l01Same a0 a1 st R by kernel_rfl) ▸ h)
end Go.H.Tryd
