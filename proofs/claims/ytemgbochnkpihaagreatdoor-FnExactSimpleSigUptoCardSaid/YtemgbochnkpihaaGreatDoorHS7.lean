/- Part of a proof that the program answers as the reference does: FS7. -/
import Derived.Test.YtemgbochnkpihaaGreatDoorHT
/- MADE BY PROGRAM (hgen.py): what the functions compute, over pure values. -/
set_option linter.unusedVariables false
set_option maxRecDepth 100000
namespace Go.H.Tryz
open Go Go.H
theorem e_strings_IndexByte : Enters prog n_strings_IndexByte := ⟨Go.Proofs.Tryz.f146, by kernel_rfl, by kernel_rfl, by kernel_rfl⟩
def b_laws_szTreeS (a0 a1 : PV) (st : St) (R : Res → St → Prop) : Prop :=
 qb (q_len a0) fun v8 =>
 qb (q_bin .sub a1 v8) fun v9 =>
 qb (q_bin .lss v9 (.int .i64 0)) fun v11 =>
 cb v11 fun b => br b
  (retR R (.int .i64 (-1)) st)
  (hFix (fun ls st X =>
   qb (q_len a0) fun v14 =>
   qb (q_bin .lss (ls.getD 1 .junk) v14) fun v15 =>
   cb v15 fun b_1 => br b_1
    (qb (q_ia 4 a0 (ls.getD 1 .junk)) fun v20 =>
    qb (q_load st true 4 v20) fun v21 =>
    callK prog n_laws_szTree [v21, (ls.getD 0 .junk)] st (fun v23 st =>
    qb (q_bin .lss v23 (.int .i64 0)) fun v25 =>
    cb v25 fun b_2 => br b_2
     (retR R (.int .i64 (-1)) st)
     (qb (q_bin .add (ls.getD 1 .junk) (.int .i64 1)) fun v17 =>
     X [v23, v17] st)) (panR R))
    (retR R (ls.getD 0 .junk) st))
   [v9, (.int .i64 0)] st)
theorem c_laws_szTreeS {a0 a1 : PV} {st : St} {R : Res → St → Prop} (h : b_laws_szTreeS a0 a1 st R) : HCalls prog n_laws_szTreeS [a0, a1] st R :=
 hcalls_of_func tyOK mixed (fn := Go.Proofs.Tryz.f152) (by kernel_rfl) (by kernel_rfl) (by kernel_rfl) (ann := [(20, [1, 5])])
  (show hFunc prog TT [(20, [1, 5])] Go.Proofs.Tryz.f152 [a0, a1] st R from (show hFunc prog TT [(20, [1, 5])] Go.Proofs.Tryz.f152 [a0, a1] st R = b_laws_szTreeS a0 a1 st R by kernel_rfl) ▸ h)
def b_spec_l01Arrow (a0 a1 : PV) (st : St) (R : Res → St → Prop) : Prop :=
 e_box st a0 fun v2 st =>
 e_box st a1 fun v3 st =>
 e_alloc st [.int .i64 0, .int .i64 0, .str [], .sl 0 true []] fun v4 st =>
 qb (q_load st true 4 v2) fun v5 =>
 qb (q_load st true 4 v3) fun v6 =>
 qb (q_lit 4 2 0 [] [(0, v5), (1, v6)]) fun v7 =>
 qb (q_struct [.int .i64 0, .int .i64 0, .str [], .sl 0 true []] [(0, 1, (.int .i64 10)), (3, 1, v7)]) fun v8 =>
 e_store st 4 v4 v8 fun st =>
 qb (q_load st true 4 v4) fun r => retR R r st
theorem c_spec_l01Arrow {a0 a1 : PV} {st : St} {R : Res → St → Prop} (h : b_spec_l01Arrow a0 a1 st R) : HCalls prog n_spec_l01Arrow [a0, a1] st R :=
 hcalls_of_func tyOK mixed (fn := Go.Proofs.Tryz.f153) (by kernel_rfl) (by kernel_rfl) (by kernel_rfl) (ann := [])
  (show hFunc prog TT [] Go.Proofs.Tryz.f153 [a0, a1] st R from (show hFunc prog TT [] Go.Proofs.Tryz.f153 [a0, a1] st R = b_spec_l01Arrow a0 a1 st R by kernel_rfl) ▸ h)
def b_spec_l01Base (a0 : PV) (st : St) (R : Res → St → Prop) : Prop :=
 e_alloc st [.int .i64 0, .int .i64 0, .str [], .sl 0 true []] fun v2 st =>
 qb (q_struct [.int .i64 0, .int .i64 0, .str [], .sl 0 true []] [(0, 1, (.int .i64 9)), (2, 1, a0)]) fun v4 =>
 e_store st 4 v2 v4 fun st =>
 qb (q_load st true 4 v2) fun r => retR R r st
theorem c_spec_l01Base {a0 : PV} {st : St} {R : Res → St → Prop} (h : b_spec_l01Base a0 st R) : HCalls prog n_spec_l01Base [a0] st R :=
 hcalls_of_func tyOK mixed (fn := Go.Proofs.Tryz.f154) (by kernel_rfl) (by kernel_rfl) (by kernel_rfl) (ann := [])
  (show hFunc prog TT [] Go.Proofs.Tryz.f154 [a0] st R from (show hFunc prog TT [] Go.Proofs.Tryz.f154 [a0] st R = b_spec_l01Base a0 st R by kernel_rfl) ▸ h)
def b_laws_toTreeS (a0 : PV) (st : St) (R : Res → St → Prop) : Prop :=
 qb (q_len a0) fun v6 =>
 e_make st 4 56 (.agg [.int .i64 0, .int .i64 0, .str [], .sl 0 true []]) v6 v6 fun v7 st =>
 hFix (fun ls st X =>
  qb (q_len a0) fun v10 =>
  qb (q_bin .lss (ls.getD 0 .junk) v10) fun v11 =>
  cb v11 fun b => br b
   (qb (q_ia 4 a0 (ls.getD 0 .junk)) fun v18 =>
   qb (q_load st true 4 v18) fun v19 =>
   callK prog n_laws_toTree [v19] st (fun v20 st =>
   qb (q_ia 4 v7 (ls.getD 0 .junk)) fun v21 =>
   e_store st 4 v21 v20 fun st =>
   qb (q_bin .add (ls.getD 0 .junk) (.int .i64 1)) fun v13 =>
   X [v13] st) (panR R))
   (retR R v7 st))
  [(.int .i64 0)] st
theorem c_laws_toTreeS {a0 : PV} {st : St} {R : Res → St → Prop} (h : b_laws_toTreeS a0 st R) : HCalls prog n_laws_toTreeS [a0] st R :=
 hcalls_of_func tyOK mixed (fn := Go.Proofs.Tryz.f155) (by kernel_rfl) (by kernel_rfl) (by kernel_rfl) (ann := [(12, [4])])
  (show hFunc prog TT [(12, [4])] Go.Proofs.Tryz.f155 [a0] st R from (show hFunc prog TT [(12, [4])] Go.Proofs.Tryz.f155 [a0] st R = b_laws_toTreeS a0 st R by kernel_rfl) ▸ h)
def b_impl_NameOK (a0 : PV) (st : St) (R : Res → St → Prop) : Prop :=
 callK prog n_impl_wordOK [a0] st (fun v6 st =>
 qb (q_un .not v6) fun v7 =>
 cb v7 fun b => br b
  (retR R (.bool false) st)
  (qb (q_bin .eql a0 (.str [116, 121, 112, 101])) fun v10 =>
  cb v10 fun b_1 => br b_1
   (retR R (.bool false) st)
   (qb (q_bin .eql a0 (.str [95])) fun v14 =>
   cb v14 fun b_2 => br b_2
    (retR R (.bool false) st)
    (callK prog n_strings_CutPrefix [a0, (.str [120])] st (fun v18 st =>
    qb (q_ex v18 0) fun v19 =>
    qb (q_ex v18 1) fun v20 =>
    qb (q_un .not v20) fun v22 =>
    cb v22 fun b_3 => br b_3
     (retR R (.bool true) st)
     (qb (q_bin .eql v19 (.str [])) fun v25 =>
     cb v25 fun b_4 => br b_4
      (retR R (.bool true) st)
      (callK prog n_impl_over [v19, (.str [48, 49, 50, 51, 52, 53, 54, 55, 56, 57])] st (fun v29 st =>
      qb (q_un .not v29) fun v30 =>
      retR R v30 st) (panR R)))) (panR R))))) (panR R)
theorem c_impl_NameOK {a0 : PV} {st : St} {R : Res → St → Prop} (h : b_impl_NameOK a0 st R) : HCalls prog n_impl_NameOK [a0] st R :=
 hcalls_of_func tyOK mixed (fn := Go.Proofs.Tryz.f156) (by kernel_rfl) (by kernel_rfl) (by kernel_rfl) (ann := [])
  (show hFunc prog TT [] Go.Proofs.Tryz.f156 [a0] st R from (show hFunc prog TT [] Go.Proofs.Tryz.f156 [a0] st R = b_impl_NameOK a0 st R by kernel_rfl) ▸ h)
def b_impl_KindOK (a0 : PV) (st : St) (R : Res → St → Prop) : Prop :=
 e_box st a0 fun v1 st =>
 qb (q_load st true 4 v1) fun v4 =>
 callK prog n_impl_fresh [] st (fun v3 st =>
 q_load st true 4 v1 = some v4 ∧ (callK prog n_impl_looker_family [v3, v4, (.bool true)] st (fun v5 st =>
 retR R v5 st) (panR R))) (panR R)
theorem c_impl_KindOK {a0 : PV} {st : St} {R : Res → St → Prop} (h : b_impl_KindOK a0 st R) : HCalls prog n_impl_KindOK [a0] st R :=
 hcalls_of_func tyOK mixed (fn := Go.Proofs.Tryz.f157) (by kernel_rfl) (by kernel_rfl) (by kernel_rfl) (ann := [])
  (show hFunc prog TT [] Go.Proofs.Tryz.f157 [a0] st R from (show hFunc prog TT [] Go.Proofs.Tryz.f157 [a0] st R = b_impl_KindOK a0 st R by kernel_rfl) ▸ h)
def b_impl_FamilyOK (a0 : PV) (st : St) (R : Res → St → Prop) : Prop :=
 e_box st a0 fun v1 st =>
 qb (q_load st true 4 v1) fun v4 =>
 callK prog n_impl_fresh [] st (fun v3 st =>
 q_load st true 4 v1 = some v4 ∧ (callK prog n_impl_looker_family [v3, v4, (.bool false)] st (fun v5 st =>
 retR R v5 st) (panR R))) (panR R)
theorem c_impl_FamilyOK {a0 : PV} {st : St} {R : Res → St → Prop} (h : b_impl_FamilyOK a0 st R) : HCalls prog n_impl_FamilyOK [a0] st R :=
 hcalls_of_func tyOK mixed (fn := Go.Proofs.Tryz.f158) (by kernel_rfl) (by kernel_rfl) (by kernel_rfl) (ann := [])
  (show hFunc prog TT [] Go.Proofs.Tryz.f158 [a0] st R from (show hFunc prog TT [] Go.Proofs.Tryz.f158 [a0] st R = b_impl_FamilyOK a0 st R by kernel_rfl) ▸ h)
def b_impl_declFault_1 (a0 a1 : PV) (st : St) (R : Res → St → Prop) : Prop :=
 qb (q_load st false 1 a0) fun v2 =>
 qb (q_struct [.int .i64 0, .sl 0 true []] [(1, 1, v2)]) fun v3 =>
 e_box st v3 fun v4 st =>
 qb (q_fa 2 a1) fun v5 =>
 qb (q_load st true 4 v5) fun v6 =>
 callK prog n_impl_checker_family [v4, (.sl 0 true []), v6, (.int .i64 0)] st (fun v7 st =>
 retR R (.tup []) st) (panR R)
theorem c_impl_declFault_1 {a0 a1 : PV} {st : St} {R : Res → St → Prop} (h : b_impl_declFault_1 a0 a1 st R) : HCalls prog n_impl_declFault_1 [a0, a1] st R :=
 hcalls_of_func tyOK mixed (fn := Go.Proofs.Tryz.f159) (by kernel_rfl) (by kernel_rfl) (by kernel_rfl) (ann := [])
  (show hFunc prog TT [] Go.Proofs.Tryz.f159 [a0, a1] st R from (show hFunc prog TT [] Go.Proofs.Tryz.f159 [a0, a1] st R = b_impl_declFault_1 a0 a1 st R by kernel_rfl) ▸ h)
def b_impl_checker_family (a0 a1 a2 a3 : PV) (st : St) (R : Res → St → Prop) : Prop :=
 e_box st a2 fun v6 st =>
 qb (q_fa 0 v6) fun v11 =>
 qb (q_load st false 1 v11) fun v12 =>
 qb (q_bin .eql v12 (.int .i64 2)) fun v14 =>
 cb v14 fun b => br b
  (qb (q_fa 3 v6) fun v17 =>
  qb (q_load st false 1 v17) fun v18 =>
  qb (q_ia 4 v18 (.int .i64 0)) fun v19 =>
  qb (q_load st true 4 v19) fun v20 =>
  qb (q_bin .add a3 (.int .i64 1)) fun v22 =>
  callK prog n_impl_checker_family [a0, a1, v20, v22] st (fun v23 st =>
  qb (q_fa 3 v6) fun v26 =>
  qb (q_load st false 1 v26) fun v27 =>
  qb (q_ia 4 v27 (.int .i64 0)) fun v28 =>
  qb (q_load st true 4 v28) fun v29 =>
  qb (q_fa 3 v6) fun v31 =>
  qb (q_load st false 1 v31) fun v32 =>
  qb (q_ia 4 v32 (.int .i64 1)) fun v33 =>
  qb (q_load st true 4 v33) fun v34 =>
  qb (q_bin .add a3 (.int .i64 1)) fun v36 =>
  qb (q_fa 3 v6) fun v37 =>
  qb (q_load st false 1 v37) fun v38 =>
  qb (q_ia 4 v38 (.int .i64 0)) fun v39 =>
  qb (q_load st true 4 v39) fun v40 =>
  callK prog n_impl_behind [a1, v29] st (fun v30 st =>
  q_load st true 4 v39 = some v40 ∧ q_load st false 1 v37 = some v38 ∧ q_load st true 4 v33 = some v34 ∧ q_load st false 1 v31 = some v32 ∧ (callK prog n_impl_Size [v40] st (fun v41 st =>
  q_load st true 4 v33 = some v34 ∧ q_load st false 1 v31 = some v32 ∧ (qb (q_bin .add v36 v41) fun v42 =>
  callK prog n_impl_checker_family [a0, v30, v34, v42] st (fun v43 st =>
  retR R (.tup []) st) (panR R))) (panR R))) (panR R)) (panR R))
  (qb (q_bin .eql v12 (.int .i64 3)) fun v45 =>
  cb v45 fun b_1 => br b_1
   (qb (q_fa 2 v6) fun v48 =>
   qb (q_load st false 1 v48) fun v49 =>
   callK prog n_impl_checker_declared [a0, v49, (.bool true)] st (fun v50 st =>
   qb (q_ex v50 0) fun v51 =>
   qb (q_ex v50 1) fun v52 =>
   e_alloc st [.int .i64 0, .int .i64 0, .str [], .sl 0 true []] fun v8 st =>
   e_store st 4 v8 v51 fun st =>
   qb (q_un .not v52) fun v54 =>
   hJ (fun ls st =>
    qb (q_fa 3 v6) fun v59 =>
    qb (q_load st false 1 v59) fun v60 =>
    qb (q_load st true 4 v8) fun v61 =>
    qb (q_bin .add a3 (.int .i64 1)) fun v63 =>
    callK prog n_impl_checker_args [a0, a1, v60, v61, v63] st (fun v64 st =>
    e_alloc st [.int .i64 0, .int .i64 0, .str [], .sl 0 true []] fun v10 st =>
    e_store st 4 v10 v64 fun st =>
    qb (q_fa 0 v10) fun v65 =>
    qb (q_load st false 1 v65) fun v66 =>
    qb (q_bin .neq v66 (.int .i64 1)) fun v67 =>
    cb v67 fun b_3 => br b_3
     (callK prog n_impl_stop [(.int .i64 8), a3] st (fun v69 st =>
     retR R (.tup []) st) (panR R))
     (retR R (.tup []) st)) (panR R))
    (fun k =>
   cb v54 fun b_2 => br b_2
    (callK prog n_impl_stop [(.int .i64 5), a3] st (fun v56 st =>
    k [] st) (panR R))
    (k [] st))) (panR R))
   (retR R (.tup []) st))
theorem c_impl_checker_family {a0 a1 a2 a3 : PV} {st : St} {R : Res → St → Prop} (h : b_impl_checker_family a0 a1 a2 a3 st R) : HCalls prog n_impl_checker_family [a0, a1, a2, a3] st R :=
 hcalls_of_func tyOK mixed (fn := Go.Proofs.Tryz.f160) (by kernel_rfl) (by kernel_rfl) (by kernel_rfl) (ann := [(34, [])])
  (show hFunc prog TT [(34, [])] Go.Proofs.Tryz.f160 [a0, a1, a2, a3] st R from (show hFunc prog TT [(34, [])] Go.Proofs.Tryz.f160 [a0, a1, a2, a3] st R = b_impl_checker_family a0 a1 a2 a3 st R by kernel_rfl) ▸ h)
def b_impl_Tree_each (a0 a1 a2 : PV) (st : St) (R : Res → St → Prop) : Prop :=
 e_call prog st a2 [a0, a1] (fun v11 st =>
 cb v11 fun b => br b
  (retR R (.bool true) st)
  (qb (q_nil a0) fun v13 =>
  qb (q_fa 3 v13) fun v14 =>
  qb (q_load st false 1 v14) fun v15 =>
  qb (q_len v15) fun v16 =>
  hFix (fun ls st X =>
   qb (q_bin .lss (ls.getD 0 .junk) v16) fun v18 =>
   cb v18 fun b_1 => br b_1
    (qb (q_nil a0) fun v21 =>
    qb (q_fa 3 v21) fun v22 =>
    qb (q_load st false 1 v22) fun v23 =>
    qb (q_ia 4 v23 (ls.getD 0 .junk)) fun v25 =>
    callK prog n_impl_Tree_under [a0, (ls.getD 0 .junk)] st (fun v29 st =>
    q_load st false 1 v22 = some v23 ∧ (qb (q_bin .add a1 v29) fun v30 =>
    callK prog n_impl_Tree_each [v25, v30, a2] st (fun v32 st =>
    cb v32 fun b_2 => br b_2
     (retR R (.bool true) st)
     (qb (q_bin .add (ls.getD 0 .junk) (.int .i64 1)) fun v33 =>
     X [v33] st)) (panR R))) (panR R))
    (retR R (.bool false) st))
   [(.int .i64 0)] st)) (panR R)
theorem c_impl_Tree_each {a0 a1 a2 : PV} {st : St} {R : Res → St → Prop} (h : b_impl_Tree_each a0 a1 a2 st R) : HCalls prog n_impl_Tree_each [a0, a1, a2] st R :=
 hcalls_of_func tyOK mixed (fn := Go.Proofs.Tryz.f161) (by kernel_rfl) (by kernel_rfl) (by kernel_rfl) (ann := [(16, [17])])
  (show hFunc prog TT [(16, [17])] Go.Proofs.Tryz.f161 [a0, a1, a2] st R from (show hFunc prog TT [(16, [17])] Go.Proofs.Tryz.f161 [a0, a1, a2] st R = b_impl_Tree_each a0 a1 a2 st R by kernel_rfl) ▸ h)
end Go.H.Tryz
