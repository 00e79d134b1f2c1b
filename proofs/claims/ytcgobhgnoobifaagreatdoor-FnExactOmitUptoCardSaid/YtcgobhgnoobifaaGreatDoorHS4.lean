/- Part of a proof that the program answers as the reference does: EDS4. -/
import Derived.Test.YtcgobhgnoobifaaGreatDoorHT
/- MADE BY PROGRAM (hgen.py): what the functions compute, over pure values. -/
set_option linter.unusedVariables false
set_option maxRecDepth 100000
namespace Go.H.Tryz
open Go Go.H
def b_spec_KindOK (a0 : PV) (st : St) (R : Res → St → Prop) : Prop :=
 e_box st a0 fun v1 st =>
 qb (q_load st true 4 v1) fun v3 =>
 callK prog n_spec_l01Small [v3] st (fun v4 st =>
 cb v4 fun b => br b
  (qb (q_load st true 4 v1) fun v6 =>
  callK prog n_spec_l01Kind [v6] st (fun v7 st =>
  retR R v7 st) (panR R))
  (retR R (.bool false) st)) (panR R)
theorem c_spec_KindOK {a0 : PV} {st : St} {R : Res → St → Prop} (h : b_spec_KindOK a0 st R) : HCalls prog n_spec_KindOK [a0] st R :=
 hcalls_of_func tyOK mixed (fn := Go.Proofs.Tryz.f82) (by kernel_rfl) (by kernel_rfl) (by kernel_rfl) (ann := [])
  (show hFunc prog TT [] Go.Proofs.Tryz.f82 [a0] st R from (show hFunc prog TT [] Go.Proofs.Tryz.f82 [a0] st R = b_spec_KindOK a0 st R by kernel_rfl) ▸ h)
def b_spec_l04Run_kind (a0 a1 a2 a3 : PV) (st : St) (R : Res → St → Prop) : Prop :=
 e_box st a2 fun v6 st =>
 qb (q_fa 0 v6) fun v9 =>
 qb (q_load st false 1 v9) fun v10 =>
 qb (q_bin .eql v10 (.int .i64 1)) fun v11 =>
 cb v11 fun b => br b
  (retR R (.bool true) st)
  (qb (q_fa 3 v6) fun v14 =>
  qb (q_load st false 1 v14) fun v15 =>
  qb (q_ia 4 v15 (.int .i64 0)) fun v16 =>
  qb (q_load st true 4 v16) fun v17 =>
  qb (q_bin .add a3 (.int .i64 1)) fun v19 =>
  callK prog n_spec_l04Run_family [a0, a1, v17, v19] st (fun v20 st =>
  cb v20 fun b_1 => br b_1
   (qb (q_fa 3 v6) fun v24 =>
   qb (q_load st false 1 v24) fun v25 =>
   qb (q_ia 4 v25 (.int .i64 0)) fun v26 =>
   qb (q_load st true 4 v26) fun v27 =>
   qb (q_fa 3 v6) fun v29 =>
   qb (q_load st false 1 v29) fun v30 =>
   qb (q_ia 4 v30 (.int .i64 1)) fun v31 =>
   qb (q_load st true 4 v31) fun v32 =>
   qb (q_bin .add a3 (.int .i64 1)) fun v34 =>
   qb (q_fa 3 v6) fun v35 =>
   qb (q_load st false 1 v35) fun v36 =>
   qb (q_ia 4 v36 (.int .i64 0)) fun v37 =>
   qb (q_load st true 4 v37) fun v38 =>
   callK prog n_spec_l04More [a1, v27] st (fun v28 st =>
   q_load st true 4 v37 = some v38 ∧ q_load st false 1 v35 = some v36 ∧ q_load st true 4 v31 = some v32 ∧ q_load st false 1 v29 = some v30 ∧ (callK prog n_spec_l01Size [v38] st (fun v39 st =>
   q_load st true 4 v31 = some v32 ∧ q_load st false 1 v29 = some v30 ∧ (qb (q_bin .add v34 v39) fun v40 =>
   callK prog n_spec_l04Run_kind [a0, v28, v32, v40] st (fun v41 st =>
   retR R v41 st) (panR R))) (panR R))) (panR R))
   (retR R (.bool false) st)) (panR R))
theorem c_spec_l04Run_kind {a0 a1 a2 a3 : PV} {st : St} {R : Res → St → Prop} (h : b_spec_l04Run_kind a0 a1 a2 a3 st R) : HCalls prog n_spec_l04Run_kind [a0, a1, a2, a3] st R :=
 hcalls_of_func tyOK mixed (fn := Go.Proofs.Tryz.f83) (by kernel_rfl) (by kernel_rfl) (by kernel_rfl) (ann := [])
  (show hFunc prog TT [] Go.Proofs.Tryz.f83 [a0, a1, a2, a3] st R from (show hFunc prog TT [] Go.Proofs.Tryz.f83 [a0, a1, a2, a3] st R = b_spec_l04Run_kind a0 a1 a2 a3 st R by kernel_rfl) ▸ h)
def b_impl_KindOK (a0 : PV) (st : St) (R : Res → St → Prop) : Prop :=
 e_box st a0 fun v1 st =>
 qb (q_load st true 4 v1) fun v4 =>
 callK prog n_impl_fresh [] st (fun v3 st =>
 q_load st true 4 v1 = some v4 ∧ (callK prog n_impl_looker_family [v3, v4, (.bool true)] st (fun v5 st =>
 retR R v5 st) (panR R))) (panR R)
theorem c_impl_KindOK {a0 : PV} {st : St} {R : Res → St → Prop} (h : b_impl_KindOK a0 st R) : HCalls prog n_impl_KindOK [a0] st R :=
 hcalls_of_func tyOK mixed (fn := Go.Proofs.Tryz.f85) (by kernel_rfl) (by kernel_rfl) (by kernel_rfl) (ann := [])
  (show hFunc prog TT [] Go.Proofs.Tryz.f85 [a0] st R from (show hFunc prog TT [] Go.Proofs.Tryz.f85 [a0] st R = b_impl_KindOK a0 st R by kernel_rfl) ▸ h)
def b_spec_TermOK (a0 : PV) (st : St) (R : Res → St → Prop) : Prop :=
 e_box st a0 fun v1 st =>
 qb (q_load st true 4 v1) fun v3 =>
 callK prog n_spec_l01Small [v3] st (fun v4 st =>
 cb v4 fun b => br b
  (qb (q_load st true 4 v1) fun v6 =>
  callK prog n_spec_l01Term [v6, (.bool false)] st (fun v7 st =>
  retR R v7 st) (panR R))
  (retR R (.bool false) st)) (panR R)
theorem c_spec_TermOK {a0 : PV} {st : St} {R : Res → St → Prop} (h : b_spec_TermOK a0 st R) : HCalls prog n_spec_TermOK [a0] st R :=
 hcalls_of_func tyOK mixed (fn := Go.Proofs.Tryz.f87) (by kernel_rfl) (by kernel_rfl) (by kernel_rfl) (ann := [])
  (show hFunc prog TT [] Go.Proofs.Tryz.f87 [a0] st R from (show hFunc prog TT [] Go.Proofs.Tryz.f87 [a0] st R = b_spec_TermOK a0 st R by kernel_rfl) ▸ h)
def b_spec_l04Run_term (a0 a1 a2 a3 a4 : PV) (st : St) (R : Res → St → Prop) : Prop :=
 e_box st a2 fun v7 st =>
 e_box st a3 fun v8 st =>
 qb (q_fa 0 v7) fun v13 =>
 qb (q_load st false 1 v13) fun v14 =>
 qb (q_bin .eql v14 (.int .i64 4)) fun v15 =>
 qb (q_fa 0 v8) fun v16 =>
 qb (q_load st false 1 v16) fun v17 =>
 qb (q_bin .eql v17 (.int .i64 2)) fun v18 =>
 qb (q_beq .neq v15 v18) fun v19 =>
 cb v19 fun b => br b
  (callK prog n_spec_l04Run_fail [a0, (.int .i64 9), a4] st (fun v22 st =>
  retR R v22 st) (panR R))
  (qb (q_fa 0 v7) fun v23 =>
  qb (q_load st false 1 v23) fun v24 =>
  qb (q_bin .eql v24 (.int .i64 4)) fun v25 =>
  cb v25 fun b_1 => br b_1
   (qb (q_fa 3 v8) fun v28 =>
   qb (q_load st false 1 v28) fun v29 =>
   qb (q_ia 4 v29 (.int .i64 0)) fun v30 =>
   qb (q_load st true 4 v30) fun v31 =>
   qb (q_fa 3 v7) fun v33 =>
   qb (q_load st false 1 v33) fun v34 =>
   qb (q_ia 4 v34 (.int .i64 0)) fun v35 =>
   qb (q_load st true 4 v35) fun v36 =>
   qb (q_fa 3 v8) fun v37 =>
   qb (q_load st false 1 v37) fun v38 =>
   qb (q_ia 4 v38 (.int .i64 1)) fun v39 =>
   qb (q_load st true 4 v39) fun v40 =>
   qb (q_bin .add a4 (.int .i64 1)) fun v42 =>
   callK prog n_spec_l04More [a1, v31] st (fun v32 st =>
   q_load st true 4 v39 = some v40 ∧ q_load st false 1 v37 = some v38 ∧ q_load st true 4 v35 = some v36 ∧ q_load st false 1 v33 = some v34 ∧ (callK prog n_spec_l04Run_term [a0, v32, v36, v40, v42] st (fun v43 st =>
   retR R v43 st) (panR R))) (panR R))
   (qb (q_load st true 4 v7) fun v47 =>
   callK prog n_spec_l04Run_synth [a0, a1, v47, a4] st (fun v49 st =>
   qb (q_ex v49 0) fun v50 =>
   qb (q_ex v49 1) fun v51 =>
   e_alloc st [.int .i64 0, .int .i64 0, .str [], .sl 0 true []] fun v11 st =>
   e_store st 4 v11 v50 fun st =>
   qb (q_un .not v51) fun v53 =>
   cb v53 fun b_2 => br b_2
    (retR R (.bool false) st)
    (qb (q_load st true 4 v8) fun v54 =>
    qb (q_load st true 4 v11) fun v55 =>
    callK prog n_spec_l01Same [v54, v55] st (fun v56 st =>
    qb (q_un .not v56) fun v57 =>
    cb v57 fun b_3 => br b_3
     (callK prog n_spec_l04Run_fail [a0, (.int .i64 10), a4] st (fun v60 st =>
     retR R v60 st) (panR R))
     (retR R (.bool true) st)) (panR R))) (panR R)))
theorem c_spec_l04Run_term {a0 a1 a2 a3 a4 : PV} {st : St} {R : Res → St → Prop} (h : b_spec_l04Run_term a0 a1 a2 a3 a4 st R) : HCalls prog n_spec_l04Run_term [a0, a1, a2, a3, a4] st R :=
 hcalls_of_func tyOK mixed (fn := Go.Proofs.Tryz.f88) (by kernel_rfl) (by kernel_rfl) (by kernel_rfl) (ann := [])
  (show hFunc prog TT [] Go.Proofs.Tryz.f88 [a0, a1, a2, a3, a4] st R from (show hFunc prog TT [] Go.Proofs.Tryz.f88 [a0, a1, a2, a3, a4] st R = b_spec_l04Run_term a0 a1 a2 a3 a4 st R by kernel_rfl) ▸ h)
def b_impl_TermOK (a0 : PV) (st : St) (R : Res → St → Prop) : Prop :=
 e_box st a0 fun v1 st =>
 qb (q_load st true 4 v1) fun v4 =>
 callK prog n_impl_fresh [] st (fun v3 st =>
 q_load st true 4 v1 = some v4 ∧ (callK prog n_impl_looker_term [v3, v4] st (fun v5 st =>
 retR R v5 st) (panR R))) (panR R)
theorem c_impl_TermOK {a0 : PV} {st : St} {R : Res → St → Prop} (h : b_impl_TermOK a0 st R) : HCalls prog n_impl_TermOK [a0] st R :=
 hcalls_of_func tyOK mixed (fn := Go.Proofs.Tryz.f90) (by kernel_rfl) (by kernel_rfl) (by kernel_rfl) (ann := [])
  (show hFunc prog TT [] Go.Proofs.Tryz.f90 [a0] st R from (show hFunc prog TT [] Go.Proofs.Tryz.f90 [a0] st R = b_impl_TermOK a0 st R by kernel_rfl) ▸ h)
def b_impl_checker_term (a0 a1 a2 a3 a4 : PV) (st : St) (R : Res → St → Prop) : Prop :=
 e_box st a2 fun v7 st =>
 e_box st a3 fun v8 st =>
 qb (q_fa 0 v7) fun v10 =>
 qb (q_load st false 1 v10) fun v11 =>
 qb (q_bin .eql v11 (.int .i64 4)) fun v12 =>
 qb (q_fa 0 v8) fun v13 =>
 qb (q_load st false 1 v13) fun v14 =>
 qb (q_bin .eql v14 (.int .i64 2)) fun v15 =>
 qb (q_beq .neq v12 v15) fun v16 =>
 hJ (fun ls st =>
  qb (q_fa 0 v7) fun v19 =>
  qb (q_load st false 1 v19) fun v20 =>
  qb (q_bin .eql v20 (.int .i64 4)) fun v21 =>
  cb v21 fun b_1 => br b_1
   (qb (q_fa 3 v8) fun v24 =>
   qb (q_load st false 1 v24) fun v25 =>
   qb (q_ia 4 v25 (.int .i64 0)) fun v26 =>
   qb (q_load st true 4 v26) fun v27 =>
   qb (q_fa 3 v7) fun v29 =>
   qb (q_load st false 1 v29) fun v30 =>
   qb (q_ia 4 v30 (.int .i64 0)) fun v31 =>
   qb (q_load st true 4 v31) fun v32 =>
   qb (q_fa 3 v8) fun v33 =>
   qb (q_load st false 1 v33) fun v34 =>
   qb (q_ia 4 v34 (.int .i64 1)) fun v35 =>
   qb (q_load st true 4 v35) fun v36 =>
   qb (q_bin .add a4 (.int .i64 1)) fun v38 =>
   callK prog n_impl_behind [a1, v27] st (fun v28 st =>
   q_load st true 4 v35 = some v36 ∧ q_load st false 1 v33 = some v34 ∧ q_load st true 4 v31 = some v32 ∧ q_load st false 1 v29 = some v30 ∧ (callK prog n_impl_checker_term [a0, v28, v32, v36, v38] st (fun v39 st =>
   retR R (.tup []) st) (panR R))) (panR R))
   (qb (q_load st true 4 v7) fun v42 =>
   qb (q_load st true 4 v8) fun v45 =>
   callK prog n_impl_checker_found [a0, a1, v42, a4] st (fun v44 st =>
   q_load st true 4 v8 = some v45 ∧ (callK prog n_impl_same [v44, v45] st (fun v46 st =>
   qb (q_un .not v46) fun v47 =>
   cb v47 fun b_2 => br b_2
    (callK prog n_impl_stop [(.int .i64 10), a4] st (fun v49 st =>
    retR R (.tup []) st) (panR R))
    (retR R (.tup []) st)) (panR R))) (panR R)))
  (fun k =>
 cb v16 fun b => br b
  (callK prog n_impl_stop [(.int .i64 9), a4] st (fun v18 st =>
  k [] st) (panR R))
  (k [] st))
theorem c_impl_checker_term {a0 a1 a2 a3 a4 : PV} {st : St} {R : Res → St → Prop} (h : b_impl_checker_term a0 a1 a2 a3 a4 st R) : HCalls prog n_impl_checker_term [a0, a1, a2, a3, a4] st R :=
 hcalls_of_func tyOK mixed (fn := Go.Proofs.Tryz.f93) (by kernel_rfl) (by kernel_rfl) (by kernel_rfl) (ann := [(10, [])])
  (show hFunc prog TT [(10, [])] Go.Proofs.Tryz.f93 [a0, a1, a2, a3, a4] st R from (show hFunc prog TT [(10, [])] Go.Proofs.Tryz.f93 [a0, a1, a2, a3, a4] st R = b_impl_checker_term a0 a1 a2 a3 a4 st R by kernel_rfl) ▸ h)
def b_impl_longLists (a0 : PV) (st : St) (R : Res → St → Prop) : Prop :=
 callK prog n_slices_Max_int_int [a0] st (fun v4 st =>
 qb (q_bin .gtr v4 (.int .i64 4096)) fun v5 =>
 retR R v5 st) (panR R)
theorem c_impl_longLists {a0 : PV} {st : St} {R : Res → St → Prop} (h : b_impl_longLists a0 st R) : HCalls prog n_impl_longLists [a0] st R :=
 hcalls_of_func tyOK mixed (fn := Go.Proofs.Tryz.f95) (by kernel_rfl) (by kernel_rfl) (by kernel_rfl) (ann := [])
  (show hFunc prog TT [] Go.Proofs.Tryz.f95 [a0] st R from (show hFunc prog TT [] Go.Proofs.Tryz.f95 [a0] st R = b_impl_longLists a0 st R by kernel_rfl) ▸ h)
def b_laws_markText (a0 : PV) (st : St) (R : Res → St → Prop) : Prop :=
 qb (q_bin .leq a0 (.int .i64 0)) fun v5 =>
 cb v5 fun b => br b
  (retR R (.str [109, 48]) st)
  (hFix (fun ls st X =>
   qb (q_bin .gtr (ls.getD 0 .junk) (.int .i64 0)) fun v7 =>
   cb v7 fun b_1 => br b_1
    (qb (q_bin .rem (ls.getD 0 .junk) (.int .i64 10)) fun v9 =>
    qb (q_bin .add (.int .i64 48) v9) fun v10 =>
    qb (q_conv .u8 v10) fun v11 =>
    qb (q_lit 1 1 0 [] [(0, v11)]) fun v12 =>
    qb (q_bstr v12) fun v13 =>
    qb (q_bin .add v13 (ls.getD 1 .junk)) fun v15 =>
    qb (q_bin .quo (ls.getD 0 .junk) (.int .i64 10)) fun v17 =>
    X [v17, v15] st)
    (qb (q_bin .add (.str [109]) (ls.getD 1 .junk)) fun v19 =>
    retR R v19 st))
   [a0, (.str [])] st)
theorem c_laws_markText {a0 : PV} {st : St} {R : Res → St → Prop} (h : b_laws_markText a0 st R) : HCalls prog n_laws_markText [a0] st R :=
 hcalls_of_func tyOK mixed (fn := Go.Proofs.Tryz.f98) (by kernel_rfl) (by kernel_rfl) (by kernel_rfl) (ann := [(16, [0, 3])])
  (show hFunc prog TT [(16, [0, 3])] Go.Proofs.Tryz.f98 [a0] st R from (show hFunc prog TT [(16, [0, 3])] Go.Proofs.Tryz.f98 [a0] st R = b_laws_markText a0 st R by kernel_rfl) ▸ h)
def b_laws_heldTreeS (a0 a1 : PV) (st : St) (R : Res → St → Prop) : Prop :=
 hFix (fun ls st X =>
  qb (q_len a0) fun v8 =>
  qb (q_bin .lss (ls.getD 1 .junk) v8) fun v9 =>
  cb v9 fun b => br b
   (qb (q_ia 4 a0 (ls.getD 1 .junk)) fun v14 =>
   qb (q_fa 0 v14) fun v15 =>
   qb (q_load st false 1 v15) fun v16 =>
   qb (q_bin .neq v16 (ls.getD 0 .junk)) fun v18 =>
   cb v18 fun b_1 => br b_1
    (retR R (.int .i64 (-1)) st)
    (qb (q_bin .add (ls.getD 0 .junk) (.int .i64 1)) fun v20 =>
    qb (q_ia 4 a0 (ls.getD 1 .junk)) fun v23 =>
    qb (q_fa 1 v23) fun v24 =>
    qb (q_load st false 1 v24) fun v25 =>
    qb (q_bin .neq v25 v20) fun v27 =>
    cb v27 fun b_2 => br b_2
     (retR R (.int .i64 (-1)) st)
     (qb (q_bin .add v20 (.int .i64 1)) fun v29 =>
     qb (q_ia 4 a0 (ls.getD 1 .junk)) fun v32 =>
     qb (q_fa 2 v32) fun v33 =>
     qb (q_load st false 1 v33) fun v34 =>
     callK prog n_laws_markText [v29] st (fun v36 st =>
     q_load st false 1 v33 = some v34 ∧ (qb (q_bin .neq v34 v36) fun v37 =>
     cb v37 fun b_3 => br b_3
      (retR R (.int .i64 (-1)) st)
      (qb (q_bin .add v29 (.int .i64 1)) fun v39 =>
      qb (q_ia 4 a0 (ls.getD 1 .junk)) fun v42 =>
      qb (q_fa 3 v42) fun v43 =>
      qb (q_load st false 1 v43) fun v44 =>
      callK prog n_laws_heldTreeS [v44, v39] st (fun v46 st =>
      qb (q_bin .lss v46 (.int .i64 0)) fun v48 =>
      cb v48 fun b_4 => br b_4
       (retR R (.int .i64 (-1)) st)
       (qb (q_bin .add (ls.getD 1 .junk) (.int .i64 1)) fun v11 =>
       X [v46, v11] st)) (panR R)))) (panR R))))
   (retR R (ls.getD 0 .junk) st))
  [a1, (.int .i64 0)] st
theorem c_laws_heldTreeS {a0 a1 : PV} {st : St} {R : Res → St → Prop} (h : b_laws_heldTreeS a0 a1 st R) : HCalls prog n_laws_heldTreeS [a0, a1] st R :=
 hcalls_of_func tyOK mixed (fn := Go.Proofs.Tryz.f99) (by kernel_rfl) (by kernel_rfl) (by kernel_rfl) (ann := [(8, [1, 5])])
  (show hFunc prog TT [(8, [1, 5])] Go.Proofs.Tryz.f99 [a0, a1] st R from (show hFunc prog TT [(8, [1, 5])] Go.Proofs.Tryz.f99 [a0, a1] st R = b_laws_heldTreeS a0 a1 st R by kernel_rfl) ▸ h)
def b_impl_erase (a0 : PV) (st : St) (R : Res → St → Prop) : Prop :=
 e_box st a0 fun v1 st =>
 e_alloc st [.int .i64 0, .int .i64 0, .str [], .sl 0 true []] fun v2 st =>
 qb (q_fa 0 v1) fun v3 =>
 qb (q_load st false 1 v3) fun v4 =>
 qb (q_bin .eql v4 (.int .i64 2)) fun v5 =>
 cb v5 fun b => br b
  (qb (q_fa 3 v1) fun v6 =>
  qb (q_load st false 1 v6) fun v7 =>
  qb (q_ia 4 v7 (.int .i64 0)) fun v8 =>
  qb (q_load st true 4 v8) fun v9 =>
  qb (q_fa 3 v1) fun v11 =>
  qb (q_load st false 1 v11) fun v12 =>
  qb (q_ia 4 v12 (.int .i64 1)) fun v13 =>
  qb (q_load st true 4 v13) fun v14 =>
  callK prog n_impl_erase [v9] st (fun v10 st =>
  q_load st true 4 v13 = some v14 ∧ q_load st false 1 v11 = some v12 ∧ (callK prog n_impl_erase [v14] st (fun v15 st =>
  qb (q_lit 4 2 0 [] [(0, v10), (1, v15)]) fun v16 =>
  qb (q_struct [.int .i64 0, .int .i64 0, .str [], .sl 0 true []] [(0, 1, (.int .i64 10)), (3, 1, v16)]) fun v17 =>
  e_store st 4 v2 v17 fun st =>
  qb (q_load st true 4 v2) fun r => retR R r st) (panR R))) (panR R))
  (qb (q_fa 2 v1) fun v18 =>
  qb (q_load st false 1 v18) fun v19 =>
  qb (q_struct [.int .i64 0, .int .i64 0, .str [], .sl 0 true []] [(0, 1, (.int .i64 9)), (2, 1, v19)]) fun v20 =>
  e_store st 4 v2 v20 fun st =>
  qb (q_load st true 4 v2) fun r_1 => retR R r_1 st)
theorem c_impl_erase {a0 : PV} {st : St} {R : Res → St → Prop} (h : b_impl_erase a0 st R) : HCalls prog n_impl_erase [a0] st R :=
 hcalls_of_func tyOK mixed (fn := Go.Proofs.Tryz.f101) (by kernel_rfl) (by kernel_rfl) (by kernel_rfl) (ann := [])
  (show hFunc prog TT [] Go.Proofs.Tryz.f101 [a0] st R from (show hFunc prog TT [] Go.Proofs.Tryz.f101 [a0] st R = b_impl_erase a0 st R by kernel_rfl) ▸ h)
end Go.H.Tryz
