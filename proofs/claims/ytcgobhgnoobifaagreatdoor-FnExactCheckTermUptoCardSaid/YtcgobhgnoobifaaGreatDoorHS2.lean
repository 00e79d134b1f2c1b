/- Part of a proof that the program answers as the reference does: EDS2. -/
import Derived.Test.YtcgobhgnoobifaaGreatDoorHT
/- MADE BY PROGRAM (hgen.py): what the functions compute, over pure values. -/
set_option linter.unusedVariables false
set_option maxRecDepth 100000
namespace Go.H.Tryz
open Go Go.H
def b_laws_heldTypedS (a0 a1 : PV) (st : St) (R : Res → St → Prop) : Prop :=
 hFix (fun ls st X =>
  qb (q_len a0) fun v8 =>
  qb (q_bin .lss (ls.getD 1 .junk) v8) fun v9 =>
  cb v9 fun b => br b
   (qb (q_ia 5 a0 (ls.getD 1 .junk)) fun v14 =>
   qb (q_fa 0 v14) fun v15 =>
   qb (q_load st false 1 v15) fun v16 =>
   callK prog n_laws_markText [(ls.getD 0 .junk)] st (fun v18 st =>
   q_load st false 1 v15 = some v16 ∧ (qb (q_bin .neq v16 v18) fun v19 =>
   cb v19 fun b_1 => br b_1
    (retR R (.int .i64 (-1)) st)
    (qb (q_bin .add (ls.getD 0 .junk) (.int .i64 1)) fun v21 =>
    qb (q_ia 5 a0 (ls.getD 1 .junk)) fun v24 =>
    qb (q_fa 1 v24) fun v25 =>
    qb (q_fa 0 v25) fun v26 =>
    qb (q_load st false 1 v26) fun v27 =>
    qb (q_bin .neq v27 v21) fun v29 =>
    cb v29 fun b_2 => br b_2
     (retR R (.int .i64 (-1)) st)
     (qb (q_bin .add v21 (.int .i64 1)) fun v31 =>
     qb (q_ia 5 a0 (ls.getD 1 .junk)) fun v34 =>
     qb (q_fa 1 v34) fun v35 =>
     qb (q_fa 1 v35) fun v36 =>
     qb (q_load st false 1 v36) fun v37 =>
     qb (q_bin .neq v37 v31) fun v39 =>
     cb v39 fun b_3 => br b_3
      (retR R (.int .i64 (-1)) st)
      (qb (q_bin .add v31 (.int .i64 1)) fun v41 =>
      qb (q_ia 5 a0 (ls.getD 1 .junk)) fun v44 =>
      qb (q_fa 1 v44) fun v45 =>
      qb (q_fa 2 v45) fun v46 =>
      qb (q_load st false 1 v46) fun v47 =>
      callK prog n_laws_markText [v41] st (fun v49 st =>
      q_load st false 1 v46 = some v47 ∧ (qb (q_bin .neq v47 v49) fun v50 =>
      cb v50 fun b_4 => br b_4
       (retR R (.int .i64 (-1)) st)
       (qb (q_bin .add v41 (.int .i64 1)) fun v52 =>
       qb (q_ia 5 a0 (ls.getD 1 .junk)) fun v55 =>
       qb (q_fa 1 v55) fun v56 =>
       qb (q_fa 3 v56) fun v57 =>
       qb (q_load st false 1 v57) fun v58 =>
       callK prog n_laws_heldTreeS [v58, v52] st (fun v60 st =>
       qb (q_bin .lss v60 (.int .i64 0)) fun v62 =>
       cb v62 fun b_5 => br b_5
        (retR R (.int .i64 (-1)) st)
        (qb (q_bin .add (ls.getD 1 .junk) (.int .i64 1)) fun v11 =>
        X [v60, v11] st)) (panR R)))) (panR R)))))) (panR R))
   (retR R (ls.getD 0 .junk) st))
  [a1, (.int .i64 0)] st
theorem e_laws_heldTypedS : Enters prog n_laws_heldTypedS := ⟨Go.Proofs.Tryz.f42, by kernel_rfl, by kernel_rfl, by kernel_rfl⟩
theorem c_laws_heldTypedS {a0 a1 : PV} {st : St} {R : Res → St → Prop} (h : b_laws_heldTypedS a0 a1 st R) : HCalls prog n_laws_heldTypedS [a0, a1] st R :=
 hcalls_of_func tyOK mixed (fn := Go.Proofs.Tryz.f42) (by kernel_rfl) (by kernel_rfl) (by kernel_rfl) (ann := [(8, [1, 5])])
  (show hFunc prog TT [(8, [1, 5])] Go.Proofs.Tryz.f42 [a0, a1] st R from (show hFunc prog TT [(8, [1, 5])] Go.Proofs.Tryz.f42 [a0, a1] st R = b_laws_heldTypedS a0 a1 st R by kernel_rfl) ▸ h)
def b_spec_Needs (a0 a1 : PV) (st : St) (R : Res → St → Prop) : Prop :=
 qb (q_len a0) fun v12 =>
 qb (q_bin .gtr v12 (.int .i64 4096)) fun v13 =>
 cb v13 fun b => br b
  (qb (q_lit 1 0 0 [] []) fun v19 =>
  retR R (.tup [v19, (.int .i64 2)]) st)
  (qb (q_lenS a1) fun v16 =>
  qb (q_bin .gtr v16 (.int .i64 65536)) fun v17 =>
  cb v17 fun b_1 => br b_1
   (qb (q_lit 1 0 0 [] []) fun v19_1 =>
   retR R (.tup [v19_1, (.int .i64 2)]) st)
   (callK prog n_spec_SigOK [a0] st (fun v21 st =>
   qb (q_un .not v21) fun v22 =>
   cb v22 fun b_2 => br b_2
    (qb (q_lit 1 0 0 [] []) fun v23 =>
    retR R (.tup [v23, (.int .i64 1)]) st)
    (callK prog n_spec_l04Find [a0, a1] st (fun v26 st =>
    qb (q_bin .lss v26 (.int .i64 0)) fun v28 =>
    cb v28 fun b_3 => br b_3
     (qb (q_lit 1 0 0 [] []) fun v29 =>
     retR R (.tup [v29, (.int .i64 5)]) st)
     (qb (q_lit 1 0 0 [] []) fun v30 =>
     qb (q_ia 6 a0 v26) fun v33 =>
     qb (q_fa 2 v33) fun v34 =>
     qb (q_load st true 4 v34) fun v35 =>
     callK prog n_spec_l05Names [v30, v35] st (fun v36 st =>
     hFix (fun ls st X =>
      qb (q_len (ls.getD 0 .junk)) fun v39 =>
      qb (q_bin .lss (ls.getD 1 .junk) v39) fun v40 =>
      cb v40 fun b_4 => br b_4
       (qb (q_ia 1 (ls.getD 0 .junk) (ls.getD 1 .junk)) fun v48 =>
       qb (q_load st false 1 v48) fun v49 =>
       callK prog n_spec_l04Find [a0, v49] st (fun v50 st =>
       qb (q_ia 6 a0 v50) fun v51 =>
       qb (q_fa 2 v51) fun v52 =>
       qb (q_load st true 4 v52) fun v53 =>
       callK prog n_spec_l05Names [(ls.getD 0 .junk), v53] st (fun v54 st =>
       qb (q_bin .add (ls.getD 1 .junk) (.int .i64 1)) fun v42 =>
       X [v54, v42] st) (panR R)) (panR R))
       (qb (q_lit 1 0 0 [] []) fun v55 =>
       hFix (fun ls_1 st X_1 =>
        qb (q_len a0) fun v58 =>
        qb (q_bin .lss (ls_1.getD 1 .junk) v58) fun v59 =>
        cb v59 fun b_5 => br b_5
         (qb (q_ia 6 a0 (ls_1.getD 1 .junk)) fun v65 =>
         qb (q_fa 0 v65) fun v66 =>
         qb (q_load st false 1 v66) fun v67 =>
         callK prog n_spec_l00Has [(ls.getD 0 .junk), v67] st (fun v68 st =>
         cb v68 fun b_6 => br b_6
          (qb (q_ia 6 a0 (ls_1.getD 1 .junk)) fun v72 =>
          qb (q_fa 0 v72) fun v73 =>
          qb (q_load st false 1 v73) fun v74 =>
          qb (q_lit 1 1 0 [] [(0, v74)]) fun v75 =>
          e_append st 1 16 (ls_1.getD 0 .junk) v75 (fun v76 st =>
          qb (q_bin .add (ls_1.getD 1 .junk) (.int .i64 1)) fun v61 =>
          X_1 [v76, v61] st))
          (qb (q_bin .add (ls_1.getD 1 .junk) (.int .i64 1)) fun v61_1 =>
          X_1 [(ls_1.getD 0 .junk), v61_1] st)) (panR R))
         (retR R (.tup [(ls_1.getD 0 .junk), (.int .i64 0)]) st))
        [v55, (.int .i64 0)] st))
      [v36, (.int .i64 0)] st) (panR R))) (panR R))) (panR R)))
theorem e_spec_Needs : Enters prog n_spec_Needs := ⟨Go.Proofs.Tryz.f43, by kernel_rfl, by kernel_rfl, by kernel_rfl⟩
theorem c_spec_Needs {a0 a1 : PV} {st : St} {R : Res → St → Prop} (h : b_spec_Needs a0 a1 st R) : HCalls prog n_spec_Needs [a0, a1] st R :=
 hcalls_of_func tyOK mixed (fn := Go.Proofs.Tryz.f43) (by kernel_rfl) (by kernel_rfl) (by kernel_rfl) (ann := [(60, [9, 10]), (40, [7, 8])])
  (show hFunc prog TT [(60, [9, 10]), (40, [7, 8])] Go.Proofs.Tryz.f43 [a0, a1] st R from (show hFunc prog TT [(60, [9, 10]), (40, [7, 8])] Go.Proofs.Tryz.f43 [a0, a1] st R = b_spec_Needs a0 a1 st R by kernel_rfl) ▸ h)
def b_impl_Needs (a0 a1 : PV) (st : St) (R : Res → St → Prop) : Prop :=
 qb (q_len a0) fun v8 =>
 qb (q_lit 1 1 0 [] [(0, v8)]) fun v9 =>
 callK prog n_impl_longLists [v9] st (fun v10 st =>
 cb v10 fun b => br b
  (retR R (.tup [(.sl 0 true []), (.int .i64 2)]) st)
  (callK prog n_impl_longText [a1] st (fun v13 st =>
  cb v13 fun b_1 => br b_1
   (retR R (.tup [(.sl 0 true []), (.int .i64 2)]) st)
   (callK prog n_impl_SigOK [a0] st (fun v17 st =>
   qb (q_un .not v17) fun v18 =>
   cb v18 fun b_2 => br b_2
    (retR R (.tup [(.sl 0 true []), (.int .i64 1)]) st)
    (callK prog n_impl_has [a0, a1] st (fun v22 st =>
    qb (q_un .not v22) fun v23 =>
    cb v23 fun b_3 => br b_3
     (retR R (.tup [(.sl 0 true []), (.int .i64 5)]) st)
     (callK prog n_impl_needs [a0, a1] st (fun v26 st =>
     retR R (.tup [v26, (.int .i64 0)]) st) (panR R))) (panR R))) (panR R))) (panR R))) (panR R)
theorem e_impl_Needs : Enters prog n_impl_Needs := ⟨Go.Proofs.Tryz.f44, by kernel_rfl, by kernel_rfl, by kernel_rfl⟩
theorem c_impl_Needs {a0 a1 : PV} {st : St} {R : Res → St → Prop} (h : b_impl_Needs a0 a1 st R) : HCalls prog n_impl_Needs [a0, a1] st R :=
 hcalls_of_func tyOK mixed (fn := Go.Proofs.Tryz.f44) (by kernel_rfl) (by kernel_rfl) (by kernel_rfl) (ann := [])
  (show hFunc prog TT [] Go.Proofs.Tryz.f44 [a0, a1] st R from (show hFunc prog TT [] Go.Proofs.Tryz.f44 [a0, a1] st R = b_impl_Needs a0 a1 st R by kernel_rfl) ▸ h)
def b_laws_eqStringS (a0 a1 : PV) (st : St) (R : Res → St → Prop) : Prop :=
 qb (q_len a0) fun v7 =>
 qb (q_len a1) fun v9 =>
 qb (q_bin .neq v7 v9) fun v10 =>
 cb v10 fun b => br b
  (retR R (.bool false) st)
  (hFix (fun ls st X =>
   qb (q_len a0) fun v13 =>
   qb (q_bin .lss (ls.getD 0 .junk) v13) fun v14 =>
   cb v14 fun b_1 => br b_1
    (qb (q_ia 1 a0 (ls.getD 0 .junk)) fun v19 =>
    qb (q_load st false 1 v19) fun v20 =>
    qb (q_ia 1 a1 (ls.getD 0 .junk)) fun v23 =>
    qb (q_load st false 1 v23) fun v24 =>
    qb (q_bin .neq v20 v24) fun v25 =>
    cb v25 fun b_2 => br b_2
     (retR R (.bool false) st)
     (qb (q_bin .add (ls.getD 0 .junk) (.int .i64 1)) fun v16 =>
     X [v16] st))
    (retR R (.bool true) st))
   [(.int .i64 0)] st)
theorem e_laws_eqStringS : Enters prog n_laws_eqStringS := ⟨Go.Proofs.Tryz.f45, by kernel_rfl, by kernel_rfl, by kernel_rfl⟩
theorem c_laws_eqStringS {a0 a1 : PV} {st : St} {R : Res → St → Prop} (h : b_laws_eqStringS a0 a1 st R) : HCalls prog n_laws_eqStringS [a0, a1] st R :=
 hcalls_of_func tyOK mixed (fn := Go.Proofs.Tryz.f45) (by kernel_rfl) (by kernel_rfl) (by kernel_rfl) (ann := [(16, [5])])
  (show hFunc prog TT [(16, [5])] Go.Proofs.Tryz.f45 [a0, a1] st R from (show hFunc prog TT [(16, [5])] Go.Proofs.Tryz.f45 [a0, a1] st R = b_laws_eqStringS a0 a1 st R by kernel_rfl) ▸ h)
def b_laws_markStringS (a0 a1 : PV) (st : St) (R : Res → St → Prop) : Prop :=
 hFix (fun ls st X =>
  qb (q_len a0) fun v8 =>
  qb (q_bin .lss (ls.getD 1 .junk) v8) fun v9 =>
  cb v9 fun b => br b
   (callK prog n_laws_markText [(ls.getD 0 .junk)] st (fun v15 st =>
   qb (q_ia 1 a0 (ls.getD 1 .junk)) fun v16 =>
   e_store st 1 v16 v15 fun st =>
   qb (q_bin .add (ls.getD 0 .junk) (.int .i64 1)) fun v18 =>
   qb (q_bin .add (ls.getD 1 .junk) (.int .i64 1)) fun v11 =>
   X [v18, v11] st) (panR R))
   (retR R (ls.getD 0 .junk) st))
  [a1, (.int .i64 0)] st
theorem e_laws_markStringS : Enters prog n_laws_markStringS := ⟨Go.Proofs.Tryz.f46, by kernel_rfl, by kernel_rfl, by kernel_rfl⟩
theorem c_laws_markStringS {a0 a1 : PV} {st : St} {R : Res → St → Prop} (h : b_laws_markStringS a0 a1 st R) : HCalls prog n_laws_markStringS [a0, a1] st R :=
 hcalls_of_func tyOK mixed (fn := Go.Proofs.Tryz.f46) (by kernel_rfl) (by kernel_rfl) (by kernel_rfl) (ann := [(8, [1, 5])])
  (show hFunc prog TT [(8, [1, 5])] Go.Proofs.Tryz.f46 [a0, a1] st R from (show hFunc prog TT [(8, [1, 5])] Go.Proofs.Tryz.f46 [a0, a1] st R = b_laws_markStringS a0 a1 st R by kernel_rfl) ▸ h)
def b_laws_heldStringS (a0 a1 : PV) (st : St) (R : Res → St → Prop) : Prop :=
 hFix (fun ls st X =>
  qb (q_len a0) fun v8 =>
  qb (q_bin .lss (ls.getD 1 .junk) v8) fun v9 =>
  cb v9 fun b => br b
   (qb (q_ia 1 a0 (ls.getD 1 .junk)) fun v14 =>
   qb (q_load st false 1 v14) fun v15 =>
   callK prog n_laws_markText [(ls.getD 0 .junk)] st (fun v17 st =>
   q_load st false 1 v14 = some v15 ∧ (qb (q_bin .neq v15 v17) fun v18 =>
   cb v18 fun b_1 => br b_1
    (retR R (.int .i64 (-1)) st)
    (qb (q_bin .add (ls.getD 0 .junk) (.int .i64 1)) fun v20 =>
    qb (q_bin .add (ls.getD 1 .junk) (.int .i64 1)) fun v11 =>
    X [v20, v11] st))) (panR R))
   (retR R (ls.getD 0 .junk) st))
  [a1, (.int .i64 0)] st
theorem e_laws_heldStringS : Enters prog n_laws_heldStringS := ⟨Go.Proofs.Tryz.f47, by kernel_rfl, by kernel_rfl, by kernel_rfl⟩
theorem c_laws_heldStringS {a0 a1 : PV} {st : St} {R : Res → St → Prop} (h : b_laws_heldStringS a0 a1 st R) : HCalls prog n_laws_heldStringS [a0, a1] st R :=
 hcalls_of_func tyOK mixed (fn := Go.Proofs.Tryz.f47) (by kernel_rfl) (by kernel_rfl) (by kernel_rfl) (ann := [(8, [1, 5])])
  (show hFunc prog TT [(8, [1, 5])] Go.Proofs.Tryz.f47 [a0, a1] st R from (show hFunc prog TT [(8, [1, 5])] Go.Proofs.Tryz.f47 [a0, a1] st R = b_laws_heldStringS a0 a1 st R by kernel_rfl) ▸ h)
def b_spec_Synth (a0 a1 a2 : PV) (st : St) (R : Res → St → Prop) : Prop :=
 e_box st a2 fun v5 st =>
 e_alloc st [.int .i64 0, .int .i64 0, .str [], .sl 0 true []] fun v6 st =>
 qb (q_load st true 4 v5) fun v15 =>
 callK prog n_spec_TermOK [v15] st (fun v16 st =>
 callK prog n_spec_l04Begin [a0, a1, v16] st (fun v17 st =>
 qb (q_bin .neq v17 (.int .i64 0)) fun v19 =>
 cb v19 fun b => br b
  (qb (q_struct [.int .i64 0, .int .i64 0, .str [], .sl 0 true []] []) fun v20 =>
  e_store st 4 v6 v20 fun st =>
  qb (q_load st true 4 v6) fun r => retR R (.tup [r, v17, (.int .i64 0)]) st)
  (qb (q_fa 0 v5) fun v22 =>
  qb (q_load st false 1 v22) fun v23 =>
  qb (q_bin .eql v23 (.int .i64 4)) fun v24 =>
  cb v24 fun b_1 => br b_1
   (qb (q_struct [.int .i64 0, .int .i64 0, .str [], .sl 0 true []] []) fun v25 =>
   e_store st 4 v6 v25 fun st =>
   qb (q_load st true 4 v6) fun r_1 => retR R (.tup [r_1, (.int .i64 9), (.int .i64 0)]) st)
   (callK prog n_spec_l04Check [a0] st (fun v27 st =>
   qb (q_load st true 4 v5) fun v31 =>
   callK prog n_spec_l04Run_synth [v27, a1, v31, (.int .i64 0)] st (fun v32 st =>
   qb (q_ex v32 0) fun v33 =>
   qb (q_ex v32 1) fun v34 =>
   e_alloc st [.int .i64 0, .int .i64 0, .str [], .sl 0 true []] fun v11 st =>
   e_store st 4 v11 v33 fun st =>
   qb (q_un .not v34) fun v36 =>
   cb v36 fun b_2 => br b_2
    (qb (q_struct [.int .i64 0, .int .i64 0, .str [], .sl 0 true []] []) fun v37 =>
    qb (q_nil v27) fun v39 =>
    qb (q_fa 2 v39) fun v40 =>
    qb (q_load st false 1 v40) fun v41 =>
    qb (q_nil v27) fun v43 =>
    qb (q_fa 3 v43) fun v44 =>
    qb (q_load st false 1 v44) fun v45 =>
    e_store st 4 v6 v37 fun st =>
    q_load st false 1 v44 = some v45 ∧ q_load st false 1 v40 = some v41 ∧ (qb (q_load st true 4 v6) fun r_2 => retR R (.tup [r_2, v41, v45]) st))
    (qb (q_load st true 4 v11) fun v46 =>
    callK prog n_spec_l01Copy [v46] st (fun v47 st =>
    e_store st 4 v6 v47 fun st =>
    qb (q_load st true 4 v6) fun r_3 => retR R (.tup [r_3, (.int .i64 0), (.int .i64 0)]) st) (panR R))) (panR R)) (panR R)))) (panR R)) (panR R)
theorem e_spec_Synth : Enters prog n_spec_Synth := ⟨Go.Proofs.Tryz.f48, by kernel_rfl, by kernel_rfl, by kernel_rfl⟩
theorem c_spec_Synth {a0 a1 a2 : PV} {st : St} {R : Res → St → Prop} (h : b_spec_Synth a0 a1 a2 st R) : HCalls prog n_spec_Synth [a0, a1, a2] st R :=
 hcalls_of_func tyOK mixed (fn := Go.Proofs.Tryz.f48) (by kernel_rfl) (by kernel_rfl) (by kernel_rfl) (ann := [])
  (show hFunc prog TT [] Go.Proofs.Tryz.f48 [a0, a1, a2] st R from (show hFunc prog TT [] Go.Proofs.Tryz.f48 [a0, a1, a2] st R = b_spec_Synth a0 a1 a2 st R by kernel_rfl) ▸ h)
def b_impl_Synth (a0 a1 a2 : PV) (st : St) (R : Res → St → Prop) : Prop :=
 e_box st a1 fun v4 st =>
 e_box st a2 fun v5 st =>
 e_alloc st [.int .i64 0, .int .i64 0, .str [], .sl 0 true []] fun v6 st =>
 qb (q_struct [.int .i64 0, .int .i64 0, .str [], .sl 0 true []] []) fun v12 =>
 e_alloc st [.int .i64 0, .int .i64 0, .str [], .sl 0 true []] fun v9 st =>
 e_store st 4 v9 v12 fun st =>
 qb (q_load st false 1 v4) fun v15 =>
 callK prog n_impl_checked [a0, v15, (.fn (.func n_impl_Synth_1) [] [v5]), (.fn (.func n_impl_Synth_2) [] [v5, v4, v9])] st (fun v18 st =>
 qb (q_ex v18 0) fun v19 =>
 qb (q_ex v18 1) fun v20 =>
 qb (q_bin .neq v19 (.int .i64 0)) fun v22 =>
 cb v22 fun b => br b
  (qb (q_struct [.int .i64 0, .int .i64 0, .str [], .sl 0 true []] []) fun v23 =>
  e_store st 4 v6 v23 fun st =>
  qb (q_load st true 4 v6) fun r => retR R (.tup [r, v19, v20]) st)
  (qb (q_load st true 4 v9) fun v26 =>
  callK prog n_impl_clone [v26] st (fun v27 st =>
  e_store st 4 v6 v27 fun st =>
  qb (q_load st true 4 v6) fun r_1 => retR R (.tup [r_1, (.int .i64 0), (.int .i64 0)]) st) (panR R))) (panR R)
theorem e_impl_Synth : Enters prog n_impl_Synth := ⟨Go.Proofs.Tryz.f49, by kernel_rfl, by kernel_rfl, by kernel_rfl⟩
theorem c_impl_Synth {a0 a1 a2 : PV} {st : St} {R : Res → St → Prop} (h : b_impl_Synth a0 a1 a2 st R) : HCalls prog n_impl_Synth [a0, a1, a2] st R :=
 hcalls_of_func tyOK mixed (fn := Go.Proofs.Tryz.f49) (by kernel_rfl) (by kernel_rfl) (by kernel_rfl) (ann := [])
  (show hFunc prog TT [] Go.Proofs.Tryz.f49 [a0, a1, a2] st R from (show hFunc prog TT [] Go.Proofs.Tryz.f49 [a0, a1, a2] st R = b_impl_Synth a0 a1 a2 st R by kernel_rfl) ▸ h)
def b_laws_markTreeS (a0 a1 : PV) (st : St) (R : Res → St → Prop) : Prop :=
 hFix (fun ls st X =>
  qb (q_len a0) fun v8 =>
  qb (q_bin .lss (ls.getD 1 .junk) v8) fun v9 =>
  cb v9 fun b => br b
   (qb (q_ia 4 a0 (ls.getD 1 .junk)) fun v15 =>
   qb (q_fa 0 v15) fun v16 =>
   e_store st 1 v16 (ls.getD 0 .junk) fun st =>
   qb (q_bin .add (ls.getD 0 .junk) (.int .i64 1)) fun v18 =>
   qb (q_ia 4 a0 (ls.getD 1 .junk)) fun v22 =>
   qb (q_fa 1 v22) fun v23 =>
   e_store st 1 v23 v18 fun st =>
   qb (q_bin .add v18 (.int .i64 1)) fun v25 =>
   callK prog n_laws_markText [v25] st (fun v29 st =>
   qb (q_ia 4 a0 (ls.getD 1 .junk)) fun v30 =>
   qb (q_fa 2 v30) fun v31 =>
   e_store st 1 v31 v29 fun st =>
   qb (q_bin .add v25 (.int .i64 1)) fun v33 =>
   qb (q_ia 4 a0 (ls.getD 1 .junk)) fun v36 =>
   qb (q_fa 3 v36) fun v37 =>
   qb (q_load st false 1 v37) fun v38 =>
   callK prog n_laws_markTreeS [v38, v33] st (fun v40 st =>
   qb (q_bin .add (ls.getD 1 .junk) (.int .i64 1)) fun v11 =>
   X [v40, v11] st) (panR R)) (panR R))
   (retR R (ls.getD 0 .junk) st))
  [a1, (.int .i64 0)] st
theorem e_laws_markTreeS : Enters prog n_laws_markTreeS := ⟨Go.Proofs.Tryz.f50, by kernel_rfl, by kernel_rfl, by kernel_rfl⟩
theorem c_laws_markTreeS {a0 a1 : PV} {st : St} {R : Res → St → Prop} (h : b_laws_markTreeS a0 a1 st R) : HCalls prog n_laws_markTreeS [a0, a1] st R :=
 hcalls_of_func tyOK mixed (fn := Go.Proofs.Tryz.f50) (by kernel_rfl) (by kernel_rfl) (by kernel_rfl) (ann := [(8, [1, 5])])
  (show hFunc prog TT [(8, [1, 5])] Go.Proofs.Tryz.f50 [a0, a1] st R from (show hFunc prog TT [(8, [1, 5])] Go.Proofs.Tryz.f50 [a0, a1] st R = b_laws_markTreeS a0 a1 st R by kernel_rfl) ▸ h)
def b_laws_markTree (a0 a1 : PV) (st : St) (R : Res → St → Prop) : Prop :=
 e_box st a0 fun v2 st =>
 qb (q_fa 3 v2) fun v5 =>
 qb (q_load st false 1 v5) fun v6 =>
 callK prog n_laws_markTreeS [v6, a1] st (fun v8 st =>
 retR R v8 st) (panR R)
theorem e_laws_markTree : Enters prog n_laws_markTree := ⟨Go.Proofs.Tryz.f51, by kernel_rfl, by kernel_rfl, by kernel_rfl⟩
theorem c_laws_markTree {a0 a1 : PV} {st : St} {R : Res → St → Prop} (h : b_laws_markTree a0 a1 st R) : HCalls prog n_laws_markTree [a0, a1] st R :=
 hcalls_of_func tyOK mixed (fn := Go.Proofs.Tryz.f51) (by kernel_rfl) (by kernel_rfl) (by kernel_rfl) (ann := [])
  (show hFunc prog TT [] Go.Proofs.Tryz.f51 [a0, a1] st R from (show hFunc prog TT [] Go.Proofs.Tryz.f51 [a0, a1] st R = b_laws_markTree a0 a1 st R by kernel_rfl) ▸ h)
def b_laws_heldTree (a0 a1 : PV) (st : St) (R : Res → St → Prop) : Prop :=
 e_box st a0 fun v2 st =>
 qb (q_fa 3 v2) fun v5 =>
 qb (q_load st false 1 v5) fun v6 =>
 callK prog n_laws_heldTreeS [v6, a1] st (fun v8 st =>
 qb (q_bin .lss v8 (.int .i64 0)) fun v10 =>
 cb v10 fun b => br b
  (retR R (.int .i64 (-1)) st)
  (retR R v8 st)) (panR R)
theorem e_laws_heldTree : Enters prog n_laws_heldTree := ⟨Go.Proofs.Tryz.f52, by kernel_rfl, by kernel_rfl, by kernel_rfl⟩
theorem c_laws_heldTree {a0 a1 : PV} {st : St} {R : Res → St → Prop} (h : b_laws_heldTree a0 a1 st R) : HCalls prog n_laws_heldTree [a0, a1] st R :=
 hcalls_of_func tyOK mixed (fn := Go.Proofs.Tryz.f52) (by kernel_rfl) (by kernel_rfl) (by kernel_rfl) (ann := [])
  (show hFunc prog TT [] Go.Proofs.Tryz.f52 [a0, a1] st R from (show hFunc prog TT [] Go.Proofs.Tryz.f52 [a0, a1] st R = b_laws_heldTree a0 a1 st R by kernel_rfl) ▸ h)
def b_laws_szDecl (a0 a1 : PV) (st : St) (R : Res → St → Prop) : Prop :=
 e_box st a0 fun v2 st =>
 qb (q_fa 0 v2) fun v6 =>
 qb (q_load st false 1 v6) fun v7 =>
 qb (q_lenS v7) fun v8 =>
 qb (q_bin .sub a1 v8) fun v9 =>
 qb (q_bin .lss v9 (.int .i64 0)) fun v11 =>
 cb v11 fun b => br b
  (retR R (.int .i64 (-1)) st)
  (qb (q_fa 2 v2) fun v12 =>
  qb (q_load st true 4 v12) fun v13 =>
  callK prog n_laws_szTree [v13, v9] st (fun v15 st =>
  qb (q_bin .lss v15 (.int .i64 0)) fun v17 =>
  cb v17 fun b_1 => br b_1
   (retR R (.int .i64 (-1)) st)
   (retR R v15 st)) (panR R))
theorem e_laws_szDecl : Enters prog n_laws_szDecl := ⟨Go.Proofs.Tryz.f53, by kernel_rfl, by kernel_rfl, by kernel_rfl⟩
theorem c_laws_szDecl {a0 a1 : PV} {st : St} {R : Res → St → Prop} (h : b_laws_szDecl a0 a1 st R) : HCalls prog n_laws_szDecl [a0, a1] st R :=
 hcalls_of_func tyOK mixed (fn := Go.Proofs.Tryz.f53) (by kernel_rfl) (by kernel_rfl) (by kernel_rfl) (ann := [])
  (show hFunc prog TT [] Go.Proofs.Tryz.f53 [a0, a1] st R from (show hFunc prog TT [] Go.Proofs.Tryz.f53 [a0, a1] st R = b_laws_szDecl a0 a1 st R by kernel_rfl) ▸ h)
def b_spec_AddDecl (a0 a1 : PV) (st : St) (R : Res → St → Prop) : Prop :=
 e_box st a1 fun v3 st =>
 qb (q_lit 6 0 0 [] []) fun v10 =>
 qb (q_len a0) fun v12 =>
 qb (q_bin .gtr v12 (.int .i64 4096)) fun v13 =>
 cb v13 fun b => br b
  (retR R (.tup [v10, (.int .i64 2), (.int .i64 0)]) st)
  (callK prog n_spec_SigOK [a0] st (fun v16 st =>
  qb (q_un .not v16) fun v17 =>
  cb v17 fun b_1 => br b_1
   (retR R (.tup [v10, (.int .i64 1), (.int .i64 0)]) st)
   (qb (q_load st true 6 v3) fun v21 =>
   callK prog n_spec_l04Decl [a0, v21] st (fun v22 st =>
   qb (q_ex v22 0) fun v23 =>
   qb (q_ex v22 1) fun v24 =>
   qb (q_bin .neq v23 (.int .i64 0)) fun v26 =>
   cb v26 fun b_2 => br b_2
    (retR R (.tup [v10, v23, v24]) st)
    (qb (q_len a0) fun v31 =>
    qb (q_bin .eql v31 (.int .i64 40)) fun v32 =>
    cb v32 fun b_3 => br b_3
     (retR R (.tup [v10, (.int .i64 17), (.int .i64 0)]) st)
     (qb (q_load st true 6 v3) fun v36 =>
     qb (q_lit 6 1 0 [] [(0, v36)]) fun v37 =>
     callK prog n_spec_l05Copy [a0] st (fun v35 st =>
     q_load st true 6 v3 = some v36 ∧ (callK prog n_spec_l05Copy [v37] st (fun v38 st =>
     e_append st 6 80 v35 v38 (fun v39 st =>
     retR R (.tup [v39, (.int .i64 0), (.int .i64 0)]) st)) (panR R))) (panR R)))) (panR R))) (panR R))
theorem e_spec_AddDecl : Enters prog n_spec_AddDecl := ⟨Go.Proofs.Tryz.f54, by kernel_rfl, by kernel_rfl, by kernel_rfl⟩
theorem c_spec_AddDecl {a0 a1 : PV} {st : St} {R : Res → St → Prop} (h : b_spec_AddDecl a0 a1 st R) : HCalls prog n_spec_AddDecl [a0, a1] st R :=
 hcalls_of_func tyOK mixed (fn := Go.Proofs.Tryz.f54) (by kernel_rfl) (by kernel_rfl) (by kernel_rfl) (ann := [])
  (show hFunc prog TT [] Go.Proofs.Tryz.f54 [a0, a1] st R from (show hFunc prog TT [] Go.Proofs.Tryz.f54 [a0, a1] st R = b_spec_AddDecl a0 a1 st R by kernel_rfl) ▸ h)
def b_laws_toDecl (a0 : PV) (st : St) (R : Res → St → Prop) : Prop :=
 e_box st a0 fun v1 st =>
 e_alloc st [.str [], .bool false, .int .i64 0, .int .i64 0, .str [], .sl 0 true []] fun v2 st =>
 e_alloc st [.str [], .bool false, .int .i64 0, .int .i64 0, .str [], .sl 0 true []] fun v3 st =>
 qb (q_fa 0 v1) fun v4 =>
 qb (q_load st false 1 v4) fun v5 =>
 qb (q_fa 0 v3) fun v6 =>
 e_store st 1 v6 v5 fun st =>
 qb (q_fa 1 v1) fun v7 =>
 qb (q_load st false 1 v7) fun v8 =>
 qb (q_fa 1 v3) fun v9 =>
 e_store st 1 v9 v8 fun st =>
 qb (q_fa 2 v1) fun v10 =>
 qb (q_load st true 4 v10) fun v11 =>
 callK prog n_laws_toTree [v11] st (fun v12 st =>
 qb (q_fa 2 v3) fun v13 =>
 e_store st 4 v13 v12 fun st =>
 qb (q_load st true 6 v3) fun v14 =>
 e_store st 6 v2 v14 fun st =>
 qb (q_load st true 6 v2) fun r => retR R r st) (panR R)
theorem e_laws_toDecl : Enters prog n_laws_toDecl := ⟨Go.Proofs.Tryz.f55, by kernel_rfl, by kernel_rfl, by kernel_rfl⟩
theorem c_laws_toDecl {a0 : PV} {st : St} {R : Res → St → Prop} (h : b_laws_toDecl a0 st R) : HCalls prog n_laws_toDecl [a0] st R :=
 hcalls_of_func tyOK mixed (fn := Go.Proofs.Tryz.f55) (by kernel_rfl) (by kernel_rfl) (by kernel_rfl) (ann := [])
  (show hFunc prog TT [] Go.Proofs.Tryz.f55 [a0] st R from (show hFunc prog TT [] Go.Proofs.Tryz.f55 [a0] st R = b_laws_toDecl a0 st R by kernel_rfl) ▸ h)
def b_impl_AddDecl (a0 a1 : PV) (st : St) (R : Res → St → Prop) : Prop :=
 e_box st a1 fun v3 st =>
 qb (q_len a0) fun v10 =>
 qb (q_lit 1 1 0 [] [(0, v10)]) fun v11 =>
 callK prog n_impl_longLists [v11] st (fun v12 st =>
 cb v12 fun b => br b
  (retR R (.tup [(.sl 0 true []), (.int .i64 2), (.int .i64 0)]) st)
  (callK prog n_impl_SigOK [a0] st (fun v15 st =>
  qb (q_un .not v15) fun v16 =>
  cb v16 fun b_1 => br b_1
   (retR R (.tup [(.sl 0 true []), (.int .i64 1), (.int .i64 0)]) st)
   (qb (q_load st true 6 v3) fun v18 =>
   callK prog n_impl_addFault [a0, v18] st (fun v19 st =>
   e_alloc st [.int .i64 0, .int .i64 0] fun v7 st =>
   e_store st 2 v7 v19 fun st =>
   qb (q_fa 0 v7) fun v20 =>
   qb (q_load st false 1 v20) fun v21 =>
   qb (q_bin .neq v21 (.int .i64 0)) fun v22 =>
   cb v22 fun b_2 => br b_2
    (qb (q_fa 0 v7) fun v23 =>
    qb (q_load st false 1 v23) fun v24 =>
    qb (q_fa 1 v7) fun v25 =>
    qb (q_load st false 1 v25) fun v26 =>
    retR R (.tup [(.sl 0 true []), v24, v26]) st)
    (qb (q_load st true 6 v3) fun v29 =>
    callK prog n_impl_cloneSig [a0] st (fun v28 st =>
    q_load st true 6 v3 = some v29 ∧ (callK prog n_impl_cloneDecl [v29] st (fun v30 st =>
    qb (q_lit 6 1 0 [] [(0, v30)]) fun v31 =>
    e_append st 6 80 v28 v31 (fun v32 st =>
    retR R (.tup [v32, (.int .i64 0), (.int .i64 0)]) st)) (panR R))) (panR R))) (panR R))) (panR R))) (panR R)
theorem e_impl_AddDecl : Enters prog n_impl_AddDecl := ⟨Go.Proofs.Tryz.f56, by kernel_rfl, by kernel_rfl, by kernel_rfl⟩
theorem c_impl_AddDecl {a0 a1 : PV} {st : St} {R : Res → St → Prop} (h : b_impl_AddDecl a0 a1 st R) : HCalls prog n_impl_AddDecl [a0, a1] st R :=
 hcalls_of_func tyOK mixed (fn := Go.Proofs.Tryz.f56) (by kernel_rfl) (by kernel_rfl) (by kernel_rfl) (ann := [])
  (show hFunc prog TT [] Go.Proofs.Tryz.f56 [a0, a1] st R from (show hFunc prog TT [] Go.Proofs.Tryz.f56 [a0, a1] st R = b_impl_AddDecl a0 a1 st R by kernel_rfl) ▸ h)
def b_laws_eqDecl (a0 a1 : PV) (st : St) (R : Res → St → Prop) : Prop :=
 e_box st a0 fun v2 st =>
 e_box st a1 fun v3 st =>
 qb (q_fa 0 v2) fun v5 =>
 qb (q_load st false 1 v5) fun v6 =>
 qb (q_fa 0 v3) fun v7 =>
 qb (q_load st false 1 v7) fun v8 =>
 qb (q_bin .neq v6 v8) fun v9 =>
 cb v9 fun b => br b
  (retR R (.bool false) st)
  (qb (q_fa 1 v2) fun v10 =>
  qb (q_load st false 1 v10) fun v11 =>
  qb (q_fa 1 v3) fun v12 =>
  qb (q_load st false 1 v12) fun v13 =>
  qb (q_beq .neq v11 v13) fun v14 =>
  cb v14 fun b_1 => br b_1
   (retR R (.bool false) st)
   (qb (q_fa 2 v2) fun v15 =>
   qb (q_load st true 4 v15) fun v16 =>
   qb (q_fa 2 v3) fun v17 =>
   qb (q_load st true 4 v17) fun v18 =>
   callK prog n_laws_eqTree [v16, v18] st (fun v19 st =>
   qb (q_un .not v19) fun v20 =>
   cb v20 fun b_2 => br b_2
    (retR R (.bool false) st)
    (retR R (.bool true) st)) (panR R)))
theorem e_laws_eqDecl : Enters prog n_laws_eqDecl := ⟨Go.Proofs.Tryz.f57, by kernel_rfl, by kernel_rfl, by kernel_rfl⟩
theorem c_laws_eqDecl {a0 a1 : PV} {st : St} {R : Res → St → Prop} (h : b_laws_eqDecl a0 a1 st R) : HCalls prog n_laws_eqDecl [a0, a1] st R :=
 hcalls_of_func tyOK mixed (fn := Go.Proofs.Tryz.f57) (by kernel_rfl) (by kernel_rfl) (by kernel_rfl) (ann := [])
  (show hFunc prog TT [] Go.Proofs.Tryz.f57 [a0, a1] st R from (show hFunc prog TT [] Go.Proofs.Tryz.f57 [a0, a1] st R = b_laws_eqDecl a0 a1 st R by kernel_rfl) ▸ h)
def b_laws_markDecl (a0 a1 : PV) (st : St) (R : Res → St → Prop) : Prop :=
 e_box st a0 fun v2 st =>
 qb (q_fa 2 v2) fun v5 =>
 qb (q_load st true 4 v5) fun v6 =>
 callK prog n_laws_markTree [v6, a1] st (fun v8 st =>
 retR R v8 st) (panR R)
theorem e_laws_markDecl : Enters prog n_laws_markDecl := ⟨Go.Proofs.Tryz.f58, by kernel_rfl, by kernel_rfl, by kernel_rfl⟩
theorem c_laws_markDecl {a0 a1 : PV} {st : St} {R : Res → St → Prop} (h : b_laws_markDecl a0 a1 st R) : HCalls prog n_laws_markDecl [a0, a1] st R :=
 hcalls_of_func tyOK mixed (fn := Go.Proofs.Tryz.f58) (by kernel_rfl) (by kernel_rfl) (by kernel_rfl) (ann := [])
  (show hFunc prog TT [] Go.Proofs.Tryz.f58 [a0, a1] st R from (show hFunc prog TT [] Go.Proofs.Tryz.f58 [a0, a1] st R = b_laws_markDecl a0 a1 st R by kernel_rfl) ▸ h)
def b_spec_Omittable (a0 a1 : PV) (st : St) (R : Res → St → Prop) : Prop :=
 qb (q_len a0) fun v8 =>
 qb (q_bin .gtr v8 (.int .i64 4096)) fun v9 =>
 cb v9 fun b => br b
  (qb (q_lit 1 0 0 [] []) fun v15 =>
  retR R (.tup [v15, (.int .i64 2)]) st)
  (qb (q_lenS a1) fun v12 =>
  qb (q_bin .gtr v12 (.int .i64 65536)) fun v13 =>
  cb v13 fun b_1 => br b_1
   (qb (q_lit 1 0 0 [] []) fun v15_1 =>
   retR R (.tup [v15_1, (.int .i64 2)]) st)
   (callK prog n_spec_SigOK [a0] st (fun v17 st =>
   qb (q_un .not v17) fun v18 =>
   cb v18 fun b_2 => br b_2
    (qb (q_lit 1 0 0 [] []) fun v19 =>
    retR R (.tup [v19, (.int .i64 1)]) st)
    (callK prog n_spec_l04Find [a0, a1] st (fun v22 st =>
    qb (q_bin .lss v22 (.int .i64 0)) fun v24 =>
    cb v24 fun b_3 => br b_3
     (qb (q_lit 1 0 0 [] []) fun v32 =>
     retR R (.tup [v32, (.int .i64 5)]) st)
     (qb (q_ia 6 a0 v22) fun v28 =>
     qb (q_fa 1 v28) fun v29 =>
     qb (q_load st false 1 v29) fun v30 =>
     cb v30 fun b_4 => br b_4
      (qb (q_lit 1 0 0 [] []) fun v32_1 =>
      retR R (.tup [v32_1, (.int .i64 5)]) st)
      (qb (q_ia 6 a0 v22) fun v35 =>
      qb (q_fa 2 v35) fun v36 =>
      qb (q_load st true 4 v36) fun v37 =>
      callK prog n_spec_l07Omittable [v37] st (fun v38 st =>
      retR R (.tup [v38, (.int .i64 0)]) st) (panR R)))) (panR R))) (panR R)))
theorem e_spec_Omittable : Enters prog n_spec_Omittable := ⟨Go.Proofs.Tryz.f59, by kernel_rfl, by kernel_rfl, by kernel_rfl⟩
theorem c_spec_Omittable {a0 a1 : PV} {st : St} {R : Res → St → Prop} (h : b_spec_Omittable a0 a1 st R) : HCalls prog n_spec_Omittable [a0, a1] st R :=
 hcalls_of_func tyOK mixed (fn := Go.Proofs.Tryz.f59) (by kernel_rfl) (by kernel_rfl) (by kernel_rfl) (ann := [])
  (show hFunc prog TT [] Go.Proofs.Tryz.f59 [a0, a1] st R from (show hFunc prog TT [] Go.Proofs.Tryz.f59 [a0, a1] st R = b_spec_Omittable a0 a1 st R by kernel_rfl) ▸ h)
def b_impl_Omittable (a0 a1 : PV) (st : St) (R : Res → St → Prop) : Prop :=
 qb (q_len a0) fun v10 =>
 qb (q_lit 1 1 0 [] [(0, v10)]) fun v11 =>
 callK prog n_impl_longLists [v11] st (fun v12 st =>
 cb v12 fun b => br b
  (retR R (.tup [(.sl 0 true []), (.int .i64 2)]) st)
  (callK prog n_impl_longText [a1] st (fun v15 st =>
  cb v15 fun b_1 => br b_1
   (retR R (.tup [(.sl 0 true []), (.int .i64 2)]) st)
   (callK prog n_impl_SigOK [a0] st (fun v19 st =>
   qb (q_un .not v19) fun v20 =>
   cb v20 fun b_2 => br b_2
    (retR R (.tup [(.sl 0 true []), (.int .i64 1)]) st)
    (qb (q_struct [.int .i64 0, .sl 0 true []] [(1, 1, a0)]) fun v23 =>
    e_box st v23 fun v24 st =>
    callK prog n_impl_checker_declared [v24, a1, (.bool false)] st (fun v26 st =>
    qb (q_ex v26 0) fun v27 =>
    qb (q_ex v26 1) fun v28 =>
    e_alloc st [.int .i64 0, .int .i64 0, .str [], .sl 0 true []] fun v6 st =>
    e_store st 4 v6 v27 fun st =>
    qb (q_un .not v28) fun v30 =>
    cb v30 fun b_3 => br b_3
     (retR R (.tup [(.sl 0 true []), (.int .i64 5)]) st)
     (qb (q_load st true 4 v6) fun v31 =>
     callK prog n_impl_omittable [v31] st (fun v32 st =>
     retR R (.tup [v32, (.int .i64 0)]) st) (panR R))) (panR R))) (panR R))) (panR R))) (panR R)
theorem e_impl_Omittable : Enters prog n_impl_Omittable := ⟨Go.Proofs.Tryz.f60, by kernel_rfl, by kernel_rfl, by kernel_rfl⟩
theorem c_impl_Omittable {a0 a1 : PV} {st : St} {R : Res → St → Prop} (h : b_impl_Omittable a0 a1 st R) : HCalls prog n_impl_Omittable [a0, a1] st R :=
 hcalls_of_func tyOK mixed (fn := Go.Proofs.Tryz.f60) (by kernel_rfl) (by kernel_rfl) (by kernel_rfl) (ann := [])
  (show hFunc prog TT [] Go.Proofs.Tryz.f60 [a0, a1] st R from (show hFunc prog TT [] Go.Proofs.Tryz.f60 [a0, a1] st R = b_impl_Omittable a0 a1 st R by kernel_rfl) ▸ h)
def b_laws_eqBoolS (a0 a1 : PV) (st : St) (R : Res → St → Prop) : Prop :=
 qb (q_len a0) fun v7 =>
 qb (q_len a1) fun v9 =>
 qb (q_bin .neq v7 v9) fun v10 =>
 cb v10 fun b => br b
  (retR R (.bool false) st)
  (hFix (fun ls st X =>
   qb (q_len a0) fun v13 =>
   qb (q_bin .lss (ls.getD 0 .junk) v13) fun v14 =>
   cb v14 fun b_1 => br b_1
    (qb (q_ia 1 a0 (ls.getD 0 .junk)) fun v19 =>
    qb (q_load st false 1 v19) fun v20 =>
    qb (q_ia 1 a1 (ls.getD 0 .junk)) fun v23 =>
    qb (q_load st false 1 v23) fun v24 =>
    qb (q_beq .neq v20 v24) fun v25 =>
    cb v25 fun b_2 => br b_2
     (retR R (.bool false) st)
     (qb (q_bin .add (ls.getD 0 .junk) (.int .i64 1)) fun v16 =>
     X [v16] st))
    (retR R (.bool true) st))
   [(.int .i64 0)] st)
theorem e_laws_eqBoolS : Enters prog n_laws_eqBoolS := ⟨Go.Proofs.Tryz.f61, by kernel_rfl, by kernel_rfl, by kernel_rfl⟩
theorem c_laws_eqBoolS {a0 a1 : PV} {st : St} {R : Res → St → Prop} (h : b_laws_eqBoolS a0 a1 st R) : HCalls prog n_laws_eqBoolS [a0, a1] st R :=
 hcalls_of_func tyOK mixed (fn := Go.Proofs.Tryz.f61) (by kernel_rfl) (by kernel_rfl) (by kernel_rfl) (ann := [(16, [5])])
  (show hFunc prog TT [(16, [5])] Go.Proofs.Tryz.f61 [a0, a1] st R from (show hFunc prog TT [(16, [5])] Go.Proofs.Tryz.f61 [a0, a1] st R = b_laws_eqBoolS a0 a1 st R by kernel_rfl) ▸ h)
end Go.H.Tryz
