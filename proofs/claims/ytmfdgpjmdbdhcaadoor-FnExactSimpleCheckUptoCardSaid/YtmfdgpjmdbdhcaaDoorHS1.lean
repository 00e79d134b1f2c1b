/- Part of a proof that the program answers as the reference does: DS1. -/
import Derived.Test.YtmfdgpjmdbdhcaaDoorHT
/- MADE BY PROGRAM (hgen.py): what the functions compute, over pure values. -/
set_option linter.unusedVariables false
set_option maxRecDepth 100000
namespace Go.H.Tryd
open Go Go.H
def b_spec_SimpleOK (a0 : PV) (st : St) (R : Res → St → Prop) : Prop :=
 e_box st a0 fun v1 st =>
 qb (q_load st true 4 v1) fun v3 =>
 callK prog n_spec_l01Small [v3] st (fun v4 st =>
 cb v4 fun b => br b
  (qb (q_load st true 4 v1) fun v6 =>
  callK prog n_spec_l01Simple [v6] st (fun v7 st =>
  retR R v7 st) (panR R))
  (retR R (.bool false) st)) (panR R)
theorem e_spec_SimpleOK : Enters prog n_spec_SimpleOK := ⟨Go.Proofs.Tryd.f22, by kernel_rfl, by kernel_rfl, by kernel_rfl⟩
theorem c_spec_SimpleOK {a0 : PV} {st : St} {R : Res → St → Prop} (h : b_spec_SimpleOK a0 st R) : HCalls prog n_spec_SimpleOK [a0] st R :=
 hcalls_of_func tyOK mixed (fn := Go.Proofs.Tryd.f22) (by kernel_rfl) (by kernel_rfl) (by kernel_rfl) (ann := [])
  (show hFunc prog TT [] Go.Proofs.Tryd.f22 [a0] st R from (show hFunc prog TT [] Go.Proofs.Tryd.f22 [a0] st R = b_spec_SimpleOK a0 st R by kernel_rfl) ▸ h)
def b_spec_l03Typed (a0 a1 a2 a3 a4 : PV) (st : St) (R : Res → St → Prop) : Prop :=
 e_box st a3 fun v8 st =>
 e_box st a4 fun v9 st =>
 qb (q_fa 0 v8) fun v15 =>
 qb (q_load st false 1 v15) fun v16 =>
 qb (q_bin .eql v16 (.int .i64 4)) fun v17 =>
 cb v17 fun b => br b
  (qb (q_fa 0 v9) fun v18 =>
  qb (q_load st false 1 v18) fun v19 =>
  qb (q_bin .neq v19 (.int .i64 10)) fun v20 =>
  cb v20 fun b_1 => br b_1
   (retR R (.int .i64 9) st)
   (qb (q_lit 4 0 0 [] []) fun v22 =>
   qb (q_fa 3 v9) fun v25 =>
   qb (q_load st false 1 v25) fun v26 =>
   qb (q_ia 4 v26 (.int .i64 0)) fun v27 =>
   qb (q_load st true 4 v27) fun v28 =>
   qb (q_lit 4 1 0 [] [(0, v28)]) fun v29 =>
   qb (q_fa 3 v8) fun v32 =>
   qb (q_load st false 1 v32) fun v33 =>
   qb (q_ia 4 v33 (.int .i64 0)) fun v34 =>
   qb (q_load st true 4 v34) fun v35 =>
   qb (q_fa 3 v9) fun v36 =>
   qb (q_load st false 1 v36) fun v37 =>
   qb (q_ia 4 v37 (.int .i64 1)) fun v38 =>
   qb (q_load st true 4 v38) fun v39 =>
   e_append st 4 56 v22 a1 (fun v24 st =>
   q_load st true 4 v38 = some v39 ∧ q_load st false 1 v36 = some v37 ∧ q_load st true 4 v34 = some v35 ∧ q_load st false 1 v32 = some v33 ∧ q_load st true 4 v27 = some v28 ∧ q_load st false 1 v25 = some v26 ∧ (e_append st 4 56 v24 v29 (fun v30 st =>
   q_load st true 4 v38 = some v39 ∧ q_load st false 1 v36 = some v37 ∧ q_load st true 4 v34 = some v35 ∧ q_load st false 1 v32 = some v33 ∧ (callK prog n_spec_l03Typed [a0, v30, a2, v35, v39] st (fun v40 st =>
   retR R v40 st) (panR R)))))))
  (qb (q_fa 0 v9) fun v41 =>
  qb (q_load st false 1 v41) fun v42 =>
  qb (q_bin .eql v42 (.int .i64 10)) fun v43 =>
  cb v43 fun b_2 => br b_2
   (retR R (.int .i64 9) st)
   (qb (q_struct [.int .i64 0, .int .i64 0, .str [], .sl 0 true []] []) fun v44 =>
   e_alloc st [.int .i64 0, .int .i64 0, .str [], .sl 0 true []] fun v11 st =>
   e_store st 4 v11 v44 fun st =>
   qb (q_fa 0 v8) fun v45 =>
   qb (q_load st false 1 v45) fun v46 =>
   hJ (fun ls st =>
    hJ (fun ls_1 st =>
     qb (q_fa 0 v11) fun v116 =>
     qb (q_load st false 1 v116) fun v117 =>
     qb (q_bin .eql v117 (.int .i64 10)) fun v118 =>
     cb v118 fun b_3 => br b_3
      (retR R (.int .i64 8) st)
      (qb (q_fa 2 v11) fun v119 =>
      qb (q_load st false 1 v119) fun v120 =>
      qb (q_fa 2 v9) fun v121 =>
      qb (q_load st false 1 v121) fun v122 =>
      qb (q_bin .neq v120 v122) fun v123 =>
      cb v123 fun b_4 => br b_4
       (retR R (.int .i64 10) st)
       (retR R (.int .i64 0) st)))
     (fun k_1 =>
    hFix (fun ls_2 st X =>
     qb (q_fa 3 v8) fun v87 =>
     qb (q_load st false 1 v87) fun v88 =>
     qb (q_len v88) fun v89 =>
     qb (q_bin .lss (ls_2.getD 0 .junk) v89) fun v90 =>
     cb v90 fun b_5 => br b_5
      (qb (q_fa 0 v11) fun v93 =>
      qb (q_load st false 1 v93) fun v94 =>
      qb (q_bin .neq v94 (.int .i64 10)) fun v95 =>
      cb v95 fun b_6 => br b_6
       (retR R (.int .i64 8) st)
       (qb (q_fa 3 v8) fun v99 =>
       qb (q_load st false 1 v99) fun v100 =>
       qb (q_ia 4 v100 (ls_2.getD 0 .junk)) fun v102 =>
       qb (q_load st true 4 v102) fun v103 =>
       qb (q_fa 3 v11) fun v104 =>
       qb (q_load st false 1 v104) fun v105 =>
       qb (q_ia 4 v105 (.int .i64 0)) fun v106 =>
       qb (q_load st true 4 v106) fun v107 =>
       callK prog n_spec_l03Typed [a0, a1, a2, v103, v107] st (fun v108 st =>
       qb (q_bin .neq v108 (.int .i64 0)) fun v110 =>
       cb v110 fun b_7 => br b_7
        (retR R v108 st)
        (qb (q_fa 3 v11) fun v112 =>
        qb (q_load st false 1 v112) fun v113 =>
        qb (q_ia 4 v113 (.int .i64 1)) fun v114 =>
        qb (q_load st true 4 v114) fun v115 =>
        e_store st 4 v11 v115 fun st =>
        qb (q_bin .add (ls_2.getD 0 .junk) (.int .i64 1)) fun v92 =>
        X [v92] st)) (panR R)))
      (k_1 [] st))
     [(.int .i64 0)] st))
    (fun k =>
   qb (q_bin .eql v46 (.int .i64 5)) fun v59 =>
   cb v59 fun b_8 => br b_8
    (qb (q_fa 1 v8) fun v60 =>
    qb (q_load st false 1 v60) fun v61 =>
    qb (q_len a1) fun v63 =>
    qb (q_bin .geq v61 v63) fun v64 =>
    cb v64 fun b_9 => br b_9
     (retR R (.int .i64 7) st)
     (qb (q_len a1) fun v67 =>
     qb (q_bin .sub v67 (.int .i64 1)) fun v68 =>
     qb (q_fa 1 v8) fun v69 =>
     qb (q_load st false 1 v69) fun v70 =>
     qb (q_bin .sub v68 v70) fun v71 =>
     qb (q_ia 4 a1 v71) fun v72 =>
     qb (q_load st true 4 v72) fun v73 =>
     e_store st 4 v11 v73 fun st =>
     k [] st))
    (qb (q_bin .eql v46 (.int .i64 7)) fun v75 =>
    cb v75 fun b_10 => br b_10
     (qb (q_fa 1 v8) fun v76 =>
     qb (q_load st false 1 v76) fun v77 =>
     qb (q_len a2) fun v79 =>
     qb (q_bin .geq v77 v79) fun v80 =>
     cb v80 fun b_11 => br b_11
      (retR R (.int .i64 15) st)
      (qb (q_fa 1 v8) fun v82 =>
      qb (q_load st false 1 v82) fun v83 =>
      qb (q_ia 4 a2 v83) fun v84 =>
      qb (q_load st true 4 v84) fun v85 =>
      e_store st 4 v11 v85 fun st =>
      k [] st))
     (qb (q_fa 2 v8) fun v48 =>
     qb (q_load st false 1 v48) fun v49 =>
     callK prog n_spec_l03Const [a0, v49] st (fun v50 st =>
     qb (q_bin .lss v50 (.int .i64 0)) fun v52 =>
     cb v52 fun b_12 => br b_12
      (retR R (.int .i64 5) st)
      (qb (q_ia 5 a0 v50) fun v55 =>
      qb (q_fa 1 v55) fun v56 =>
      qb (q_load st true 4 v56) fun v57 =>
      e_store st 4 v11 v57 fun st =>
      k [] st)) (panR R))))))
theorem e_spec_l03Typed : Enters prog n_spec_l03Typed := ⟨Go.Proofs.Tryd.f23, by kernel_rfl, by kernel_rfl, by kernel_rfl⟩
theorem c_spec_l03Typed {a0 a1 a2 a3 a4 : PV} {st : St} {R : Res → St → Prop} (h : b_spec_l03Typed a0 a1 a2 a3 a4 st R) : HCalls prog n_spec_l03Typed [a0, a1, a2, a3, a4] st R :=
 hcalls_of_func tyOK mixed (fn := Go.Proofs.Tryd.f23) (by kernel_rfl) (by kernel_rfl) (by kernel_rfl) (ann := [(88, [13]), (3, []), (7, [])])
  (show hFunc prog TT [(88, [13]), (3, []), (7, [])] Go.Proofs.Tryd.f23 [a0, a1, a2, a3, a4] st R from (show hFunc prog TT [(88, [13]), (3, []), (7, [])] Go.Proofs.Tryd.f23 [a0, a1, a2, a3, a4] st R = b_spec_l03Typed a0 a1 a2 a3 a4 st R by kernel_rfl) ▸ h)
def b_laws_toTyped (a0 : PV) (st : St) (R : Res → St → Prop) : Prop :=
 e_box st a0 fun v1 st =>
 e_alloc st [.str [], .int .i64 0, .int .i64 0, .str [], .sl 0 true []] fun v2 st =>
 e_alloc st [.str [], .int .i64 0, .int .i64 0, .str [], .sl 0 true []] fun v3 st =>
 qb (q_fa 0 v1) fun v4 =>
 qb (q_load st false 1 v4) fun v5 =>
 qb (q_fa 0 v3) fun v6 =>
 e_store st 1 v6 v5 fun st =>
 qb (q_fa 1 v1) fun v7 =>
 qb (q_load st true 4 v7) fun v8 =>
 callK prog n_laws_toTree [v8] st (fun v9 st =>
 qb (q_fa 1 v3) fun v10 =>
 e_store st 4 v10 v9 fun st =>
 qb (q_load st true 5 v3) fun v11 =>
 e_store st 5 v2 v11 fun st =>
 qb (q_load st true 5 v2) fun r => retR R r st) (panR R)
theorem e_laws_toTyped : Enters prog n_laws_toTyped := ⟨Go.Proofs.Tryd.f24, by kernel_rfl, by kernel_rfl, by kernel_rfl⟩
theorem c_laws_toTyped {a0 : PV} {st : St} {R : Res → St → Prop} (h : b_laws_toTyped a0 st R) : HCalls prog n_laws_toTyped [a0] st R :=
 hcalls_of_func tyOK mixed (fn := Go.Proofs.Tryd.f24) (by kernel_rfl) (by kernel_rfl) (by kernel_rfl) (ann := [])
  (show hFunc prog TT [] Go.Proofs.Tryd.f24 [a0] st R from (show hFunc prog TT [] Go.Proofs.Tryd.f24 [a0] st R = b_laws_toTyped a0 st R by kernel_rfl) ▸ h)
def b_impl_longLists (a0 : PV) (st : St) (R : Res → St → Prop) : Prop :=
 callK prog n_slices_Max_int_int [a0] st (fun v4 st =>
 qb (q_bin .gtr v4 (.int .i64 4096)) fun v5 =>
 retR R v5 st) (panR R)
theorem e_impl_longLists : Enters prog n_impl_longLists := ⟨Go.Proofs.Tryd.f25, by kernel_rfl, by kernel_rfl, by kernel_rfl⟩
theorem c_impl_longLists {a0 : PV} {st : St} {R : Res → St → Prop} (h : b_impl_longLists a0 st R) : HCalls prog n_impl_longLists [a0] st R :=
 hcalls_of_func tyOK mixed (fn := Go.Proofs.Tryd.f25) (by kernel_rfl) (by kernel_rfl) (by kernel_rfl) (ann := [])
  (show hFunc prog TT [] Go.Proofs.Tryd.f25 [a0] st R from (show hFunc prog TT [] Go.Proofs.Tryd.f25 [a0] st R = b_impl_longLists a0 st R by kernel_rfl) ▸ h)
def b_impl_constsOK (a0 : PV) (st : St) (R : Res → St → Prop) : Prop :=
 qb (q_len a0) fun v7 =>
 qb (q_bin .gtr v7 (.int .i64 60)) fun v8 =>
 cb v8 fun b => br b
  (retR R (.bool false) st)
  (e_mkmap st fun v9 st =>
  qb (q_len a0) fun v11 =>
  hFix (fun ls st X =>
   qb (q_bin .lss (ls.getD 0 .junk) v11) fun v13 =>
   cb v13 fun b_1 => br b_1
    (qb (q_ia 5 a0 (ls.getD 0 .junk)) fun v14 =>
    qb (q_load st true 5 v14) fun v15 =>
    e_alloc st [.str [], .int .i64 0, .int .i64 0, .str [], .sl 0 true []] fun v5 st =>
    e_store st 5 v5 v15 fun st =>
    qb (q_fa 0 v5) fun v16 =>
    qb (q_load st false 1 v16) fun v17 =>
    callK prog n_impl_NameOK [v17] st (fun v18 st =>
    qb (q_un .not v18) fun v19 =>
    cb v19 fun b_2 => br b_2
     (retR R (.bool false) st)
     (qb (q_fa 0 v5) fun v22 =>
     qb (q_load st false 1 v22) fun v23 =>
     qb (q_lookup st .string (.bool false) false v9 v23) fun v24 =>
     cb v24 fun b_3 => br b_3
      (retR R (.bool false) st)
      (qb (q_fa 1 v5) fun v27 =>
      qb (q_load st true 4 v27) fun v28 =>
      callK prog n_impl_badSimple [v28] st (fun v29 st =>
      cb v29 fun b_4 => br b_4
       (retR R (.bool false) st)
       (qb (q_fa 0 v5) fun v32 =>
       qb (q_load st false 1 v32) fun v33 =>
       e_mapset st .string v9 v33 (.bool true) fun st =>
       qb (q_bin .add (ls.getD 0 .junk) (.int .i64 1)) fun v34 =>
       X [v34] st)) (panR R)))) (panR R))
    (retR R (.bool true) st))
   [(.int .i64 0)] st)
theorem e_impl_constsOK : Enters prog n_impl_constsOK := ⟨Go.Proofs.Tryd.f26, by kernel_rfl, by kernel_rfl, by kernel_rfl⟩
theorem c_impl_constsOK {a0 : PV} {st : St} {R : Res → St → Prop} (h : b_impl_constsOK a0 st R) : HCalls prog n_impl_constsOK [a0] st R :=
 hcalls_of_func tyOK mixed (fn := Go.Proofs.Tryd.f26) (by kernel_rfl) (by kernel_rfl) (by kernel_rfl) (ann := [(20, [12])])
  (show hFunc prog TT [(20, [12])] Go.Proofs.Tryd.f26 [a0] st R from (show hFunc prog TT [(20, [12])] Go.Proofs.Tryd.f26 [a0] st R = b_impl_constsOK a0 st R by kernel_rfl) ▸ h)
def b_impl_simplesOK (a0 a1 : PV) (st : St) (R : Res → St → Prop) : Prop :=
 qb (q_len a0) fun v6 =>
 qb (q_bin .leq v6 a1) fun v8 =>
 cb v8 fun b => br b
  (callK prog n_slices_ContainsFunc_impl_Tree_impl_Tree [a0, (.fn (.func n_impl_badSimple) [] [])] st (fun v11 st =>
  qb (q_un .not v11) fun v12 =>
  retR R v12 st) (panR R))
  (retR R (.bool false) st)
theorem e_impl_simplesOK : Enters prog n_impl_simplesOK := ⟨Go.Proofs.Tryd.f27, by kernel_rfl, by kernel_rfl, by kernel_rfl⟩
theorem c_impl_simplesOK {a0 a1 : PV} {st : St} {R : Res → St → Prop} (h : b_impl_simplesOK a0 a1 st R) : HCalls prog n_impl_simplesOK [a0, a1] st R :=
 hcalls_of_func tyOK mixed (fn := Go.Proofs.Tryd.f27) (by kernel_rfl) (by kernel_rfl) (by kernel_rfl) (ann := [])
  (show hFunc prog TT [] Go.Proofs.Tryd.f27 [a0, a1] st R from (show hFunc prog TT [] Go.Proofs.Tryd.f27 [a0, a1] st R = b_impl_simplesOK a0 a1 st R by kernel_rfl) ▸ h)
def b_impl_badTerm (a0 : PV) (st : St) (R : Res → St → Prop) : Prop :=
 e_box st a0 fun v1 st =>
 qb (q_load st true 4 v1) fun v3 =>
 callK prog n_impl_TermOK [v3] st (fun v4 st =>
 qb (q_un .not v4) fun v5 =>
 retR R v5 st) (panR R)
theorem e_impl_badTerm : Enters prog n_impl_badTerm := ⟨Go.Proofs.Tryd.f28, by kernel_rfl, by kernel_rfl, by kernel_rfl⟩
theorem c_impl_badTerm {a0 : PV} {st : St} {R : Res → St → Prop} (h : b_impl_badTerm a0 st R) : HCalls prog n_impl_badTerm [a0] st R :=
 hcalls_of_func tyOK mixed (fn := Go.Proofs.Tryd.f28) (by kernel_rfl) (by kernel_rfl) (by kernel_rfl) (ann := [])
  (show hFunc prog TT [] Go.Proofs.Tryd.f28 [a0] st R from (show hFunc prog TT [] Go.Proofs.Tryd.f28 [a0] st R = b_impl_badTerm a0 st R by kernel_rfl) ▸ h)
def b_impl_badSimple (a0 : PV) (st : St) (R : Res → St → Prop) : Prop :=
 e_box st a0 fun v1 st =>
 qb (q_load st true 4 v1) fun v3 =>
 callK prog n_impl_SimpleOK [v3] st (fun v4 st =>
 qb (q_un .not v4) fun v5 =>
 retR R v5 st) (panR R)
theorem e_impl_badSimple : Enters prog n_impl_badSimple := ⟨Go.Proofs.Tryd.f29, by kernel_rfl, by kernel_rfl, by kernel_rfl⟩
theorem c_impl_badSimple {a0 : PV} {st : St} {R : Res → St → Prop} (h : b_impl_badSimple a0 st R) : HCalls prog n_impl_badSimple [a0] st R :=
 hcalls_of_func tyOK mixed (fn := Go.Proofs.Tryd.f29) (by kernel_rfl) (by kernel_rfl) (by kernel_rfl) (ann := [])
  (show hFunc prog TT [] Go.Proofs.Tryd.f29 [a0] st R from (show hFunc prog TT [] Go.Proofs.Tryd.f29 [a0] st R = b_impl_badSimple a0 st R by kernel_rfl) ▸ h)
def b_impl_SimpleCheck_1 (a0 a1 a2 a3 : PV) (st : St) (R : Res → St → Prop) : Prop :=
 qb (q_load st false 1 a0) fun v4 =>
 qb (q_load st false 1 a1) fun v5 =>
 qb (q_load st true 4 a2) fun v7 =>
 qb (q_load st true 4 a3) fun v8 =>
 callK prog n_slices_Clip_impl_Tree_impl_Tree [v5] st (fun v6 st =>
 q_load st true 4 a3 = some v8 ∧ q_load st true 4 a2 = some v7 ∧ q_load st false 1 a0 = some v4 ∧ (callK prog n_impl_simpler_check [v4, v6, v7, v8] st (fun v9 st =>
 retR R (.tup []) st) (panR R))) (panR R)
theorem e_impl_SimpleCheck_1 : Enters prog n_impl_SimpleCheck_1 := ⟨Go.Proofs.Tryd.f31, by kernel_rfl, by kernel_rfl, by kernel_rfl⟩
theorem c_impl_SimpleCheck_1 {a0 a1 a2 a3 : PV} {st : St} {R : Res → St → Prop} (h : b_impl_SimpleCheck_1 a0 a1 a2 a3 st R) : HCalls prog n_impl_SimpleCheck_1 [a0, a1, a2, a3] st R :=
 hcalls_of_func tyOK mixed (fn := Go.Proofs.Tryd.f31) (by kernel_rfl) (by kernel_rfl) (by kernel_rfl) (ann := [])
  (show hFunc prog TT [] Go.Proofs.Tryd.f31 [a0, a1, a2, a3] st R from (show hFunc prog TT [] Go.Proofs.Tryd.f31 [a0, a1, a2, a3] st R = b_impl_SimpleCheck_1 a0 a1 a2 a3 st R by kernel_rfl) ▸ h)
def b_impl_simpler_check (a0 a1 a2 a3 : PV) (st : St) (R : Res → St → Prop) : Prop :=
 e_box st a2 fun v6 st =>
 e_box st a3 fun v7 st =>
 qb (q_fa 0 v6) fun v11 =>
 qb (q_load st false 1 v11) fun v12 =>
 qb (q_bin .eql v12 (.int .i64 4)) fun v13 =>
 qb (q_fa 0 v7) fun v14 =>
 qb (q_load st false 1 v14) fun v15 =>
 qb (q_bin .eql v15 (.int .i64 10)) fun v16 =>
 qb (q_beq .neq v13 v16) fun v17 =>
 hJ (fun ls st =>
  qb (q_fa 0 v6) fun v19 =>
  qb (q_load st false 1 v19) fun v20 =>
  qb (q_bin .eql v20 (.int .i64 4)) fun v21 =>
  cb v21 fun b_1 => br b_1
   (qb (q_fa 3 v7) fun v25 =>
   qb (q_load st false 1 v25) fun v26 =>
   qb (q_ia 4 v26 (.int .i64 0)) fun v27 =>
   qb (q_load st true 4 v27) fun v28 =>
   qb (q_lit 4 1 0 [] [(0, v28)]) fun v29 =>
   qb (q_fa 3 v6) fun v31 =>
   qb (q_load st false 1 v31) fun v32 =>
   qb (q_ia 4 v32 (.int .i64 0)) fun v33 =>
   qb (q_load st true 4 v33) fun v34 =>
   qb (q_fa 3 v7) fun v35 =>
   qb (q_load st false 1 v35) fun v36 =>
   qb (q_ia 4 v36 (.int .i64 1)) fun v37 =>
   qb (q_load st true 4 v37) fun v38 =>
   callK prog n_slices_Clip_impl_Tree_impl_Tree [a1] st (fun v24 st =>
   q_load st true 4 v37 = some v38 ∧ q_load st false 1 v35 = some v36 ∧ q_load st true 4 v33 = some v34 ∧ q_load st false 1 v31 = some v32 ∧ q_load st true 4 v27 = some v28 ∧ q_load st false 1 v25 = some v26 ∧ (e_append st 4 56 v24 v29 (fun v30 st =>
   q_load st true 4 v37 = some v38 ∧ q_load st false 1 v35 = some v36 ∧ q_load st true 4 v33 = some v34 ∧ q_load st false 1 v31 = some v32 ∧ (callK prog n_impl_simpler_check [a0, v30, v34, v38] st (fun v39 st =>
   retR R (.tup []) st) (panR R))))) (panR R))
   (qb (q_load st true 4 v6) fun v42 =>
   callK prog n_impl_simpler_typeOf [a0, a1, v42] st (fun v43 st =>
   e_alloc st [.int .i64 0, .int .i64 0, .str [], .sl 0 true []] fun v8 st =>
   e_store st 4 v8 v43 fun st =>
   qb (q_fa 3 v6) fun v44 =>
   qb (q_load st false 1 v44) fun v45 =>
   qb (q_len v45) fun v46 =>
   hJ (fun ls_1 st =>
    qb (q_fa 0 v8) fun v69 =>
    qb (q_load st false 1 v69) fun v70 =>
    qb (q_bin .eql v70 (.int .i64 10)) fun v71 =>
    cb v71 fun b_2 => br b_2
     (callK prog n_impl_stop [(.int .i64 8), (.int .i64 0)] st (fun v72 st =>
     retR R (.tup []) st) (panR R))
     (qb (q_load st true 4 v7) fun v74 =>
     qb (q_load st true 4 v8) fun v75 =>
     callK prog n_impl_same [v74, v75] st (fun v76 st =>
     qb (q_un .not v76) fun v77 =>
     cb v77 fun b_3 => br b_3
      (callK prog n_impl_stop [(.int .i64 10), (.int .i64 0)] st (fun v78 st =>
      retR R (.tup []) st) (panR R))
      (retR R (.tup []) st)) (panR R)))
    (fun k_1 =>
   hFix (fun ls_2 st X =>
    qb (q_bin .lss (ls_2.getD 0 .junk) v46) fun v48 =>
    cb v48 fun b_4 => br b_4
     (qb (q_ia 4 v45 (ls_2.getD 0 .junk)) fun v49 =>
     qb (q_load st true 4 v49) fun v50 =>
     e_alloc st [.int .i64 0, .int .i64 0, .str [], .sl 0 true []] fun v10 st =>
     e_store st 4 v10 v50 fun st =>
     qb (q_fa 0 v8) fun v51 =>
     qb (q_load st false 1 v51) fun v52 =>
     qb (q_bin .neq v52 (.int .i64 10)) fun v53 =>
     hJ (fun ls_3 st =>
      qb (q_load st true 4 v10) fun v57 =>
      qb (q_fa 3 v8) fun v58 =>
      qb (q_load st false 1 v58) fun v59 =>
      qb (q_ia 4 v59 (.int .i64 0)) fun v60 =>
      qb (q_load st true 4 v60) fun v61 =>
      callK prog n_impl_simpler_check [a0, a1, v57, v61] st (fun v62 st =>
      qb (q_fa 3 v8) fun v63 =>
      qb (q_load st false 1 v63) fun v64 =>
      qb (q_ia 4 v64 (.int .i64 1)) fun v65 =>
      qb (q_load st true 4 v65) fun v66 =>
      e_store st 4 v8 v66 fun st =>
      qb (q_bin .add (ls_2.getD 0 .junk) (.int .i64 1)) fun v67 =>
      X [v67] st) (panR R))
      (fun k_2 =>
     cb v53 fun b_5 => br b_5
      (callK prog n_impl_stop [(.int .i64 8), (.int .i64 0)] st (fun v54 st =>
      k_2 [] st) (panR R))
      (k_2 [] st)))
     (k_1 [] st))
    [(.int .i64 0)] st)) (panR R)))
  (fun k =>
 cb v17 fun b => br b
  (callK prog n_impl_stop [(.int .i64 9), (.int .i64 0)] st (fun v18 st =>
  k [] st) (panR R))
  (k [] st))
theorem e_impl_simpler_check : Enters prog n_impl_simpler_check := ⟨Go.Proofs.Tryd.f32, by kernel_rfl, by kernel_rfl, by kernel_rfl⟩
theorem c_impl_simpler_check {a0 a1 a2 a3 : PV} {st : St} {R : Res → St → Prop} (h : b_impl_simpler_check a0 a1 a2 a3 st R) : HCalls prog n_impl_simpler_check [a0, a1, a2, a3] st R :=
 hcalls_of_func tyOK mixed (fn := Go.Proofs.Tryd.f32) (by kernel_rfl) (by kernel_rfl) (by kernel_rfl) (ann := [(28, [47]), (3, []), (10, []), (42, [])])
  (show hFunc prog TT [(28, [47]), (3, []), (10, []), (42, [])] Go.Proofs.Tryd.f32 [a0, a1, a2, a3] st R from (show hFunc prog TT [(28, [47]), (3, []), (10, []), (42, [])] Go.Proofs.Tryd.f32 [a0, a1, a2, a3] st R = b_impl_simpler_check a0 a1 a2 a3 st R by kernel_rfl) ▸ h)
def b_slices_Clip_impl_Tree_impl_Tree (a0 : PV) (st : St) (R : Res → St → Prop) : Prop :=
 qb (q_len a0) fun v5 =>
 qb (q_len a0) fun v7 =>
 qb (q_sliceE 4 a0 none (some v5) (some v7)) fun v8 =>
 retR R v8 st
theorem e_slices_Clip_impl_Tree_impl_Tree : Enters prog n_slices_Clip_impl_Tree_impl_Tree := ⟨Go.Proofs.Tryd.f33, by kernel_rfl, by kernel_rfl, by kernel_rfl⟩
theorem c_slices_Clip_impl_Tree_impl_Tree {a0 : PV} {st : St} {R : Res → St → Prop} (h : b_slices_Clip_impl_Tree_impl_Tree a0 st R) : HCalls prog n_slices_Clip_impl_Tree_impl_Tree [a0] st R :=
 hcalls_of_func tyOK mixed (fn := Go.Proofs.Tryd.f33) (by kernel_rfl) (by kernel_rfl) (by kernel_rfl) (ann := [])
  (show hFunc prog TT [] Go.Proofs.Tryd.f33 [a0] st R from (show hFunc prog TT [] Go.Proofs.Tryd.f33 [a0] st R = b_slices_Clip_impl_Tree_impl_Tree a0 st R by kernel_rfl) ▸ h)
def b_laws_eqTyped (a0 a1 : PV) (st : St) (R : Res → St → Prop) : Prop :=
 e_box st a0 fun v2 st =>
 e_box st a1 fun v3 st =>
 qb (q_fa 0 v2) fun v5 =>
 qb (q_load st false 1 v5) fun v6 =>
 qb (q_fa 0 v3) fun v7 =>
 qb (q_load st false 1 v7) fun v8 =>
 qb (q_bin .neq v6 v8) fun v9 =>
 cb v9 fun b => br b
  (retR R (.bool false) st)
  (qb (q_fa 1 v2) fun v10 =>
  qb (q_load st true 4 v10) fun v11 =>
  qb (q_fa 1 v3) fun v12 =>
  qb (q_load st true 4 v12) fun v13 =>
  callK prog n_laws_eqTree [v11, v13] st (fun v14 st =>
  qb (q_un .not v14) fun v15 =>
  cb v15 fun b_1 => br b_1
   (retR R (.bool false) st)
   (retR R (.bool true) st)) (panR R))
theorem e_laws_eqTyped : Enters prog n_laws_eqTyped := ⟨Go.Proofs.Tryd.f34, by kernel_rfl, by kernel_rfl, by kernel_rfl⟩
theorem c_laws_eqTyped {a0 a1 : PV} {st : St} {R : Res → St → Prop} (h : b_laws_eqTyped a0 a1 st R) : HCalls prog n_laws_eqTyped [a0, a1] st R :=
 hcalls_of_func tyOK mixed (fn := Go.Proofs.Tryd.f34) (by kernel_rfl) (by kernel_rfl) (by kernel_rfl) (ann := [])
  (show hFunc prog TT [] Go.Proofs.Tryd.f34 [a0, a1] st R from (show hFunc prog TT [] Go.Proofs.Tryd.f34 [a0, a1] st R = b_laws_eqTyped a0 a1 st R by kernel_rfl) ▸ h)
def b_spec_l06Pattern (a0 a1 : PV) (st : St) (R : Res → St → Prop) : Prop :=
 e_box st a1 fun v3 st =>
 qb (q_fa 0 v3) fun v8 =>
 qb (q_load st false 1 v8) fun v9 =>
 qb (q_bin .eql v9 (.int .i64 7)) fun v10 =>
 cb v10 fun b => br b
  (qb (q_fa 1 v3) fun v11 =>
  qb (q_load st false 1 v11) fun v12 =>
  qb (q_len a0) fun v14 =>
  qb (q_bin .geq v12 v14) fun v15 =>
  cb v15 fun b_1 => br b_1
   (retR R (.bool false) st)
   (qb (q_fa 3 v3) fun v17 =>
   qb (q_load st false 1 v17) fun v18 =>
   qb (q_fa 1 v3) fun v20 =>
   qb (q_load st false 1 v20) fun v21 =>
   qb (q_ia 4 a0 v21) fun v22 =>
   qb (q_load st true 4 v22) fun v23 =>
   callK prog n_spec_l06Args [v23] st (fun v24 st =>
   q_load st false 1 v17 = some v18 ∧ (callK prog n_spec_l06Vars [v18, v24] st (fun v25 st =>
   qb (q_ex v25 0) fun v26 =>
   qb (q_ex v25 1) fun v27 =>
   retR R v27 st) (panR R))) (panR R)))
  (hFix (fun ls st X =>
   qb (q_fa 3 v3) fun v30 =>
   qb (q_load st false 1 v30) fun v31 =>
   qb (q_len v31) fun v32 =>
   qb (q_bin .lss (ls.getD 0 .junk) v32) fun v33 =>
   cb v33 fun b_2 => br b_2
    (qb (q_fa 3 v3) fun v37 =>
    qb (q_load st false 1 v37) fun v38 =>
    qb (q_ia 4 v38 (ls.getD 0 .junk)) fun v40 =>
    qb (q_load st true 4 v40) fun v41 =>
    callK prog n_spec_l06Pattern [a0, v41] st (fun v42 st =>
    qb (q_un .not v42) fun v43 =>
    cb v43 fun b_3 => br b_3
     (retR R (.bool false) st)
     (qb (q_bin .add (ls.getD 0 .junk) (.int .i64 1)) fun v35 =>
     X [v35] st)) (panR R))
    (retR R (.bool true) st))
   [(.int .i64 0)] st)
theorem e_spec_l06Pattern : Enters prog n_spec_l06Pattern := ⟨Go.Proofs.Tryd.f35, by kernel_rfl, by kernel_rfl, by kernel_rfl⟩
theorem c_spec_l06Pattern {a0 a1 : PV} {st : St} {R : Res → St → Prop} (h : b_spec_l06Pattern a0 a1 st R) : HCalls prog n_spec_l06Pattern [a0, a1] st R :=
 hcalls_of_func tyOK mixed (fn := Go.Proofs.Tryd.f35) (by kernel_rfl) (by kernel_rfl) (by kernel_rfl) (ann := [(28, [7])])
  (show hFunc prog TT [(28, [7])] Go.Proofs.Tryd.f35 [a0, a1] st R from (show hFunc prog TT [(28, [7])] Go.Proofs.Tryd.f35 [a0, a1] st R = b_spec_l06Pattern a0 a1 st R by kernel_rfl) ▸ h)
def b_impl_TermOK (a0 : PV) (st : St) (R : Res → St → Prop) : Prop :=
 e_box st a0 fun v1 st =>
 qb (q_load st true 4 v1) fun v4 =>
 callK prog n_impl_fresh [] st (fun v3 st =>
 q_load st true 4 v1 = some v4 ∧ (callK prog n_impl_looker_term [v3, v4] st (fun v5 st =>
 retR R v5 st) (panR R))) (panR R)
theorem e_impl_TermOK : Enters prog n_impl_TermOK := ⟨Go.Proofs.Tryd.f36, by kernel_rfl, by kernel_rfl, by kernel_rfl⟩
theorem c_impl_TermOK {a0 : PV} {st : St} {R : Res → St → Prop} (h : b_impl_TermOK a0 st R) : HCalls prog n_impl_TermOK [a0] st R :=
 hcalls_of_func tyOK mixed (fn := Go.Proofs.Tryd.f36) (by kernel_rfl) (by kernel_rfl) (by kernel_rfl) (ann := [])
  (show hFunc prog TT [] Go.Proofs.Tryd.f36 [a0] st R from (show hFunc prog TT [] Go.Proofs.Tryd.f36 [a0] st R = b_impl_TermOK a0 st R by kernel_rfl) ▸ h)
def b_impl_patterns (a0 a1 : PV) (st : St) (R : Res → St → Prop) : Prop :=
 e_box st a0 fun v2 st =>
 e_box st a1 fun v3 st =>
 callK prog n_impl_Tree_each [v3, (.int .i64 0), (.fn (.func n_impl_patterns_1) [] [v2])] st (fun v6 st =>
 qb (q_un .not v6) fun v7 =>
 retR R v7 st) (panR R)
theorem e_impl_patterns : Enters prog n_impl_patterns := ⟨Go.Proofs.Tryd.f37, by kernel_rfl, by kernel_rfl, by kernel_rfl⟩
theorem c_impl_patterns {a0 a1 : PV} {st : St} {R : Res → St → Prop} (h : b_impl_patterns a0 a1 st R) : HCalls prog n_impl_patterns [a0, a1] st R :=
 hcalls_of_func tyOK mixed (fn := Go.Proofs.Tryd.f37) (by kernel_rfl) (by kernel_rfl) (by kernel_rfl) (ann := [])
  (show hFunc prog TT [] Go.Proofs.Tryd.f37 [a0, a1] st R from (show hFunc prog TT [] Go.Proofs.Tryd.f37 [a0, a1] st R = b_impl_patterns a0 a1 st R by kernel_rfl) ▸ h)
def b_spec_NameOK (a0 : PV) (st : St) (R : Res → St → Prop) : Prop :=
 callK prog n_spec_l00Word [a0] st (fun v5 st =>
 qb (q_un .not v5) fun v6 =>
 cb v6 fun b => br b
  (retR R (.bool false) st)
  (qb (q_bin .eql a0 (.str [116, 121, 112, 101])) fun v9 =>
  cb v9 fun b_1 => br b_1
   (retR R (.bool false) st)
   (qb (q_bin .eql a0 (.str [95])) fun v13 =>
   cb v13 fun b_2 => br b_2
    (retR R (.bool false) st)
    (hJ (fun ls st =>
     qb (q_ix a0 (.int .i64 0)) fun v32 =>
     qb (q_bin .neq v32 (.int .u8 120)) fun v33 =>
     cb v33 fun b_3 => br b_3
      (retR R (.bool true) st)
      (qb (q_lenS a0) fun v36 =>
      qb (q_bin .eql v36 (.int .i64 1)) fun v37 =>
      retR R v37 st))
     (fun k =>
    hFix (fun ls_1 st X =>
     qb (q_lenS a0) fun v17 =>
     qb (q_bin .lss (ls_1.getD 0 .junk) v17) fun v18 =>
     cb v18 fun b_4 => br b_4
      (qb (q_ix a0 (.int .i64 0)) fun v22 =>
      qb (q_bin .neq v22 (.int .u8 120)) fun v23 =>
      cb v23 fun b_5 => br b_5
       (retR R (.bool true) st)
       (qb (q_ix a0 (ls_1.getD 0 .junk)) fun v27 =>
       callK prog n_spec_l00Digit [v27] st (fun v28 st =>
       qb (q_un .not v28) fun v29 =>
       cb v29 fun b_6 => br b_6
        (retR R (.bool true) st)
        (qb (q_bin .add (ls_1.getD 0 .junk) (.int .i64 1)) fun v20 =>
        X [v20] st)) (panR R)))
      (k [] st))
     [(.int .i64 1)] st))))) (panR R)
theorem e_spec_NameOK : Enters prog n_spec_NameOK := ⟨Go.Proofs.Tryd.f38, by kernel_rfl, by kernel_rfl, by kernel_rfl⟩
theorem c_spec_NameOK {a0 : PV} {st : St} {R : Res → St → Prop} (h : b_spec_NameOK a0 st R) : HCalls prog n_spec_NameOK [a0] st R :=
 hcalls_of_func tyOK mixed (fn := Go.Proofs.Tryd.f38) (by kernel_rfl) (by kernel_rfl) (by kernel_rfl) (ann := [(16, [3]), (3, [])])
  (show hFunc prog TT [(16, [3]), (3, [])] Go.Proofs.Tryd.f38 [a0] st R from (show hFunc prog TT [(16, [3]), (3, [])] Go.Proofs.Tryd.f38 [a0] st R = b_spec_NameOK a0 st R by kernel_rfl) ▸ h)
def b_spec_l03Const (a0 a1 : PV) (st : St) (R : Res → St → Prop) : Prop :=
 hFix (fun ls st X =>
  qb (q_len a0) fun v8 =>
  qb (q_bin .lss (ls.getD 0 .junk) v8) fun v9 =>
  cb v9 fun b => br b
   (qb (q_ia 5 a0 (ls.getD 0 .junk)) fun v14 =>
   qb (q_fa 0 v14) fun v15 =>
   qb (q_load st false 1 v15) fun v16 =>
   qb (q_bin .eql v16 a1) fun v18 =>
   cb v18 fun b_1 => br b_1
    (retR R (ls.getD 0 .junk) st)
    (qb (q_bin .add (ls.getD 0 .junk) (.int .i64 1)) fun v11 =>
    X [v11] st))
   (retR R (.int .i64 (-1)) st))
  [(.int .i64 0)] st
theorem e_spec_l03Const : Enters prog n_spec_l03Const := ⟨Go.Proofs.Tryd.f39, by kernel_rfl, by kernel_rfl, by kernel_rfl⟩
theorem c_spec_l03Const {a0 a1 : PV} {st : St} {R : Res → St → Prop} (h : b_spec_l03Const a0 a1 st R) : HCalls prog n_spec_l03Const [a0, a1] st R :=
 hcalls_of_func tyOK mixed (fn := Go.Proofs.Tryd.f39) (by kernel_rfl) (by kernel_rfl) (by kernel_rfl) (ann := [(8, [5])])
  (show hFunc prog TT [(8, [5])] Go.Proofs.Tryd.f39 [a0, a1] st R from (show hFunc prog TT [(8, [5])] Go.Proofs.Tryd.f39 [a0, a1] st R = b_spec_l03Const a0 a1 st R by kernel_rfl) ▸ h)
def b_spec_l01Small (a0 : PV) (st : St) (R : Res → St → Prop) : Prop :=
 e_box st a0 fun v1 st =>
 qb (q_load st true 4 v1) fun v3 =>
 callK prog n_spec_l01Count [v3, (.int .i64 150)] st (fun v4 st =>
 qb (q_bin .geq v4 (.int .i64 0)) fun v5 =>
 retR R v5 st) (panR R)
theorem e_spec_l01Small : Enters prog n_spec_l01Small := ⟨Go.Proofs.Tryd.f40, by kernel_rfl, by kernel_rfl, by kernel_rfl⟩
theorem c_spec_l01Small {a0 : PV} {st : St} {R : Res → St → Prop} (h : b_spec_l01Small a0 st R) : HCalls prog n_spec_l01Small [a0] st R :=
 hcalls_of_func tyOK mixed (fn := Go.Proofs.Tryd.f40) (by kernel_rfl) (by kernel_rfl) (by kernel_rfl) (ann := [])
  (show hFunc prog TT [] Go.Proofs.Tryd.f40 [a0] st R from (show hFunc prog TT [] Go.Proofs.Tryd.f40 [a0] st R = b_spec_l01Small a0 st R by kernel_rfl) ▸ h)
def b_spec_l01Term (a0 a1 : PV) (st : St) (R : Res → St → Prop) : Prop :=
 e_box st a0 fun v2 st =>
 qb (q_fa 0 v2) fun v5 =>
 qb (q_load st false 1 v5) fun v6 =>
 qb (q_bin .eql v6 (.int .i64 4)) fun v8 =>
 cb v8 fun b => br b
  (qb (q_fa 1 v2) fun v9 =>
  qb (q_load st false 1 v9) fun v10 =>
  qb (q_bin .eql v10 (.int .i64 0)) fun v11 =>
  cb v11 fun b_1 => br b_1
   (qb (q_fa 2 v2) fun v13 =>
   qb (q_load st false 1 v13) fun v14 =>
   qb (q_bin .eql v14 (.str [])) fun v15 =>
   cb v15 fun b_2 => br b_2
    (qb (q_fa 3 v2) fun v18 =>
    qb (q_load st false 1 v18) fun v19 =>
    qb (q_len v19) fun v20 =>
    qb (q_bin .eql v20 (.int .i64 1)) fun v21 =>
    cb v21 fun b_3 => br b_3
     (qb (q_fa 3 v2) fun v24 =>
     qb (q_load st false 1 v24) fun v25 =>
     qb (q_ia 4 v25 (.int .i64 0)) fun v26 =>
     qb (q_load st true 4 v26) fun v27 =>
     callK prog n_spec_l01Term [v27, a1] st (fun v29 st =>
     retR R v29 st) (panR R))
     (retR R (.bool false) st))
    (retR R (.bool false) st))
   (retR R (.bool false) st))
  (qb (q_bin .eql v6 (.int .i64 5)) fun v32 =>
  hJ (fun ls st =>
   cb (ls.getD 0 .junk) fun b_5 => br b_5
    (qb (q_fa 1 v2) fun v34 =>
    qb (q_load st false 1 v34) fun v35 =>
    qb (q_bin .geq v35 (.int .i64 0)) fun v36 =>
    cb v36 fun b_6 => br b_6
     (qb (q_fa 1 v2) fun v38 =>
     qb (q_load st false 1 v38) fun v39 =>
     qb (q_bin .leq v39 (.int .i64 100)) fun v40 =>
     cb v40 fun b_7 => br b_7
      (qb (q_fa 2 v2) fun v43 =>
      qb (q_load st false 1 v43) fun v44 =>
      qb (q_bin .eql v44 (.str [])) fun v45 =>
      cb v45 fun b_8 => br b_8
       (qb (q_fa 3 v2) fun v48 =>
       qb (q_load st false 1 v48) fun v49 =>
       callK prog n_spec_l01Terms [v49, a1] st (fun v51 st =>
       retR R v51 st) (panR R))
       (retR R (.bool false) st))
      (retR R (.bool false) st))
     (retR R (.bool false) st))
    (qb (q_bin .eql v6 (.int .i64 6)) fun v54 =>
    cb v54 fun b_9 => br b_9
     (qb (q_fa 1 v2) fun v55 =>
     qb (q_load st false 1 v55) fun v56 =>
     qb (q_bin .eql v56 (.int .i64 0)) fun v57 =>
     cb v57 fun b_10 => br b_10
      (qb (q_fa 2 v2) fun v59 =>
      qb (q_load st false 1 v59) fun v60 =>
      callK prog n_spec_NameOK [v60] st (fun v61 st =>
      cb v61 fun b_11 => br b_11
       (qb (q_fa 3 v2) fun v64 =>
       qb (q_load st false 1 v64) fun v65 =>
       callK prog n_spec_l01Terms [v65, a1] st (fun v67 st =>
       retR R v67 st) (panR R))
       (retR R (.bool false) st)) (panR R))
      (retR R (.bool false) st))
     (retR R (.bool false) st)))
   (fun k =>
  cb v32 fun b_4 => br b_4
   (k [v32] st)
   (qb (q_bin .eql v6 (.int .i64 7)) fun v33 =>
   k [v33] st)))
theorem e_spec_l01Term : Enters prog n_spec_l01Term := ⟨Go.Proofs.Tryd.f41, by kernel_rfl, by kernel_rfl, by kernel_rfl⟩
theorem c_spec_l01Term {a0 a1 : PV} {st : St} {R : Res → St → Prop} (h : b_spec_l01Term a0 a1 st R) : HCalls prog n_spec_l01Term [a0, a1] st R :=
 hcalls_of_func tyOK mixed (fn := Go.Proofs.Tryd.f41) (by kernel_rfl) (by kernel_rfl) (by kernel_rfl) (ann := [(22, [31])])
  (show hFunc prog TT [(22, [31])] Go.Proofs.Tryd.f41 [a0, a1] st R from (show hFunc prog TT [(22, [31])] Go.Proofs.Tryd.f41 [a0, a1] st R = b_spec_l01Term a0 a1 st R by kernel_rfl) ▸ h)
def b_spec_l01Simple (a0 : PV) (st : St) (R : Res → St → Prop) : Prop :=
 e_box st a0 fun v1 st =>
 qb (q_fa 0 v1) fun v3 =>
 qb (q_load st false 1 v3) fun v4 =>
 qb (q_bin .eql v4 (.int .i64 10)) fun v6 =>
 cb v6 fun b => br b
  (qb (q_fa 1 v1) fun v7 =>
  qb (q_load st false 1 v7) fun v8 =>
  qb (q_bin .eql v8 (.int .i64 0)) fun v9 =>
  cb v9 fun b_1 => br b_1
   (qb (q_fa 2 v1) fun v11 =>
   qb (q_load st false 1 v11) fun v12 =>
   qb (q_bin .eql v12 (.str [])) fun v13 =>
   cb v13 fun b_2 => br b_2
    (qb (q_fa 3 v1) fun v16 =>
    qb (q_load st false 1 v16) fun v17 =>
    qb (q_len v17) fun v18 =>
    qb (q_bin .eql v18 (.int .i64 2)) fun v19 =>
    cb v19 fun b_3 => br b_3
     (qb (q_fa 3 v1) fun v22 =>
     qb (q_load st false 1 v22) fun v23 =>
     qb (q_ia 4 v23 (.int .i64 0)) fun v24 =>
     qb (q_load st true 4 v24) fun v25 =>
     callK prog n_spec_l01Simple [v25] st (fun v26 st =>
     cb v26 fun b_4 => br b_4
      (qb (q_fa 3 v1) fun v29 =>
      qb (q_load st false 1 v29) fun v30 =>
      qb (q_ia 4 v30 (.int .i64 1)) fun v31 =>
      qb (q_load st true 4 v31) fun v32 =>
      callK prog n_spec_l01Simple [v32] st (fun v33 st =>
      retR R v33 st) (panR R))
      (retR R (.bool false) st)) (panR R))
     (retR R (.bool false) st))
    (retR R (.bool false) st))
   (retR R (.bool false) st))
  (qb (q_bin .eql v4 (.int .i64 9)) fun v36 =>
  cb v36 fun b_5 => br b_5
   (qb (q_fa 1 v1) fun v37 =>
   qb (q_load st false 1 v37) fun v38 =>
   qb (q_bin .eql v38 (.int .i64 0)) fun v39 =>
   cb v39 fun b_6 => br b_6
    (qb (q_fa 2 v1) fun v41 =>
    qb (q_load st false 1 v41) fun v42 =>
    callK prog n_spec_NameOK [v42] st (fun v43 st =>
    cb v43 fun b_7 => br b_7
     (qb (q_fa 3 v1) fun v46 =>
     qb (q_load st false 1 v46) fun v47 =>
     qb (q_len v47) fun v48 =>
     qb (q_bin .eql v48 (.int .i64 0)) fun v49 =>
     retR R v49 st)
     (retR R (.bool false) st)) (panR R))
    (retR R (.bool false) st))
   (retR R (.bool false) st))
theorem e_spec_l01Simple : Enters prog n_spec_l01Simple := ⟨Go.Proofs.Tryd.f42, by kernel_rfl, by kernel_rfl, by kernel_rfl⟩
theorem c_spec_l01Simple {a0 : PV} {st : St} {R : Res → St → Prop} (h : b_spec_l01Simple a0 st R) : HCalls prog n_spec_l01Simple [a0] st R :=
 hcalls_of_func tyOK mixed (fn := Go.Proofs.Tryd.f42) (by kernel_rfl) (by kernel_rfl) (by kernel_rfl) (ann := [])
  (show hFunc prog TT [] Go.Proofs.Tryd.f42 [a0] st R from (show hFunc prog TT [] Go.Proofs.Tryd.f42 [a0] st R = b_spec_l01Simple a0 st R by kernel_rfl) ▸ h)
end Go.H.Tryd
