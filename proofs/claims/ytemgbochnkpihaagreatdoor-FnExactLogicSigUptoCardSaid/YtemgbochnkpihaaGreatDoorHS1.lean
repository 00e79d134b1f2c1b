/- Part of a proof that the program answers as the reference does: FS1. -/
import Derived.Test.YtemgbochnkpihaaGreatDoorHT
/- MADE BY PROGRAM (hgen.py): what the functions compute, over pure values. -/
set_option linter.unusedVariables false
set_option maxRecDepth 100000
namespace Go.H.Tryz
open Go Go.H
def b_laws_eqTree (a0 a1 : PV) (st : St) (R : Res → St → Prop) : Prop :=
 e_box st a0 fun v2 st =>
 e_box st a1 fun v3 st =>
 qb (q_fa 0 v2) fun v5 =>
 qb (q_load st false 1 v5) fun v6 =>
 qb (q_fa 0 v3) fun v7 =>
 qb (q_load st false 1 v7) fun v8 =>
 qb (q_bin .neq v6 v8) fun v9 =>
 cb v9 fun b => br b
  (retR R (.bool false) st)
  (qb (q_fa 1 v2) fun v10 =>
  qb (q_load st false 1 v10) fun v11 =>
  qb (q_fa 1 v3) fun v12 =>
  qb (q_load st false 1 v12) fun v13 =>
  qb (q_bin .neq v11 v13) fun v14 =>
  cb v14 fun b_1 => br b_1
   (retR R (.bool false) st)
   (qb (q_fa 2 v2) fun v15 =>
   qb (q_load st false 1 v15) fun v16 =>
   qb (q_fa 2 v3) fun v17 =>
   qb (q_load st false 1 v17) fun v18 =>
   qb (q_bin .neq v16 v18) fun v19 =>
   cb v19 fun b_2 => br b_2
    (retR R (.bool false) st)
    (qb (q_fa 3 v2) fun v20 =>
    qb (q_load st false 1 v20) fun v21 =>
    qb (q_fa 3 v3) fun v22 =>
    qb (q_load st false 1 v22) fun v23 =>
    callK prog n_laws_eqTreeS [v21, v23] st (fun v24 st =>
    qb (q_un .not v24) fun v25 =>
    cb v25 fun b_3 => br b_3
     (retR R (.bool false) st)
     (retR R (.bool true) st)) (panR R))))
theorem e_laws_eqTree : Enters prog n_laws_eqTree := ⟨Go.Proofs.Tryz.f27, by kernel_rfl, by kernel_rfl, by kernel_rfl⟩
theorem c_laws_eqTree {a0 a1 : PV} {st : St} {R : Res → St → Prop} (h : b_laws_eqTree a0 a1 st R) : HCalls prog n_laws_eqTree [a0, a1] st R :=
 hcalls_of_func tyOK mixed (fn := Go.Proofs.Tryz.f27) (by kernel_rfl) (by kernel_rfl) (by kernel_rfl) (ann := [])
  (show hFunc prog TT [] Go.Proofs.Tryz.f27 [a0, a1] st R from (show hFunc prog TT [] Go.Proofs.Tryz.f27 [a0, a1] st R = b_laws_eqTree a0 a1 st R by kernel_rfl) ▸ h)
def b_impl_ParseFamily (a0 a1 : PV) (st : St) (R : Res → St → Prop) : Prop :=
 e_alloc st [.int .i64 0, .int .i64 0, .str [], .sl 0 true []] fun v4 st =>
 callK prog n_impl_parsed [a0, a1, (.fn (.func n_impl_parser_family) [] [])] st (fun v9 st =>
 qb (q_ex v9 0) fun v10 =>
 qb (q_ex v9 1) fun v11 =>
 qb (q_ex v9 2) fun v12 =>
 e_store st 4 v4 v10 fun st =>
 qb (q_load st true 4 v4) fun r => retR R (.tup [r, v11, v12]) st) (panR R)
theorem c_impl_ParseFamily {a0 a1 : PV} {st : St} {R : Res → St → Prop} (h : b_impl_ParseFamily a0 a1 st R) : HCalls prog n_impl_ParseFamily [a0, a1] st R :=
 hcalls_of_func tyOK mixed (fn := Go.Proofs.Tryz.f33) (by kernel_rfl) (by kernel_rfl) (by kernel_rfl) (ann := [])
  (show hFunc prog TT [] Go.Proofs.Tryz.f33 [a0, a1] st R from (show hFunc prog TT [] Go.Proofs.Tryz.f33 [a0, a1] st R = b_impl_ParseFamily a0 a1 st R by kernel_rfl) ▸ h)
def b_laws_heldDeclS (a0 a1 : PV) (st : St) (R : Res → St → Prop) : Prop :=
 hFix (fun ls st X =>
  qb (q_len a0) fun v8 =>
  qb (q_bin .lss (ls.getD 1 .junk) v8) fun v9 =>
  cb v9 fun b => br b
   (qb (q_ia 6 a0 (ls.getD 1 .junk)) fun v14 =>
   qb (q_fa 0 v14) fun v15 =>
   qb (q_load st false 1 v15) fun v16 =>
   callK prog n_laws_markText [(ls.getD 0 .junk)] st (fun v18 st =>
   q_load st false 1 v15 = some v16 ∧ (qb (q_bin .neq v16 v18) fun v19 =>
   cb v19 fun b_1 => br b_1
    (retR R (.int .i64 (-1)) st)
    (qb (q_bin .add (ls.getD 0 .junk) (.int .i64 1)) fun v21 =>
    qb (q_ia 6 a0 (ls.getD 1 .junk)) fun v24 =>
    qb (q_fa 1 v24) fun v25 =>
    qb (q_load st false 1 v25) fun v26 =>
    qb (q_bin .rem v21 (.int .i64 3)) fun v28 =>
    qb (q_bin .eql v28 (.int .i64 0)) fun v29 =>
    qb (q_beq .neq v26 v29) fun v30 =>
    cb v30 fun b_2 => br b_2
     (retR R (.int .i64 (-1)) st)
     (qb (q_bin .add v21 (.int .i64 1)) fun v32 =>
     qb (q_ia 6 a0 (ls.getD 1 .junk)) fun v35 =>
     qb (q_fa 2 v35) fun v36 =>
     qb (q_fa 0 v36) fun v37 =>
     qb (q_load st false 1 v37) fun v38 =>
     qb (q_bin .neq v38 v32) fun v40 =>
     cb v40 fun b_3 => br b_3
      (retR R (.int .i64 (-1)) st)
      (qb (q_bin .add v32 (.int .i64 1)) fun v42 =>
      qb (q_ia 6 a0 (ls.getD 1 .junk)) fun v45 =>
      qb (q_fa 2 v45) fun v46 =>
      qb (q_fa 1 v46) fun v47 =>
      qb (q_load st false 1 v47) fun v48 =>
      qb (q_bin .neq v48 v42) fun v50 =>
      cb v50 fun b_4 => br b_4
       (retR R (.int .i64 (-1)) st)
       (qb (q_bin .add v42 (.int .i64 1)) fun v52 =>
       qb (q_ia 6 a0 (ls.getD 1 .junk)) fun v55 =>
       qb (q_fa 2 v55) fun v56 =>
       qb (q_fa 2 v56) fun v57 =>
       qb (q_load st false 1 v57) fun v58 =>
       callK prog n_laws_markText [v52] st (fun v60 st =>
       q_load st false 1 v57 = some v58 ∧ (qb (q_bin .neq v58 v60) fun v61 =>
       cb v61 fun b_5 => br b_5
        (retR R (.int .i64 (-1)) st)
        (qb (q_bin .add v52 (.int .i64 1)) fun v63 =>
        qb (q_ia 6 a0 (ls.getD 1 .junk)) fun v66 =>
        qb (q_fa 2 v66) fun v67 =>
        qb (q_fa 3 v67) fun v68 =>
        qb (q_load st false 1 v68) fun v69 =>
        callK prog n_laws_heldTreeS [v69, v63] st (fun v71 st =>
        qb (q_bin .lss v71 (.int .i64 0)) fun v73 =>
        cb v73 fun b_6 => br b_6
         (retR R (.int .i64 (-1)) st)
         (qb (q_bin .add (ls.getD 1 .junk) (.int .i64 1)) fun v11 =>
         X [v71, v11] st)) (panR R)))) (panR R))))))) (panR R))
   (retR R (ls.getD 0 .junk) st))
  [a1, (.int .i64 0)] st
theorem c_laws_heldDeclS {a0 a1 : PV} {st : St} {R : Res → St → Prop} (h : b_laws_heldDeclS a0 a1 st R) : HCalls prog n_laws_heldDeclS [a0, a1] st R :=
 hcalls_of_func tyOK mixed (fn := Go.Proofs.Tryz.f36) (by kernel_rfl) (by kernel_rfl) (by kernel_rfl) (ann := [(8, [1, 5])])
  (show hFunc prog TT [(8, [1, 5])] Go.Proofs.Tryz.f36 [a0, a1] st R from (show hFunc prog TT [(8, [1, 5])] Go.Proofs.Tryz.f36 [a0, a1] st R = b_laws_heldDeclS a0 a1 st R by kernel_rfl) ▸ h)
def b_spec_LogicSig (st : St) (R : Res → St → Prop) : Prop :=
 callK prog n_spec_l01Fam [(.str [111]), (.sl 0 true [])] st (fun v8 st =>
 e_alloc st [.int .i64 0, .int .i64 0, .str [], .sl 0 true []] fun v1 st =>
 e_store st 4 v1 v8 fun st =>
 callK prog n_spec_l01Var [(.int .i64 0), (.sl 0 true [])] st (fun v9 st =>
 e_alloc st [.int .i64 0, .int .i64 0, .str [], .sl 0 true []] fun v2 st =>
 e_store st 4 v2 v9 fun st =>
 callK prog n_spec_l01Var [(.int .i64 1), (.sl 0 true [])] st (fun v10 st =>
 e_alloc st [.int .i64 0, .int .i64 0, .str [], .sl 0 true []] fun v3 st =>
 e_store st 4 v3 v10 fun st =>
 callK prog n_spec_l01Var [(.int .i64 2), (.sl 0 true [])] st (fun v11 st =>
 e_alloc st [.int .i64 0, .int .i64 0, .str [], .sl 0 true []] fun v4 st =>
 e_store st 4 v4 v11 fun st =>
 callK prog n_spec_l01Var [(.int .i64 3), (.sl 0 true [])] st (fun v12 st =>
 e_alloc st [.int .i64 0, .int .i64 0, .str [], .sl 0 true []] fun v5 st =>
 e_store st 4 v5 v12 fun st =>
 callK prog n_spec_l01Type [] st (fun v13 st =>
 qb (q_struct [.str [], .bool false, .int .i64 0, .int .i64 0, .str [], .sl 0 true []] [(0, 1, (.str [111])), (1, 1, (.bool true)), (2, 4, v13)]) fun v14 =>
 qb (q_lit 6 1 0 [] [(0, v14)]) fun v15 =>
 hJ (fun ls st =>
  qb (q_load st true 4 v1) fun v29 =>
  qb (q_struct [.str [], .bool false, .int .i64 0, .int .i64 0, .str [], .sl 0 true []] [(0, 1, (.str [98, 111, 116])), (2, 4, v29)]) fun v30 =>
  qb (q_load st true 4 v1) fun v35 =>
  qb (q_load st true 4 v1) fun v39 =>
  qb (q_load st true 4 v1) fun v40 =>
  qb (q_load st true 4 v3) fun v41 =>
  qb (q_load st true 4 v3) fun v43 =>
  qb (q_load st true 4 v5) fun v45 =>
  qb (q_load st true 4 v4) fun v46 =>
  qb (q_lit 4 2 0 [] [(0, v45), (1, v46)]) fun v47 =>
  qb (q_load st true 4 v1) fun v55 =>
  qb (q_load st true 4 v1) fun v56 =>
  qb (q_load st true 4 v3) fun v57 =>
  qb (q_load st true 4 v2) fun v58 =>
  qb (q_lit 4 2 0 [] [(0, v57), (1, v58)]) fun v59 =>
  qb (q_load st true 4 v4) fun v62 =>
  qb (q_load st true 4 v1) fun v68 =>
  qb (q_load st true 4 v1) fun v69 =>
  qb (q_load st true 4 v3) fun v70 =>
  qb (q_load st true 4 v2) fun v71 =>
  qb (q_lit 4 2 0 [] [(0, v70), (1, v71)]) fun v72 =>
  qb (q_load st true 4 v3) fun v75 =>
  qb (q_load st true 4 v1) fun v81 =>
  qb (q_load st true 4 v1) fun v82 =>
  qb (q_load st true 4 v3) fun v83 =>
  qb (q_load st true 4 v3) fun v85 =>
  qb (q_load st true 4 v4) fun v88 =>
  qb (q_load st true 4 v3) fun v89 =>
  qb (q_lit 4 2 0 [] [(0, v88), (1, v89)]) fun v90 =>
  qb (q_load st true 4 v1) fun v97 =>
  qb (q_load st true 4 v1) fun v98 =>
  qb (q_load st true 4 v3) fun v99 =>
  qb (q_load st true 4 v2) fun v100 =>
  qb (q_lit 4 2 0 [] [(0, v99), (1, v100)]) fun v101 =>
  qb (q_load st true 4 v4) fun v104 =>
  qb (q_load st true 4 v4) fun v106 =>
  qb (q_load st true 4 v1) fun v113 =>
  qb (q_load st true 4 v3) fun v116 =>
  callK prog n_spec_func2 [(.str [111])] st (fun v31 st =>
  q_load st true 4 v3 = some v116 ∧ q_load st true 4 v1 = some v113 ∧ q_load st true 4 v4 = some v106 ∧ q_load st true 4 v4 = some v104 ∧ q_load st true 4 v2 = some v100 ∧ q_load st true 4 v3 = some v99 ∧ q_load st true 4 v1 = some v98 ∧ q_load st true 4 v1 = some v97 ∧ q_load st true 4 v3 = some v89 ∧ q_load st true 4 v4 = some v88 ∧ q_load st true 4 v3 = some v85 ∧ q_load st true 4 v3 = some v83 ∧ q_load st true 4 v1 = some v82 ∧ q_load st true 4 v1 = some v81 ∧ q_load st true 4 v3 = some v75 ∧ q_load st true 4 v2 = some v71 ∧ q_load st true 4 v3 = some v70 ∧ q_load st true 4 v1 = some v69 ∧ q_load st true 4 v1 = some v68 ∧ q_load st true 4 v4 = some v62 ∧ q_load st true 4 v2 = some v58 ∧ q_load st true 4 v3 = some v57 ∧ q_load st true 4 v1 = some v56 ∧ q_load st true 4 v1 = some v55 ∧ q_load st true 4 v4 = some v46 ∧ q_load st true 4 v5 = some v45 ∧ q_load st true 4 v3 = some v43 ∧ q_load st true 4 v3 = some v41 ∧ q_load st true 4 v1 = some v40 ∧ q_load st true 4 v1 = some v39 ∧ q_load st true 4 v1 = some v35 ∧ q_load st true 4 v1 = some v29 ∧ (qb (q_struct [.str [], .bool false, .int .i64 0, .int .i64 0, .str [], .sl 0 true []] [(0, 1, (.str [97, 110, 100])), (2, 4, v31)]) fun v32 =>
  callK prog n_spec_func2 [(.str [111])] st (fun v33 st =>
  q_load st true 4 v3 = some v116 ∧ q_load st true 4 v1 = some v113 ∧ q_load st true 4 v4 = some v106 ∧ q_load st true 4 v4 = some v104 ∧ q_load st true 4 v2 = some v100 ∧ q_load st true 4 v3 = some v99 ∧ q_load st true 4 v1 = some v98 ∧ q_load st true 4 v1 = some v97 ∧ q_load st true 4 v3 = some v89 ∧ q_load st true 4 v4 = some v88 ∧ q_load st true 4 v3 = some v85 ∧ q_load st true 4 v3 = some v83 ∧ q_load st true 4 v1 = some v82 ∧ q_load st true 4 v1 = some v81 ∧ q_load st true 4 v3 = some v75 ∧ q_load st true 4 v2 = some v71 ∧ q_load st true 4 v3 = some v70 ∧ q_load st true 4 v1 = some v69 ∧ q_load st true 4 v1 = some v68 ∧ q_load st true 4 v4 = some v62 ∧ q_load st true 4 v2 = some v58 ∧ q_load st true 4 v3 = some v57 ∧ q_load st true 4 v1 = some v56 ∧ q_load st true 4 v1 = some v55 ∧ q_load st true 4 v4 = some v46 ∧ q_load st true 4 v5 = some v45 ∧ q_load st true 4 v3 = some v43 ∧ q_load st true 4 v3 = some v41 ∧ q_load st true 4 v1 = some v40 ∧ q_load st true 4 v1 = some v39 ∧ q_load st true 4 v1 = some v35 ∧ q_load st true 4 v1 = some v29 ∧ (qb (q_struct [.str [], .bool false, .int .i64 0, .int .i64 0, .str [], .sl 0 true []] [(0, 1, (.str [105, 109, 112])), (2, 4, v33)]) fun v34 =>
  callK prog n_spec_l01Type [] st (fun v36 st =>
  q_load st true 4 v3 = some v116 ∧ q_load st true 4 v1 = some v113 ∧ q_load st true 4 v4 = some v106 ∧ q_load st true 4 v4 = some v104 ∧ q_load st true 4 v2 = some v100 ∧ q_load st true 4 v3 = some v99 ∧ q_load st true 4 v1 = some v98 ∧ q_load st true 4 v1 = some v97 ∧ q_load st true 4 v3 = some v89 ∧ q_load st true 4 v4 = some v88 ∧ q_load st true 4 v3 = some v85 ∧ q_load st true 4 v3 = some v83 ∧ q_load st true 4 v1 = some v82 ∧ q_load st true 4 v1 = some v81 ∧ q_load st true 4 v3 = some v75 ∧ q_load st true 4 v2 = some v71 ∧ q_load st true 4 v3 = some v70 ∧ q_load st true 4 v1 = some v69 ∧ q_load st true 4 v1 = some v68 ∧ q_load st true 4 v4 = some v62 ∧ q_load st true 4 v2 = some v58 ∧ q_load st true 4 v3 = some v57 ∧ q_load st true 4 v1 = some v56 ∧ q_load st true 4 v1 = some v55 ∧ q_load st true 4 v4 = some v46 ∧ q_load st true 4 v5 = some v45 ∧ q_load st true 4 v3 = some v43 ∧ q_load st true 4 v3 = some v41 ∧ q_load st true 4 v1 = some v40 ∧ q_load st true 4 v1 = some v39 ∧ q_load st true 4 v1 = some v35 ∧ q_load st true 4 v1 = some v29 ∧ (callK prog n_spec_l01Pi [v35, v36] st (fun v37 st =>
  q_load st true 4 v3 = some v116 ∧ q_load st true 4 v1 = some v113 ∧ q_load st true 4 v4 = some v106 ∧ q_load st true 4 v4 = some v104 ∧ q_load st true 4 v2 = some v100 ∧ q_load st true 4 v3 = some v99 ∧ q_load st true 4 v1 = some v98 ∧ q_load st true 4 v1 = some v97 ∧ q_load st true 4 v3 = some v89 ∧ q_load st true 4 v4 = some v88 ∧ q_load st true 4 v3 = some v85 ∧ q_load st true 4 v3 = some v83 ∧ q_load st true 4 v1 = some v82 ∧ q_load st true 4 v1 = some v81 ∧ q_load st true 4 v3 = some v75 ∧ q_load st true 4 v2 = some v71 ∧ q_load st true 4 v3 = some v70 ∧ q_load st true 4 v1 = some v69 ∧ q_load st true 4 v1 = some v68 ∧ q_load st true 4 v4 = some v62 ∧ q_load st true 4 v2 = some v58 ∧ q_load st true 4 v3 = some v57 ∧ q_load st true 4 v1 = some v56 ∧ q_load st true 4 v1 = some v55 ∧ q_load st true 4 v4 = some v46 ∧ q_load st true 4 v5 = some v45 ∧ q_load st true 4 v3 = some v43 ∧ q_load st true 4 v3 = some v41 ∧ q_load st true 4 v1 = some v40 ∧ q_load st true 4 v1 = some v39 ∧ q_load st true 4 v1 = some v29 ∧ (qb (q_struct [.str [], .bool false, .int .i64 0, .int .i64 0, .str [], .sl 0 true []] [(0, 1, (.str [112, 102])), (1, 1, (.bool true)), (2, 4, v37)]) fun v38 =>
  callK prog n_spec_l08Pf [v41] st (fun v42 st =>
  q_load st true 4 v3 = some v116 ∧ q_load st true 4 v1 = some v113 ∧ q_load st true 4 v4 = some v106 ∧ q_load st true 4 v4 = some v104 ∧ q_load st true 4 v2 = some v100 ∧ q_load st true 4 v3 = some v99 ∧ q_load st true 4 v1 = some v98 ∧ q_load st true 4 v1 = some v97 ∧ q_load st true 4 v3 = some v89 ∧ q_load st true 4 v4 = some v88 ∧ q_load st true 4 v3 = some v85 ∧ q_load st true 4 v3 = some v83 ∧ q_load st true 4 v1 = some v82 ∧ q_load st true 4 v1 = some v81 ∧ q_load st true 4 v3 = some v75 ∧ q_load st true 4 v2 = some v71 ∧ q_load st true 4 v3 = some v70 ∧ q_load st true 4 v1 = some v69 ∧ q_load st true 4 v1 = some v68 ∧ q_load st true 4 v4 = some v62 ∧ q_load st true 4 v2 = some v58 ∧ q_load st true 4 v3 = some v57 ∧ q_load st true 4 v1 = some v56 ∧ q_load st true 4 v1 = some v55 ∧ q_load st true 4 v4 = some v46 ∧ q_load st true 4 v5 = some v45 ∧ q_load st true 4 v3 = some v43 ∧ q_load st true 4 v1 = some v40 ∧ q_load st true 4 v1 = some v39 ∧ q_load st true 4 v1 = some v29 ∧ (callK prog n_spec_l08Pf [v43] st (fun v44 st =>
  q_load st true 4 v3 = some v116 ∧ q_load st true 4 v1 = some v113 ∧ q_load st true 4 v4 = some v106 ∧ q_load st true 4 v4 = some v104 ∧ q_load st true 4 v2 = some v100 ∧ q_load st true 4 v3 = some v99 ∧ q_load st true 4 v1 = some v98 ∧ q_load st true 4 v1 = some v97 ∧ q_load st true 4 v3 = some v89 ∧ q_load st true 4 v4 = some v88 ∧ q_load st true 4 v3 = some v85 ∧ q_load st true 4 v3 = some v83 ∧ q_load st true 4 v1 = some v82 ∧ q_load st true 4 v1 = some v81 ∧ q_load st true 4 v3 = some v75 ∧ q_load st true 4 v2 = some v71 ∧ q_load st true 4 v3 = some v70 ∧ q_load st true 4 v1 = some v69 ∧ q_load st true 4 v1 = some v68 ∧ q_load st true 4 v4 = some v62 ∧ q_load st true 4 v2 = some v58 ∧ q_load st true 4 v3 = some v57 ∧ q_load st true 4 v1 = some v56 ∧ q_load st true 4 v1 = some v55 ∧ q_load st true 4 v4 = some v46 ∧ q_load st true 4 v5 = some v45 ∧ q_load st true 4 v1 = some v40 ∧ q_load st true 4 v1 = some v39 ∧ q_load st true 4 v1 = some v29 ∧ (callK prog n_spec_l04Neutral [(.str [97, 110, 100]), v47] st (fun v48 st =>
  q_load st true 4 v3 = some v116 ∧ q_load st true 4 v1 = some v113 ∧ q_load st true 4 v4 = some v106 ∧ q_load st true 4 v4 = some v104 ∧ q_load st true 4 v2 = some v100 ∧ q_load st true 4 v3 = some v99 ∧ q_load st true 4 v1 = some v98 ∧ q_load st true 4 v1 = some v97 ∧ q_load st true 4 v3 = some v89 ∧ q_load st true 4 v4 = some v88 ∧ q_load st true 4 v3 = some v85 ∧ q_load st true 4 v3 = some v83 ∧ q_load st true 4 v1 = some v82 ∧ q_load st true 4 v1 = some v81 ∧ q_load st true 4 v3 = some v75 ∧ q_load st true 4 v2 = some v71 ∧ q_load st true 4 v3 = some v70 ∧ q_load st true 4 v1 = some v69 ∧ q_load st true 4 v1 = some v68 ∧ q_load st true 4 v4 = some v62 ∧ q_load st true 4 v2 = some v58 ∧ q_load st true 4 v3 = some v57 ∧ q_load st true 4 v1 = some v56 ∧ q_load st true 4 v1 = some v55 ∧ q_load st true 4 v1 = some v40 ∧ q_load st true 4 v1 = some v39 ∧ q_load st true 4 v1 = some v29 ∧ (callK prog n_spec_l08Pf [v48] st (fun v49 st =>
  q_load st true 4 v3 = some v116 ∧ q_load st true 4 v1 = some v113 ∧ q_load st true 4 v4 = some v106 ∧ q_load st true 4 v4 = some v104 ∧ q_load st true 4 v2 = some v100 ∧ q_load st true 4 v3 = some v99 ∧ q_load st true 4 v1 = some v98 ∧ q_load st true 4 v1 = some v97 ∧ q_load st true 4 v3 = some v89 ∧ q_load st true 4 v4 = some v88 ∧ q_load st true 4 v3 = some v85 ∧ q_load st true 4 v3 = some v83 ∧ q_load st true 4 v1 = some v82 ∧ q_load st true 4 v1 = some v81 ∧ q_load st true 4 v3 = some v75 ∧ q_load st true 4 v2 = some v71 ∧ q_load st true 4 v3 = some v70 ∧ q_load st true 4 v1 = some v69 ∧ q_load st true 4 v1 = some v68 ∧ q_load st true 4 v4 = some v62 ∧ q_load st true 4 v2 = some v58 ∧ q_load st true 4 v3 = some v57 ∧ q_load st true 4 v1 = some v56 ∧ q_load st true 4 v1 = some v55 ∧ q_load st true 4 v1 = some v40 ∧ q_load st true 4 v1 = some v39 ∧ q_load st true 4 v1 = some v29 ∧ (callK prog n_spec_l01Pi [v44, v49] st (fun v50 st =>
  q_load st true 4 v3 = some v116 ∧ q_load st true 4 v1 = some v113 ∧ q_load st true 4 v4 = some v106 ∧ q_load st true 4 v4 = some v104 ∧ q_load st true 4 v2 = some v100 ∧ q_load st true 4 v3 = some v99 ∧ q_load st true 4 v1 = some v98 ∧ q_load st true 4 v1 = some v97 ∧ q_load st true 4 v3 = some v89 ∧ q_load st true 4 v4 = some v88 ∧ q_load st true 4 v3 = some v85 ∧ q_load st true 4 v3 = some v83 ∧ q_load st true 4 v1 = some v82 ∧ q_load st true 4 v1 = some v81 ∧ q_load st true 4 v3 = some v75 ∧ q_load st true 4 v2 = some v71 ∧ q_load st true 4 v3 = some v70 ∧ q_load st true 4 v1 = some v69 ∧ q_load st true 4 v1 = some v68 ∧ q_load st true 4 v4 = some v62 ∧ q_load st true 4 v2 = some v58 ∧ q_load st true 4 v3 = some v57 ∧ q_load st true 4 v1 = some v56 ∧ q_load st true 4 v1 = some v55 ∧ q_load st true 4 v1 = some v40 ∧ q_load st true 4 v1 = some v39 ∧ q_load st true 4 v1 = some v29 ∧ (callK prog n_spec_l01Pi [v42, v50] st (fun v51 st =>
  q_load st true 4 v3 = some v116 ∧ q_load st true 4 v1 = some v113 ∧ q_load st true 4 v4 = some v106 ∧ q_load st true 4 v4 = some v104 ∧ q_load st true 4 v2 = some v100 ∧ q_load st true 4 v3 = some v99 ∧ q_load st true 4 v1 = some v98 ∧ q_load st true 4 v1 = some v97 ∧ q_load st true 4 v3 = some v89 ∧ q_load st true 4 v4 = some v88 ∧ q_load st true 4 v3 = some v85 ∧ q_load st true 4 v3 = some v83 ∧ q_load st true 4 v1 = some v82 ∧ q_load st true 4 v1 = some v81 ∧ q_load st true 4 v3 = some v75 ∧ q_load st true 4 v2 = some v71 ∧ q_load st true 4 v3 = some v70 ∧ q_load st true 4 v1 = some v69 ∧ q_load st true 4 v1 = some v68 ∧ q_load st true 4 v4 = some v62 ∧ q_load st true 4 v2 = some v58 ∧ q_load st true 4 v3 = some v57 ∧ q_load st true 4 v1 = some v56 ∧ q_load st true 4 v1 = some v55 ∧ q_load st true 4 v1 = some v40 ∧ q_load st true 4 v1 = some v39 ∧ q_load st true 4 v1 = some v29 ∧ (callK prog n_spec_l01Pi [v40, v51] st (fun v52 st =>
  q_load st true 4 v3 = some v116 ∧ q_load st true 4 v1 = some v113 ∧ q_load st true 4 v4 = some v106 ∧ q_load st true 4 v4 = some v104 ∧ q_load st true 4 v2 = some v100 ∧ q_load st true 4 v3 = some v99 ∧ q_load st true 4 v1 = some v98 ∧ q_load st true 4 v1 = some v97 ∧ q_load st true 4 v3 = some v89 ∧ q_load st true 4 v4 = some v88 ∧ q_load st true 4 v3 = some v85 ∧ q_load st true 4 v3 = some v83 ∧ q_load st true 4 v1 = some v82 ∧ q_load st true 4 v1 = some v81 ∧ q_load st true 4 v3 = some v75 ∧ q_load st true 4 v2 = some v71 ∧ q_load st true 4 v3 = some v70 ∧ q_load st true 4 v1 = some v69 ∧ q_load st true 4 v1 = some v68 ∧ q_load st true 4 v4 = some v62 ∧ q_load st true 4 v2 = some v58 ∧ q_load st true 4 v3 = some v57 ∧ q_load st true 4 v1 = some v56 ∧ q_load st true 4 v1 = some v55 ∧ q_load st true 4 v1 = some v39 ∧ q_load st true 4 v1 = some v29 ∧ (callK prog n_spec_l01Pi [v39, v52] st (fun v53 st =>
  q_load st true 4 v3 = some v116 ∧ q_load st true 4 v1 = some v113 ∧ q_load st true 4 v4 = some v106 ∧ q_load st true 4 v4 = some v104 ∧ q_load st true 4 v2 = some v100 ∧ q_load st true 4 v3 = some v99 ∧ q_load st true 4 v1 = some v98 ∧ q_load st true 4 v1 = some v97 ∧ q_load st true 4 v3 = some v89 ∧ q_load st true 4 v4 = some v88 ∧ q_load st true 4 v3 = some v85 ∧ q_load st true 4 v3 = some v83 ∧ q_load st true 4 v1 = some v82 ∧ q_load st true 4 v1 = some v81 ∧ q_load st true 4 v3 = some v75 ∧ q_load st true 4 v2 = some v71 ∧ q_load st true 4 v3 = some v70 ∧ q_load st true 4 v1 = some v69 ∧ q_load st true 4 v1 = some v68 ∧ q_load st true 4 v4 = some v62 ∧ q_load st true 4 v2 = some v58 ∧ q_load st true 4 v3 = some v57 ∧ q_load st true 4 v1 = some v56 ∧ q_load st true 4 v1 = some v55 ∧ q_load st true 4 v1 = some v29 ∧ (qb (q_struct [.str [], .bool false, .int .i64 0, .int .i64 0, .str [], .sl 0 true []] [(0, 1, (.str [97, 110, 100, 73])), (2, 4, v53)]) fun v54 =>
  callK prog n_spec_l04Neutral [(.str [97, 110, 100]), v59] st (fun v60 st =>
  q_load st true 4 v3 = some v116 ∧ q_load st true 4 v1 = some v113 ∧ q_load st true 4 v4 = some v106 ∧ q_load st true 4 v4 = some v104 ∧ q_load st true 4 v2 = some v100 ∧ q_load st true 4 v3 = some v99 ∧ q_load st true 4 v1 = some v98 ∧ q_load st true 4 v1 = some v97 ∧ q_load st true 4 v3 = some v89 ∧ q_load st true 4 v4 = some v88 ∧ q_load st true 4 v3 = some v85 ∧ q_load st true 4 v3 = some v83 ∧ q_load st true 4 v1 = some v82 ∧ q_load st true 4 v1 = some v81 ∧ q_load st true 4 v3 = some v75 ∧ q_load st true 4 v2 = some v71 ∧ q_load st true 4 v3 = some v70 ∧ q_load st true 4 v1 = some v69 ∧ q_load st true 4 v1 = some v68 ∧ q_load st true 4 v4 = some v62 ∧ q_load st true 4 v1 = some v56 ∧ q_load st true 4 v1 = some v55 ∧ q_load st true 4 v1 = some v29 ∧ (callK prog n_spec_l08Pf [v60] st (fun v61 st =>
  q_load st true 4 v3 = some v116 ∧ q_load st true 4 v1 = some v113 ∧ q_load st true 4 v4 = some v106 ∧ q_load st true 4 v4 = some v104 ∧ q_load st true 4 v2 = some v100 ∧ q_load st true 4 v3 = some v99 ∧ q_load st true 4 v1 = some v98 ∧ q_load st true 4 v1 = some v97 ∧ q_load st true 4 v3 = some v89 ∧ q_load st true 4 v4 = some v88 ∧ q_load st true 4 v3 = some v85 ∧ q_load st true 4 v3 = some v83 ∧ q_load st true 4 v1 = some v82 ∧ q_load st true 4 v1 = some v81 ∧ q_load st true 4 v3 = some v75 ∧ q_load st true 4 v2 = some v71 ∧ q_load st true 4 v3 = some v70 ∧ q_load st true 4 v1 = some v69 ∧ q_load st true 4 v1 = some v68 ∧ q_load st true 4 v4 = some v62 ∧ q_load st true 4 v1 = some v56 ∧ q_load st true 4 v1 = some v55 ∧ q_load st true 4 v1 = some v29 ∧ (callK prog n_spec_l08Pf [v62] st (fun v63 st =>
  q_load st true 4 v3 = some v116 ∧ q_load st true 4 v1 = some v113 ∧ q_load st true 4 v4 = some v106 ∧ q_load st true 4 v4 = some v104 ∧ q_load st true 4 v2 = some v100 ∧ q_load st true 4 v3 = some v99 ∧ q_load st true 4 v1 = some v98 ∧ q_load st true 4 v1 = some v97 ∧ q_load st true 4 v3 = some v89 ∧ q_load st true 4 v4 = some v88 ∧ q_load st true 4 v3 = some v85 ∧ q_load st true 4 v3 = some v83 ∧ q_load st true 4 v1 = some v82 ∧ q_load st true 4 v1 = some v81 ∧ q_load st true 4 v3 = some v75 ∧ q_load st true 4 v2 = some v71 ∧ q_load st true 4 v3 = some v70 ∧ q_load st true 4 v1 = some v69 ∧ q_load st true 4 v1 = some v68 ∧ q_load st true 4 v1 = some v56 ∧ q_load st true 4 v1 = some v55 ∧ q_load st true 4 v1 = some v29 ∧ (callK prog n_spec_l01Pi [v61, v63] st (fun v64 st =>
  q_load st true 4 v3 = some v116 ∧ q_load st true 4 v1 = some v113 ∧ q_load st true 4 v4 = some v106 ∧ q_load st true 4 v4 = some v104 ∧ q_load st true 4 v2 = some v100 ∧ q_load st true 4 v3 = some v99 ∧ q_load st true 4 v1 = some v98 ∧ q_load st true 4 v1 = some v97 ∧ q_load st true 4 v3 = some v89 ∧ q_load st true 4 v4 = some v88 ∧ q_load st true 4 v3 = some v85 ∧ q_load st true 4 v3 = some v83 ∧ q_load st true 4 v1 = some v82 ∧ q_load st true 4 v1 = some v81 ∧ q_load st true 4 v3 = some v75 ∧ q_load st true 4 v2 = some v71 ∧ q_load st true 4 v3 = some v70 ∧ q_load st true 4 v1 = some v69 ∧ q_load st true 4 v1 = some v68 ∧ q_load st true 4 v1 = some v56 ∧ q_load st true 4 v1 = some v55 ∧ q_load st true 4 v1 = some v29 ∧ (callK prog n_spec_l01Pi [v56, v64] st (fun v65 st =>
  q_load st true 4 v3 = some v116 ∧ q_load st true 4 v1 = some v113 ∧ q_load st true 4 v4 = some v106 ∧ q_load st true 4 v4 = some v104 ∧ q_load st true 4 v2 = some v100 ∧ q_load st true 4 v3 = some v99 ∧ q_load st true 4 v1 = some v98 ∧ q_load st true 4 v1 = some v97 ∧ q_load st true 4 v3 = some v89 ∧ q_load st true 4 v4 = some v88 ∧ q_load st true 4 v3 = some v85 ∧ q_load st true 4 v3 = some v83 ∧ q_load st true 4 v1 = some v82 ∧ q_load st true 4 v1 = some v81 ∧ q_load st true 4 v3 = some v75 ∧ q_load st true 4 v2 = some v71 ∧ q_load st true 4 v3 = some v70 ∧ q_load st true 4 v1 = some v69 ∧ q_load st true 4 v1 = some v68 ∧ q_load st true 4 v1 = some v55 ∧ q_load st true 4 v1 = some v29 ∧ (callK prog n_spec_l01Pi [v55, v65] st (fun v66 st =>
  q_load st true 4 v3 = some v116 ∧ q_load st true 4 v1 = some v113 ∧ q_load st true 4 v4 = some v106 ∧ q_load st true 4 v4 = some v104 ∧ q_load st true 4 v2 = some v100 ∧ q_load st true 4 v3 = some v99 ∧ q_load st true 4 v1 = some v98 ∧ q_load st true 4 v1 = some v97 ∧ q_load st true 4 v3 = some v89 ∧ q_load st true 4 v4 = some v88 ∧ q_load st true 4 v3 = some v85 ∧ q_load st true 4 v3 = some v83 ∧ q_load st true 4 v1 = some v82 ∧ q_load st true 4 v1 = some v81 ∧ q_load st true 4 v3 = some v75 ∧ q_load st true 4 v2 = some v71 ∧ q_load st true 4 v3 = some v70 ∧ q_load st true 4 v1 = some v69 ∧ q_load st true 4 v1 = some v68 ∧ q_load st true 4 v1 = some v29 ∧ (qb (q_struct [.str [], .bool false, .int .i64 0, .int .i64 0, .str [], .sl 0 true []] [(0, 1, (.str [102, 115, 116])), (2, 4, v66)]) fun v67 =>
  callK prog n_spec_l04Neutral [(.str [97, 110, 100]), v72] st (fun v73 st =>
  q_load st true 4 v3 = some v116 ∧ q_load st true 4 v1 = some v113 ∧ q_load st true 4 v4 = some v106 ∧ q_load st true 4 v4 = some v104 ∧ q_load st true 4 v2 = some v100 ∧ q_load st true 4 v3 = some v99 ∧ q_load st true 4 v1 = some v98 ∧ q_load st true 4 v1 = some v97 ∧ q_load st true 4 v3 = some v89 ∧ q_load st true 4 v4 = some v88 ∧ q_load st true 4 v3 = some v85 ∧ q_load st true 4 v3 = some v83 ∧ q_load st true 4 v1 = some v82 ∧ q_load st true 4 v1 = some v81 ∧ q_load st true 4 v3 = some v75 ∧ q_load st true 4 v1 = some v69 ∧ q_load st true 4 v1 = some v68 ∧ q_load st true 4 v1 = some v29 ∧ (callK prog n_spec_l08Pf [v73] st (fun v74 st =>
  q_load st true 4 v3 = some v116 ∧ q_load st true 4 v1 = some v113 ∧ q_load st true 4 v4 = some v106 ∧ q_load st true 4 v4 = some v104 ∧ q_load st true 4 v2 = some v100 ∧ q_load st true 4 v3 = some v99 ∧ q_load st true 4 v1 = some v98 ∧ q_load st true 4 v1 = some v97 ∧ q_load st true 4 v3 = some v89 ∧ q_load st true 4 v4 = some v88 ∧ q_load st true 4 v3 = some v85 ∧ q_load st true 4 v3 = some v83 ∧ q_load st true 4 v1 = some v82 ∧ q_load st true 4 v1 = some v81 ∧ q_load st true 4 v3 = some v75 ∧ q_load st true 4 v1 = some v69 ∧ q_load st true 4 v1 = some v68 ∧ q_load st true 4 v1 = some v29 ∧ (callK prog n_spec_l08Pf [v75] st (fun v76 st =>
  q_load st true 4 v3 = some v116 ∧ q_load st true 4 v1 = some v113 ∧ q_load st true 4 v4 = some v106 ∧ q_load st true 4 v4 = some v104 ∧ q_load st true 4 v2 = some v100 ∧ q_load st true 4 v3 = some v99 ∧ q_load st true 4 v1 = some v98 ∧ q_load st true 4 v1 = some v97 ∧ q_load st true 4 v3 = some v89 ∧ q_load st true 4 v4 = some v88 ∧ q_load st true 4 v3 = some v85 ∧ q_load st true 4 v3 = some v83 ∧ q_load st true 4 v1 = some v82 ∧ q_load st true 4 v1 = some v81 ∧ q_load st true 4 v1 = some v69 ∧ q_load st true 4 v1 = some v68 ∧ q_load st true 4 v1 = some v29 ∧ (callK prog n_spec_l01Pi [v74, v76] st (fun v77 st =>
  q_load st true 4 v3 = some v116 ∧ q_load st true 4 v1 = some v113 ∧ q_load st true 4 v4 = some v106 ∧ q_load st true 4 v4 = some v104 ∧ q_load st true 4 v2 = some v100 ∧ q_load st true 4 v3 = some v99 ∧ q_load st true 4 v1 = some v98 ∧ q_load st true 4 v1 = some v97 ∧ q_load st true 4 v3 = some v89 ∧ q_load st true 4 v4 = some v88 ∧ q_load st true 4 v3 = some v85 ∧ q_load st true 4 v3 = some v83 ∧ q_load st true 4 v1 = some v82 ∧ q_load st true 4 v1 = some v81 ∧ q_load st true 4 v1 = some v69 ∧ q_load st true 4 v1 = some v68 ∧ q_load st true 4 v1 = some v29 ∧ (callK prog n_spec_l01Pi [v69, v77] st (fun v78 st =>
  q_load st true 4 v3 = some v116 ∧ q_load st true 4 v1 = some v113 ∧ q_load st true 4 v4 = some v106 ∧ q_load st true 4 v4 = some v104 ∧ q_load st true 4 v2 = some v100 ∧ q_load st true 4 v3 = some v99 ∧ q_load st true 4 v1 = some v98 ∧ q_load st true 4 v1 = some v97 ∧ q_load st true 4 v3 = some v89 ∧ q_load st true 4 v4 = some v88 ∧ q_load st true 4 v3 = some v85 ∧ q_load st true 4 v3 = some v83 ∧ q_load st true 4 v1 = some v82 ∧ q_load st true 4 v1 = some v81 ∧ q_load st true 4 v1 = some v68 ∧ q_load st true 4 v1 = some v29 ∧ (callK prog n_spec_l01Pi [v68, v78] st (fun v79 st =>
  q_load st true 4 v3 = some v116 ∧ q_load st true 4 v1 = some v113 ∧ q_load st true 4 v4 = some v106 ∧ q_load st true 4 v4 = some v104 ∧ q_load st true 4 v2 = some v100 ∧ q_load st true 4 v3 = some v99 ∧ q_load st true 4 v1 = some v98 ∧ q_load st true 4 v1 = some v97 ∧ q_load st true 4 v3 = some v89 ∧ q_load st true 4 v4 = some v88 ∧ q_load st true 4 v3 = some v85 ∧ q_load st true 4 v3 = some v83 ∧ q_load st true 4 v1 = some v82 ∧ q_load st true 4 v1 = some v81 ∧ q_load st true 4 v1 = some v29 ∧ (qb (q_struct [.str [], .bool false, .int .i64 0, .int .i64 0, .str [], .sl 0 true []] [(0, 1, (.str [115, 110, 100])), (2, 4, v79)]) fun v80 =>
  callK prog n_spec_l08Pf [v83] st (fun v84 st =>
  q_load st true 4 v3 = some v116 ∧ q_load st true 4 v1 = some v113 ∧ q_load st true 4 v4 = some v106 ∧ q_load st true 4 v4 = some v104 ∧ q_load st true 4 v2 = some v100 ∧ q_load st true 4 v3 = some v99 ∧ q_load st true 4 v1 = some v98 ∧ q_load st true 4 v1 = some v97 ∧ q_load st true 4 v3 = some v89 ∧ q_load st true 4 v4 = some v88 ∧ q_load st true 4 v3 = some v85 ∧ q_load st true 4 v1 = some v82 ∧ q_load st true 4 v1 = some v81 ∧ q_load st true 4 v1 = some v29 ∧ (callK prog n_spec_l08Pf [v85] st (fun v86 st =>
  q_load st true 4 v3 = some v116 ∧ q_load st true 4 v1 = some v113 ∧ q_load st true 4 v4 = some v106 ∧ q_load st true 4 v4 = some v104 ∧ q_load st true 4 v2 = some v100 ∧ q_load st true 4 v3 = some v99 ∧ q_load st true 4 v1 = some v98 ∧ q_load st true 4 v1 = some v97 ∧ q_load st true 4 v3 = some v89 ∧ q_load st true 4 v4 = some v88 ∧ q_load st true 4 v1 = some v82 ∧ q_load st true 4 v1 = some v81 ∧ q_load st true 4 v1 = some v29 ∧ (callK prog n_spec_l01Pi [v84, v86] st (fun v87 st =>
  q_load st true 4 v3 = some v116 ∧ q_load st true 4 v1 = some v113 ∧ q_load st true 4 v4 = some v106 ∧ q_load st true 4 v4 = some v104 ∧ q_load st true 4 v2 = some v100 ∧ q_load st true 4 v3 = some v99 ∧ q_load st true 4 v1 = some v98 ∧ q_load st true 4 v1 = some v97 ∧ q_load st true 4 v3 = some v89 ∧ q_load st true 4 v4 = some v88 ∧ q_load st true 4 v1 = some v82 ∧ q_load st true 4 v1 = some v81 ∧ q_load st true 4 v1 = some v29 ∧ (callK prog n_spec_l04Neutral [(.str [105, 109, 112]), v90] st (fun v91 st =>
  q_load st true 4 v3 = some v116 ∧ q_load st true 4 v1 = some v113 ∧ q_load st true 4 v4 = some v106 ∧ q_load st true 4 v4 = some v104 ∧ q_load st true 4 v2 = some v100 ∧ q_load st true 4 v3 = some v99 ∧ q_load st true 4 v1 = some v98 ∧ q_load st true 4 v1 = some v97 ∧ q_load st true 4 v1 = some v82 ∧ q_load st true 4 v1 = some v81 ∧ q_load st true 4 v1 = some v29 ∧ (callK prog n_spec_l08Pf [v91] st (fun v92 st =>
  q_load st true 4 v3 = some v116 ∧ q_load st true 4 v1 = some v113 ∧ q_load st true 4 v4 = some v106 ∧ q_load st true 4 v4 = some v104 ∧ q_load st true 4 v2 = some v100 ∧ q_load st true 4 v3 = some v99 ∧ q_load st true 4 v1 = some v98 ∧ q_load st true 4 v1 = some v97 ∧ q_load st true 4 v1 = some v82 ∧ q_load st true 4 v1 = some v81 ∧ q_load st true 4 v1 = some v29 ∧ (callK prog n_spec_l01Pi [v87, v92] st (fun v93 st =>
  q_load st true 4 v3 = some v116 ∧ q_load st true 4 v1 = some v113 ∧ q_load st true 4 v4 = some v106 ∧ q_load st true 4 v4 = some v104 ∧ q_load st true 4 v2 = some v100 ∧ q_load st true 4 v3 = some v99 ∧ q_load st true 4 v1 = some v98 ∧ q_load st true 4 v1 = some v97 ∧ q_load st true 4 v1 = some v82 ∧ q_load st true 4 v1 = some v81 ∧ q_load st true 4 v1 = some v29 ∧ (callK prog n_spec_l01Pi [v82, v93] st (fun v94 st =>
  q_load st true 4 v3 = some v116 ∧ q_load st true 4 v1 = some v113 ∧ q_load st true 4 v4 = some v106 ∧ q_load st true 4 v4 = some v104 ∧ q_load st true 4 v2 = some v100 ∧ q_load st true 4 v3 = some v99 ∧ q_load st true 4 v1 = some v98 ∧ q_load st true 4 v1 = some v97 ∧ q_load st true 4 v1 = some v81 ∧ q_load st true 4 v1 = some v29 ∧ (callK prog n_spec_l01Pi [v81, v94] st (fun v95 st =>
  q_load st true 4 v3 = some v116 ∧ q_load st true 4 v1 = some v113 ∧ q_load st true 4 v4 = some v106 ∧ q_load st true 4 v4 = some v104 ∧ q_load st true 4 v2 = some v100 ∧ q_load st true 4 v3 = some v99 ∧ q_load st true 4 v1 = some v98 ∧ q_load st true 4 v1 = some v97 ∧ q_load st true 4 v1 = some v29 ∧ (qb (q_struct [.str [], .bool false, .int .i64 0, .int .i64 0, .str [], .sl 0 true []] [(0, 1, (.str [102, 117, 110, 73])), (2, 4, v95)]) fun v96 =>
  callK prog n_spec_l04Neutral [(.str [105, 109, 112]), v101] st (fun v102 st =>
  q_load st true 4 v3 = some v116 ∧ q_load st true 4 v1 = some v113 ∧ q_load st true 4 v4 = some v106 ∧ q_load st true 4 v4 = some v104 ∧ q_load st true 4 v1 = some v98 ∧ q_load st true 4 v1 = some v97 ∧ q_load st true 4 v1 = some v29 ∧ (callK prog n_spec_l08Pf [v102] st (fun v103 st =>
  q_load st true 4 v3 = some v116 ∧ q_load st true 4 v1 = some v113 ∧ q_load st true 4 v4 = some v106 ∧ q_load st true 4 v4 = some v104 ∧ q_load st true 4 v1 = some v98 ∧ q_load st true 4 v1 = some v97 ∧ q_load st true 4 v1 = some v29 ∧ (callK prog n_spec_l08Pf [v104] st (fun v105 st =>
  q_load st true 4 v3 = some v116 ∧ q_load st true 4 v1 = some v113 ∧ q_load st true 4 v4 = some v106 ∧ q_load st true 4 v1 = some v98 ∧ q_load st true 4 v1 = some v97 ∧ q_load st true 4 v1 = some v29 ∧ (callK prog n_spec_l08Pf [v106] st (fun v107 st =>
  q_load st true 4 v3 = some v116 ∧ q_load st true 4 v1 = some v113 ∧ q_load st true 4 v1 = some v98 ∧ q_load st true 4 v1 = some v97 ∧ q_load st true 4 v1 = some v29 ∧ (callK prog n_spec_l01Pi [v105, v107] st (fun v108 st =>
  q_load st true 4 v3 = some v116 ∧ q_load st true 4 v1 = some v113 ∧ q_load st true 4 v1 = some v98 ∧ q_load st true 4 v1 = some v97 ∧ q_load st true 4 v1 = some v29 ∧ (callK prog n_spec_l01Pi [v103, v108] st (fun v109 st =>
  q_load st true 4 v3 = some v116 ∧ q_load st true 4 v1 = some v113 ∧ q_load st true 4 v1 = some v98 ∧ q_load st true 4 v1 = some v97 ∧ q_load st true 4 v1 = some v29 ∧ (callK prog n_spec_l01Pi [v98, v109] st (fun v110 st =>
  q_load st true 4 v3 = some v116 ∧ q_load st true 4 v1 = some v113 ∧ q_load st true 4 v1 = some v97 ∧ q_load st true 4 v1 = some v29 ∧ (callK prog n_spec_l01Pi [v97, v110] st (fun v111 st =>
  q_load st true 4 v3 = some v116 ∧ q_load st true 4 v1 = some v113 ∧ q_load st true 4 v1 = some v29 ∧ (qb (q_struct [.str [], .bool false, .int .i64 0, .int .i64 0, .str [], .sl 0 true []] [(0, 1, (.str [117, 115, 101])), (2, 4, v111)]) fun v112 =>
  callK prog n_spec_l01Const [(.str [98, 111, 116]), (.sl 0 true [])] st (fun v114 st =>
  q_load st true 4 v3 = some v116 ∧ q_load st true 4 v1 = some v113 ∧ q_load st true 4 v1 = some v29 ∧ (callK prog n_spec_l08Pf [v114] st (fun v115 st =>
  q_load st true 4 v3 = some v116 ∧ q_load st true 4 v1 = some v113 ∧ q_load st true 4 v1 = some v29 ∧ (callK prog n_spec_l08Pf [v116] st (fun v117 st =>
  q_load st true 4 v1 = some v113 ∧ q_load st true 4 v1 = some v29 ∧ (callK prog n_spec_l01Pi [v115, v117] st (fun v118 st =>
  q_load st true 4 v1 = some v113 ∧ q_load st true 4 v1 = some v29 ∧ (callK prog n_spec_l01Pi [v113, v118] st (fun v119 st =>
  q_load st true 4 v1 = some v29 ∧ (qb (q_struct [.str [], .bool false, .int .i64 0, .int .i64 0, .str [], .sl 0 true []] [(0, 1, (.str [98, 111, 116, 69])), (2, 4, v119)]) fun v120 =>
  qb (q_lit 6 10 0 [] [(0, v30), (1, v32), (2, v34), (3, v38), (4, v54), (5, v67), (6, v80), (7, v96), (8, v112), (9, v120)]) fun v121 =>
  e_append st 6 80 (ls.getD 0 .junk) v121 (fun v122 st =>
  retR R v122 st))) (panR R))) (panR R))) (panR R))) (panR R))) (panR R))) (panR R))) (panR R))) (panR R))) (panR R))) (panR R))) (panR R))) (panR R))) (panR R))) (panR R))) (panR R))) (panR R))) (panR R))) (panR R))) (panR R))) (panR R))) (panR R))) (panR R))) (panR R))) (panR R))) (panR R))) (panR R))) (panR R))) (panR R))) (panR R))) (panR R))) (panR R))) (panR R))) (panR R))) (panR R))) (panR R))) (panR R))) (panR R))) (panR R))) (panR R))) (panR R))) (panR R))) (panR R))) (panR R))) (panR R))) (panR R))
  (fun k =>
 hFix (fun ls_1 st X =>
  qb (q_bin .lss (ls_1.getD 1 .junk) (.int .i64 6)) fun v17 =>
  cb v17 fun b => br b
   (qb (q_load st true 4 v1) fun v24 =>
   callK prog n_spec_l00Digits [(ls_1.getD 1 .junk)] st (fun v22 st =>
   q_load st true 4 v1 = some v24 ∧ (qb (q_bin .add (.str [112]) v22) fun v23 =>
   qb (q_struct [.str [], .bool false, .int .i64 0, .int .i64 0, .str [], .sl 0 true []] [(0, 1, v23), (2, 4, v24)]) fun v25 =>
   qb (q_lit 6 1 0 [] [(0, v25)]) fun v26 =>
   e_append st 6 80 (ls_1.getD 0 .junk) v26 (fun v27 st =>
   qb (q_bin .add (ls_1.getD 1 .junk) (.int .i64 1)) fun v19 =>
   X [v27, v19] st))) (panR R))
   (k [(ls_1.getD 0 .junk)] st))
  [v15, (.int .i64 0)] st)) (panR R)) (panR R)) (panR R)) (panR R)) (panR R)) (panR R)
theorem c_spec_LogicSig {st : St} {R : Res → St → Prop} (h : b_spec_LogicSig  st R) : HCalls prog n_spec_LogicSig [] st R :=
 hcalls_of_func tyOK mixed (fn := Go.Proofs.Tryz.f37) (by kernel_rfl) (by kernel_rfl) (by kernel_rfl) (ann := [(32, [6, 7]), (3, [6])])
  (show hFunc prog TT [(32, [6, 7]), (3, [6])] Go.Proofs.Tryz.f37 [] st R from (show hFunc prog TT [(32, [6, 7]), (3, [6])] Go.Proofs.Tryz.f37 [] st R = b_spec_LogicSig  st R by kernel_rfl) ▸ h)
def b_impl_LogicSig (st : St) (R : Res → St → Prop) : Prop :=
 callK prog n_impl_builtIn [(.str [111, 32, 58, 32, 116, 121, 112, 101, 10, 112, 48, 32, 58, 32, 111, 10, 112, 49, 32, 58, 32, 111, 10, 112, 50, 32, 58, 32, 111, 10, 112, 51, 32, 58, 32, 111, 10, 112, 52, 32, 58, 32, 111, 10, 112, 53, 32, 58, 32, 111, 10, 98, 111, 116, 32, 58, 32, 111, 10, 97, 110, 100, 32, 58, 32, 111, 32, 45, 62, 32, 111, 32, 45, 62, 32, 111, 10, 105, 109, 112, 32, 58, 32, 111, 32, 45, 62, 32, 111, 32, 45, 62, 32, 111, 10, 112, 102, 32, 58, 32, 111, 32, 45, 62, 32, 116, 121, 112, 101, 10, 97, 110, 100, 73, 32, 58, 32, 123, 120, 48, 58, 111, 125, 32, 123, 120, 49, 58, 111, 125, 32, 112, 102, 32, 120, 48, 32, 45, 62, 32, 112, 102, 32, 120, 49, 32, 45, 62, 32, 112, 102, 32, 40, 97, 110, 100, 32, 120, 48, 32, 120, 49, 41, 10, 102, 115, 116, 32, 58, 32, 123, 120, 48, 58, 111, 125, 32, 123, 120, 49, 58, 111, 125, 32, 112, 102, 32, 40, 97, 110, 100, 32, 120, 48, 32, 120, 49, 41, 32, 45, 62, 32, 112, 102, 32, 120, 48, 10, 115, 110, 100, 32, 58, 32, 123, 120, 48, 58, 111, 125, 32, 123, 120, 49, 58, 111, 125, 32, 112, 102, 32, 40, 97, 110, 100, 32, 120, 48, 32, 120, 49, 41, 32, 45, 62, 32, 112, 102, 32, 120, 49, 10, 102, 117, 110, 73, 32, 58, 32, 123, 120, 48, 58, 111, 125, 32, 123, 120, 49, 58, 111, 125, 32, 40, 112, 102, 32, 120, 48, 32, 45, 62, 32, 112, 102, 32, 120, 49, 41, 32, 45, 62, 32, 112, 102, 32, 40, 105, 109, 112, 32, 120, 48, 32, 120, 49, 41, 10, 117, 115, 101, 32, 58, 32, 123, 120, 48, 58, 111, 125, 32, 123, 120, 49, 58, 111, 125, 32, 112, 102, 32, 40, 105, 109, 112, 32, 120, 48, 32, 120, 49, 41, 32, 45, 62, 32, 112, 102, 32, 120, 48, 32, 45, 62, 32, 112, 102, 32, 120, 49, 10, 98, 111, 116, 69, 32, 58, 32, 123, 120, 48, 58, 111, 125, 32, 112, 102, 32, 98, 111, 116, 32, 45, 62, 32, 112, 102, 32, 120, 48, 10])] st (fun v1 st =>
 retR R v1 st) (panR R)
theorem c_impl_LogicSig {st : St} {R : Res → St → Prop} (h : b_impl_LogicSig  st R) : HCalls prog n_impl_LogicSig [] st R :=
 hcalls_of_func tyOK mixed (fn := Go.Proofs.Tryz.f38) (by kernel_rfl) (by kernel_rfl) (by kernel_rfl) (ann := [])
  (show hFunc prog TT [] Go.Proofs.Tryz.f38 [] st R from (show hFunc prog TT [] Go.Proofs.Tryz.f38 [] st R = b_impl_LogicSig  st R by kernel_rfl) ▸ h)
def b_impl_ReadSig (a0 : PV) (st : St) (R : Res → St → Prop) : Prop :=
 e_alloc st [.sl 0 true []] fun v2 st =>
 e_alloc st [.int .i64 0] fun v3 st =>
 e_alloc st [.int .i64 0] fun v4 st =>
 e_alloc st [.int .i64 0] fun v5 st =>
 callK prog n_impl_longText [a0] st (fun v11 st =>
 cb v11 fun b => br b
  (e_store st 1 v2 (.sl 0 true []) fun st =>
  e_store st 1 v3 (.int .i64 2) fun st =>
  e_store st 1 v4 (.int .i64 0) fun st =>
  e_store st 1 v5 (.int .i64 0) fun st =>
  qb (q_load st false 1 v2) fun r => qb (q_load st false 1 v3) fun r_1 => qb (q_load st false 1 v4) fun r_2 => qb (q_load st false 1 v5) fun r_3 => retR R (.tup [r, r_1, r_2, r_3]) st)
  (qb (q_lit 6 0 0 [] []) fun v12 =>
  e_alloc st [.sl 0 true []] fun v6 st =>
  e_alloc st [.int .i64 0] fun v7 st =>
  e_store st 1 v6 v12 fun st =>
  e_store st 1 v7 (.int .i64 0) fun st =>
  callK prog n_strings_Lines [a0] st (fun v14 st =>
  hRange prog v14 st (fun ar st B X => if ar.length = 1 then
   e_alloc st [.str []] fun v8 st =>
   e_store st 1 v8 (ar.getD 0 .junk) fun st =>
   B st fun st =>
   qb (q_load st false 1 v7) fun v16 =>
   qb (q_bin .add v16 (.int .i64 1)) fun v17 =>
   e_store st 1 v7 v17 fun st =>
   qb (q_load st false 1 v8) fun v18 =>
   callK prog n_strings_TrimSuffix [v18, (.str [10])] st (fun v19 st =>
   e_store st 1 v8 v19 fun st =>
   qb (q_load st false 1 v8) fun v20 =>
   callK prog n_impl_says [v20] st (fun v21 st =>
   qb (q_un .not v21) fun v22 =>
   cb v22 fun b_1 => br b_1
    (X .normal st)
    (qb (q_load st false 1 v8) fun v23 =>
    qb (q_lenS v23) fun v24 =>
    qb (q_bin .gtr v24 (.int .i64 4096)) fun v25 =>
    cb v25 fun b_2 => br b_2
     (qb (q_load st false 1 v7) fun v26 =>
     e_store st 1 v2 (.sl 0 true []) fun st =>
     q_load st false 1 v7 = some v26 ∧ (e_store st 1 v3 (.int .i64 11) fun st =>
     q_load st false 1 v7 = some v26 ∧ (e_store st 1 v4 v26 fun st =>
     e_store st 1 v5 (.int .i64 0) fun st =>
     X .ret st)))
     (callK prog n_impl_caught [(.fn (.func n_impl_ReadSig_1) [] [v6, v8])] st (fun v28 st =>
     e_alloc st [.int .i64 0, .int .i64 0] fun v9 st =>
     e_store st 2 v9 v28 fun st =>
     qb (q_fa 0 v9) fun v29 =>
     qb (q_load st false 1 v29) fun v30 =>
     qb (q_bin .neq v30 (.int .i64 0)) fun v31 =>
     cb v31 fun b_3 => br b_3
      (qb (q_fa 0 v9) fun v32 =>
      qb (q_load st false 1 v32) fun v33 =>
      qb (q_load st false 1 v7) fun v34 =>
      qb (q_fa 1 v9) fun v35 =>
      qb (q_load st false 1 v35) fun v36 =>
      e_store st 1 v2 (.sl 0 true []) fun st =>
      q_load st false 1 v35 = some v36 ∧ q_load st false 1 v7 = some v34 ∧ q_load st false 1 v32 = some v33 ∧ (e_store st 1 v3 v33 fun st =>
      q_load st false 1 v35 = some v36 ∧ q_load st false 1 v7 = some v34 ∧ (e_store st 1 v4 v34 fun st =>
      q_load st false 1 v35 = some v36 ∧ (e_store st 1 v5 v36 fun st =>
      X .ret st))))
      (X .normal st)) (fun p st => X (.pan p) st)))) (fun p st => X (.pan p) st)) (fun p st => X (.pan p) st)
   else False)
   (fun st =>
   qb (q_load st false 1 v6) fun v37 =>
   e_store st 1 v2 v37 fun st =>
   e_store st 1 v3 (.int .i64 0) fun st =>
   e_store st 1 v4 (.int .i64 0) fun st =>
   e_store st 1 v5 (.int .i64 0) fun st =>
   qb (q_load st false 1 v2) fun r_4 => qb (q_load st false 1 v3) fun r_5 => qb (q_load st false 1 v4) fun r_6 => qb (q_load st false 1 v5) fun r_7 => retR R (.tup [r_4, r_5, r_6, r_7]) st)
   [((.exit 1), fun st =>
   False), (.ret, fun st =>
   qb (q_load st false 1 v2) fun r_8 => qb (q_load st false 1 v3) fun r_9 => qb (q_load st false 1 v4) fun r_10 => qb (q_load st false 1 v5) fun r_11 => retR R (.tup [r_8, r_9, r_10, r_11]) st), (.ret, fun st =>
   qb (q_load st false 1 v2) fun r_12 => qb (q_load st false 1 v3) fun r_13 => qb (q_load st false 1 v4) fun r_14 => qb (q_load st false 1 v5) fun r_15 => retR R (.tup [r_12, r_13, r_14, r_15]) st)]) (panR R))) (panR R)
theorem c_impl_ReadSig {a0 : PV} {st : St} {R : Res → St → Prop} (h : b_impl_ReadSig a0 st R) : HCalls prog n_impl_ReadSig [a0] st R :=
 hcalls_of_func tyOK mixed (fn := Go.Proofs.Tryz.f40) (by kernel_rfl) (by kernel_rfl) (by kernel_rfl) (ann := [])
  (show hFunc prog TT [] Go.Proofs.Tryz.f40 [a0] st R from (show hFunc prog TT [] Go.Proofs.Tryz.f40 [a0] st R = b_impl_ReadSig a0 st R by kernel_rfl) ▸ h)
end Go.H.Tryz
