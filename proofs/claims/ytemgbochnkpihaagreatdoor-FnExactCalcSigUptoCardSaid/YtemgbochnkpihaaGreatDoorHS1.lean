/- Part of a proof that the program answers as the reference does: FS1. -/
import Derived.Test.YtemgbochnkpihaaGreatDoorHT
/- MADE BY PROGRAM (hgen.py): what the functions compute, over pure values. -/
set_option linter.unusedVariables false
set_option maxRecDepth 100000
namespace Go.H.Tryz
open Go Go.H
def b_laws_eqTree (a0 a1 : PV) (st : St) (R : Res → St → Prop) : Prop :=
 e_box st a0 fun v2 st =>
 e_box st a1 fun v3 st =>
 qb (q_fa 0 v2) fun v5 =>
 qb (q_load st false 1 v5) fun v6 =>
 qb (q_fa 0 v3) fun v7 =>
 qb (q_load st false 1 v7) fun v8 =>
 qb (q_bin .neq v6 v8) fun v9 =>
 cb v9 fun b => br b
  (retR R (.bool false) st)
  (qb (q_fa 1 v2) fun v10 =>
  qb (q_load st false 1 v10) fun v11 =>
  qb (q_fa 1 v3) fun v12 =>
  qb (q_load st false 1 v12) fun v13 =>
  qb (q_bin .neq v11 v13) fun v14 =>
  cb v14 fun b_1 => br b_1
   (retR R (.bool false) st)
   (qb (q_fa 2 v2) fun v15 =>
   qb (q_load st false 1 v15) fun v16 =>
   qb (q_fa 2 v3) fun v17 =>
   qb (q_load st false 1 v17) fun v18 =>
   qb (q_bin .neq v16 v18) fun v19 =>
   cb v19 fun b_2 => br b_2
    (retR R (.bool false) st)
    (qb (q_fa 3 v2) fun v20 =>
    qb (q_load st false 1 v20) fun v21 =>
    qb (q_fa 3 v3) fun v22 =>
    qb (q_load st false 1 v22) fun v23 =>
    callK prog n_laws_eqTreeS [v21, v23] st (fun v24 st =>
    qb (q_un .not v24) fun v25 =>
    cb v25 fun b_3 => br b_3
     (retR R (.bool false) st)
     (retR R (.bool true) st)) (panR R))))
theorem e_laws_eqTree : Enters prog n_laws_eqTree := ⟨Go.Proofs.Tryz.f27, by kernel_rfl, by kernel_rfl, by kernel_rfl⟩
theorem c_laws_eqTree {a0 a1 : PV} {st : St} {R : Res → St → Prop} (h : b_laws_eqTree a0 a1 st R) : HCalls prog n_laws_eqTree [a0, a1] st R :=
 hcalls_of_func tyOK mixed (fn := Go.Proofs.Tryz.f27) (by kernel_rfl) (by kernel_rfl) (by kernel_rfl) (ann := [])
  (show hFunc prog TT [] Go.Proofs.Tryz.f27 [a0, a1] st R from (show hFunc prog TT [] Go.Proofs.Tryz.f27 [a0, a1] st R = b_laws_eqTree a0 a1 st R by kernel_rfl) ▸ h)
def b_impl_ParseFamily (a0 a1 : PV) (st : St) (R : Res → St → Prop) : Prop :=
 e_alloc st [.int .i64 0, .int .i64 0, .str [], .sl 0 true []] fun v4 st =>
 callK prog n_impl_parsed [a0, a1, (.fn (.func n_impl_parser_family) [] [])] st (fun v9 st =>
 qb (q_ex v9 0) fun v10 =>
 qb (q_ex v9 1) fun v11 =>
 qb (q_ex v9 2) fun v12 =>
 e_store st 4 v4 v10 fun st =>
 qb (q_load st true 4 v4) fun r => retR R (.tup [r, v11, v12]) st) (panR R)
theorem c_impl_ParseFamily {a0 a1 : PV} {st : St} {R : Res → St → Prop} (h : b_impl_ParseFamily a0 a1 st R) : HCalls prog n_impl_ParseFamily [a0, a1] st R :=
 hcalls_of_func tyOK mixed (fn := Go.Proofs.Tryz.f33) (by kernel_rfl) (by kernel_rfl) (by kernel_rfl) (ann := [])
  (show hFunc prog TT [] Go.Proofs.Tryz.f33 [a0, a1] st R from (show hFunc prog TT [] Go.Proofs.Tryz.f33 [a0, a1] st R = b_impl_ParseFamily a0 a1 st R by kernel_rfl) ▸ h)
def b_spec_CalcSig (st : St) (R : Res → St → Prop) : Prop :=
 callK prog n_spec_l01Fam [(.str [116, 112]), (.sl 0 true [])] st (fun v9 st =>
 e_alloc st [.int .i64 0, .int .i64 0, .str [], .sl 0 true []] fun v1 st =>
 e_store st 4 v1 v9 fun st =>
 callK prog n_spec_l01Fam [(.str [116, 109]), (.sl 0 true [])] st (fun v10 st =>
 e_alloc st [.int .i64 0, .int .i64 0, .str [], .sl 0 true []] fun v2 st =>
 e_store st 4 v2 v10 fun st =>
 callK prog n_spec_l01Var [(.int .i64 0), (.sl 0 true [])] st (fun v11 st =>
 e_alloc st [.int .i64 0, .int .i64 0, .str [], .sl 0 true []] fun v3 st =>
 e_store st 4 v3 v11 fun st =>
 callK prog n_spec_l01Var [(.int .i64 1), (.sl 0 true [])] st (fun v12 st =>
 e_alloc st [.int .i64 0, .int .i64 0, .str [], .sl 0 true []] fun v4 st =>
 e_store st 4 v4 v12 fun st =>
 callK prog n_spec_l01Type [] st (fun v13 st =>
 qb (q_struct [.str [], .bool false, .int .i64 0, .int .i64 0, .str [], .sl 0 true []] [(0, 1, (.str [116, 112])), (1, 1, (.bool true)), (2, 4, v13)]) fun v14 =>
 qb (q_lit 6 1 0 [] [(0, v14)]) fun v15 =>
 hJ (fun ls st =>
  callK prog n_spec_l01Var [(.int .i64 5), (.sl 0 true [])] st (fun v28 st =>
  callK prog n_spec_l01Var [(.int .i64 4), (.sl 0 true [])] st (fun v29 st =>
  qb (q_lit 4 2 0 [] [(0, v28), (1, v29)]) fun v30 =>
  callK prog n_spec_l04Neutral [(.str [97, 112, 112]), v30] st (fun v31 st =>
  e_alloc st [.int .i64 0, .int .i64 0, .str [], .sl 0 true []] fun v7 st =>
  e_store st 4 v7 v31 fun st =>
  hJ (fun ls_1 st =>
   qb (q_load st true 4 v1) fun v46 =>
   qb (q_load st true 4 v2) fun v47 =>
   qb (q_load st true 4 v2) fun v48 =>
   qb (q_load st true 4 v2) fun v50 =>
   qb (q_load st true 4 v2) fun v54 =>
   qb (q_load st true 4 v1) fun v55 =>
   qb (q_load st true 4 v2) fun v60 =>
   qb (q_load st true 4 v2) fun v61 =>
   qb (q_load st true 4 v1) fun v62 =>
   qb (q_load st true 4 v1) fun v63 =>
   qb (q_load st true 4 v4) fun v65 =>
   qb (q_load st true 4 v3) fun v66 =>
   qb (q_lit 4 2 0 [] [(0, v65), (1, v66)]) fun v67 =>
   qb (q_load st true 4 v7) fun v75 =>
   qb (q_load st true 4 v1) fun v86 =>
   qb (q_load st true 4 v1) fun v87 =>
   qb (q_load st true 4 v2) fun v88 =>
   qb (q_load st true 4 v2) fun v89 =>
   qb (q_load st true 4 v2) fun v91 =>
   qb (q_load st true 4 v3) fun v92 =>
   qb (q_load st true 4 v4) fun v96 =>
   qb (q_lit 4 1 0 [] [(0, v96)]) fun v97 =>
   qb (q_load st true 4 (ls_1.getD 0 .junk)) fun v104 =>
   callK prog n_spec_func2 [(.str [116, 112])] st (fun v40 st =>
   q_load st true 4 (ls_1.getD 0 .junk) = some v104 ∧ q_load st true 4 v4 = some v96 ∧ q_load st true 4 v3 = some v92 ∧ q_load st true 4 v2 = some v91 ∧ q_load st true 4 v2 = some v89 ∧ q_load st true 4 v2 = some v88 ∧ q_load st true 4 v1 = some v87 ∧ q_load st true 4 v1 = some v86 ∧ q_load st true 4 v7 = some v75 ∧ q_load st true 4 v3 = some v66 ∧ q_load st true 4 v4 = some v65 ∧ q_load st true 4 v1 = some v63 ∧ q_load st true 4 v1 = some v62 ∧ q_load st true 4 v2 = some v61 ∧ q_load st true 4 v2 = some v60 ∧ q_load st true 4 v1 = some v55 ∧ q_load st true 4 v2 = some v54 ∧ q_load st true 4 v2 = some v50 ∧ q_load st true 4 v2 = some v48 ∧ q_load st true 4 v2 = some v47 ∧ q_load st true 4 v1 = some v46 ∧ (qb (q_struct [.str [], .bool false, .int .i64 0, .int .i64 0, .str [], .sl 0 true []] [(0, 1, (.str [97, 114, 114])), (2, 4, v40)]) fun v41 =>
   callK prog n_spec_l01Type [] st (fun v42 st =>
   q_load st true 4 (ls_1.getD 0 .junk) = some v104 ∧ q_load st true 4 v4 = some v96 ∧ q_load st true 4 v3 = some v92 ∧ q_load st true 4 v2 = some v91 ∧ q_load st true 4 v2 = some v89 ∧ q_load st true 4 v2 = some v88 ∧ q_load st true 4 v1 = some v87 ∧ q_load st true 4 v1 = some v86 ∧ q_load st true 4 v7 = some v75 ∧ q_load st true 4 v3 = some v66 ∧ q_load st true 4 v4 = some v65 ∧ q_load st true 4 v1 = some v63 ∧ q_load st true 4 v1 = some v62 ∧ q_load st true 4 v2 = some v61 ∧ q_load st true 4 v2 = some v60 ∧ q_load st true 4 v1 = some v55 ∧ q_load st true 4 v2 = some v54 ∧ q_load st true 4 v2 = some v50 ∧ q_load st true 4 v2 = some v48 ∧ q_load st true 4 v2 = some v47 ∧ q_load st true 4 v1 = some v46 ∧ (qb (q_struct [.str [], .bool false, .int .i64 0, .int .i64 0, .str [], .sl 0 true []] [(0, 1, (.str [116, 109])), (1, 1, (.bool true)), (2, 4, v42)]) fun v43 =>
   callK prog n_spec_func2 [(.str [116, 109])] st (fun v44 st =>
   q_load st true 4 (ls_1.getD 0 .junk) = some v104 ∧ q_load st true 4 v4 = some v96 ∧ q_load st true 4 v3 = some v92 ∧ q_load st true 4 v2 = some v91 ∧ q_load st true 4 v2 = some v89 ∧ q_load st true 4 v2 = some v88 ∧ q_load st true 4 v1 = some v87 ∧ q_load st true 4 v1 = some v86 ∧ q_load st true 4 v7 = some v75 ∧ q_load st true 4 v3 = some v66 ∧ q_load st true 4 v4 = some v65 ∧ q_load st true 4 v1 = some v63 ∧ q_load st true 4 v1 = some v62 ∧ q_load st true 4 v2 = some v61 ∧ q_load st true 4 v2 = some v60 ∧ q_load st true 4 v1 = some v55 ∧ q_load st true 4 v2 = some v54 ∧ q_load st true 4 v2 = some v50 ∧ q_load st true 4 v2 = some v48 ∧ q_load st true 4 v2 = some v47 ∧ q_load st true 4 v1 = some v46 ∧ (qb (q_struct [.str [], .bool false, .int .i64 0, .int .i64 0, .str [], .sl 0 true []] [(0, 1, (.str [97, 112, 112])), (2, 4, v44)]) fun v45 =>
   callK prog n_spec_l01Pi [v47, v48] st (fun v49 st =>
   q_load st true 4 (ls_1.getD 0 .junk) = some v104 ∧ q_load st true 4 v4 = some v96 ∧ q_load st true 4 v3 = some v92 ∧ q_load st true 4 v2 = some v91 ∧ q_load st true 4 v2 = some v89 ∧ q_load st true 4 v2 = some v88 ∧ q_load st true 4 v1 = some v87 ∧ q_load st true 4 v1 = some v86 ∧ q_load st true 4 v7 = some v75 ∧ q_load st true 4 v3 = some v66 ∧ q_load st true 4 v4 = some v65 ∧ q_load st true 4 v1 = some v63 ∧ q_load st true 4 v1 = some v62 ∧ q_load st true 4 v2 = some v61 ∧ q_load st true 4 v2 = some v60 ∧ q_load st true 4 v1 = some v55 ∧ q_load st true 4 v2 = some v54 ∧ q_load st true 4 v2 = some v50 ∧ q_load st true 4 v1 = some v46 ∧ (callK prog n_spec_l01Pi [v49, v50] st (fun v51 st =>
   q_load st true 4 (ls_1.getD 0 .junk) = some v104 ∧ q_load st true 4 v4 = some v96 ∧ q_load st true 4 v3 = some v92 ∧ q_load st true 4 v2 = some v91 ∧ q_load st true 4 v2 = some v89 ∧ q_load st true 4 v2 = some v88 ∧ q_load st true 4 v1 = some v87 ∧ q_load st true 4 v1 = some v86 ∧ q_load st true 4 v7 = some v75 ∧ q_load st true 4 v3 = some v66 ∧ q_load st true 4 v4 = some v65 ∧ q_load st true 4 v1 = some v63 ∧ q_load st true 4 v1 = some v62 ∧ q_load st true 4 v2 = some v61 ∧ q_load st true 4 v2 = some v60 ∧ q_load st true 4 v1 = some v55 ∧ q_load st true 4 v2 = some v54 ∧ q_load st true 4 v1 = some v46 ∧ (callK prog n_spec_l01Pi [v46, v51] st (fun v52 st =>
   q_load st true 4 (ls_1.getD 0 .junk) = some v104 ∧ q_load st true 4 v4 = some v96 ∧ q_load st true 4 v3 = some v92 ∧ q_load st true 4 v2 = some v91 ∧ q_load st true 4 v2 = some v89 ∧ q_load st true 4 v2 = some v88 ∧ q_load st true 4 v1 = some v87 ∧ q_load st true 4 v1 = some v86 ∧ q_load st true 4 v7 = some v75 ∧ q_load st true 4 v3 = some v66 ∧ q_load st true 4 v4 = some v65 ∧ q_load st true 4 v1 = some v63 ∧ q_load st true 4 v1 = some v62 ∧ q_load st true 4 v2 = some v61 ∧ q_load st true 4 v2 = some v60 ∧ q_load st true 4 v1 = some v55 ∧ q_load st true 4 v2 = some v54 ∧ (qb (q_struct [.str [], .bool false, .int .i64 0, .int .i64 0, .str [], .sl 0 true []] [(0, 1, (.str [108, 97, 109])), (2, 4, v52)]) fun v53 =>
   callK prog n_spec_l01Type [] st (fun v56 st =>
   q_load st true 4 (ls_1.getD 0 .junk) = some v104 ∧ q_load st true 4 v4 = some v96 ∧ q_load st true 4 v3 = some v92 ∧ q_load st true 4 v2 = some v91 ∧ q_load st true 4 v2 = some v89 ∧ q_load st true 4 v2 = some v88 ∧ q_load st true 4 v1 = some v87 ∧ q_load st true 4 v1 = some v86 ∧ q_load st true 4 v7 = some v75 ∧ q_load st true 4 v3 = some v66 ∧ q_load st true 4 v4 = some v65 ∧ q_load st true 4 v1 = some v63 ∧ q_load st true 4 v1 = some v62 ∧ q_load st true 4 v2 = some v61 ∧ q_load st true 4 v2 = some v60 ∧ q_load st true 4 v1 = some v55 ∧ q_load st true 4 v2 = some v54 ∧ (callK prog n_spec_l01Pi [v55, v56] st (fun v57 st =>
   q_load st true 4 (ls_1.getD 0 .junk) = some v104 ∧ q_load st true 4 v4 = some v96 ∧ q_load st true 4 v3 = some v92 ∧ q_load st true 4 v2 = some v91 ∧ q_load st true 4 v2 = some v89 ∧ q_load st true 4 v2 = some v88 ∧ q_load st true 4 v1 = some v87 ∧ q_load st true 4 v1 = some v86 ∧ q_load st true 4 v7 = some v75 ∧ q_load st true 4 v3 = some v66 ∧ q_load st true 4 v4 = some v65 ∧ q_load st true 4 v1 = some v63 ∧ q_load st true 4 v1 = some v62 ∧ q_load st true 4 v2 = some v61 ∧ q_load st true 4 v2 = some v60 ∧ q_load st true 4 v2 = some v54 ∧ (callK prog n_spec_l01Pi [v54, v57] st (fun v58 st =>
   q_load st true 4 (ls_1.getD 0 .junk) = some v104 ∧ q_load st true 4 v4 = some v96 ∧ q_load st true 4 v3 = some v92 ∧ q_load st true 4 v2 = some v91 ∧ q_load st true 4 v2 = some v89 ∧ q_load st true 4 v2 = some v88 ∧ q_load st true 4 v1 = some v87 ∧ q_load st true 4 v1 = some v86 ∧ q_load st true 4 v7 = some v75 ∧ q_load st true 4 v3 = some v66 ∧ q_load st true 4 v4 = some v65 ∧ q_load st true 4 v1 = some v63 ∧ q_load st true 4 v1 = some v62 ∧ q_load st true 4 v2 = some v61 ∧ q_load st true 4 v2 = some v60 ∧ (qb (q_struct [.str [], .bool false, .int .i64 0, .int .i64 0, .str [], .sl 0 true []] [(0, 1, (.str [111, 102])), (1, 1, (.bool true)), (2, 4, v58)]) fun v59 =>
   callK prog n_spec_l01Var [(.int .i64 3), (.sl 0 true [])] st (fun v64 st =>
   q_load st true 4 (ls_1.getD 0 .junk) = some v104 ∧ q_load st true 4 v4 = some v96 ∧ q_load st true 4 v3 = some v92 ∧ q_load st true 4 v2 = some v91 ∧ q_load st true 4 v2 = some v89 ∧ q_load st true 4 v2 = some v88 ∧ q_load st true 4 v1 = some v87 ∧ q_load st true 4 v1 = some v86 ∧ q_load st true 4 v7 = some v75 ∧ q_load st true 4 v3 = some v66 ∧ q_load st true 4 v4 = some v65 ∧ q_load st true 4 v1 = some v63 ∧ q_load st true 4 v1 = some v62 ∧ q_load st true 4 v2 = some v61 ∧ q_load st true 4 v2 = some v60 ∧ (callK prog n_spec_l04Neutral [(.str [97, 114, 114]), v67] st (fun v68 st =>
   q_load st true 4 (ls_1.getD 0 .junk) = some v104 ∧ q_load st true 4 v4 = some v96 ∧ q_load st true 4 v3 = some v92 ∧ q_load st true 4 v2 = some v91 ∧ q_load st true 4 v2 = some v89 ∧ q_load st true 4 v2 = some v88 ∧ q_load st true 4 v1 = some v87 ∧ q_load st true 4 v1 = some v86 ∧ q_load st true 4 v7 = some v75 ∧ q_load st true 4 v1 = some v63 ∧ q_load st true 4 v1 = some v62 ∧ q_load st true 4 v2 = some v61 ∧ q_load st true 4 v2 = some v60 ∧ (qb (q_lit 4 2 0 [] [(0, v64), (1, v68)]) fun v69 =>
   callK prog n_spec_l04Fam [(.str [111, 102]), v69] st (fun v70 st =>
   q_load st true 4 (ls_1.getD 0 .junk) = some v104 ∧ q_load st true 4 v4 = some v96 ∧ q_load st true 4 v3 = some v92 ∧ q_load st true 4 v2 = some v91 ∧ q_load st true 4 v2 = some v89 ∧ q_load st true 4 v2 = some v88 ∧ q_load st true 4 v1 = some v87 ∧ q_load st true 4 v1 = some v86 ∧ q_load st true 4 v7 = some v75 ∧ q_load st true 4 v1 = some v63 ∧ q_load st true 4 v1 = some v62 ∧ q_load st true 4 v2 = some v61 ∧ q_load st true 4 v2 = some v60 ∧ (callK prog n_spec_l01Var [(.int .i64 3), (.sl 0 true [])] st (fun v71 st =>
   q_load st true 4 (ls_1.getD 0 .junk) = some v104 ∧ q_load st true 4 v4 = some v96 ∧ q_load st true 4 v3 = some v92 ∧ q_load st true 4 v2 = some v91 ∧ q_load st true 4 v2 = some v89 ∧ q_load st true 4 v2 = some v88 ∧ q_load st true 4 v1 = some v87 ∧ q_load st true 4 v1 = some v86 ∧ q_load st true 4 v7 = some v75 ∧ q_load st true 4 v1 = some v63 ∧ q_load st true 4 v1 = some v62 ∧ q_load st true 4 v2 = some v61 ∧ q_load st true 4 v2 = some v60 ∧ (callK prog n_spec_l01Var [(.int .i64 2), (.sl 0 true [])] st (fun v72 st =>
   q_load st true 4 (ls_1.getD 0 .junk) = some v104 ∧ q_load st true 4 v4 = some v96 ∧ q_load st true 4 v3 = some v92 ∧ q_load st true 4 v2 = some v91 ∧ q_load st true 4 v2 = some v89 ∧ q_load st true 4 v2 = some v88 ∧ q_load st true 4 v1 = some v87 ∧ q_load st true 4 v1 = some v86 ∧ q_load st true 4 v7 = some v75 ∧ q_load st true 4 v1 = some v63 ∧ q_load st true 4 v1 = some v62 ∧ q_load st true 4 v2 = some v61 ∧ q_load st true 4 v2 = some v60 ∧ (qb (q_lit 4 2 0 [] [(0, v71), (1, v72)]) fun v73 =>
   callK prog n_spec_l04Fam [(.str [111, 102]), v73] st (fun v74 st =>
   q_load st true 4 (ls_1.getD 0 .junk) = some v104 ∧ q_load st true 4 v4 = some v96 ∧ q_load st true 4 v3 = some v92 ∧ q_load st true 4 v2 = some v91 ∧ q_load st true 4 v2 = some v89 ∧ q_load st true 4 v2 = some v88 ∧ q_load st true 4 v1 = some v87 ∧ q_load st true 4 v1 = some v86 ∧ q_load st true 4 v7 = some v75 ∧ q_load st true 4 v1 = some v63 ∧ q_load st true 4 v1 = some v62 ∧ q_load st true 4 v2 = some v61 ∧ q_load st true 4 v2 = some v60 ∧ (callK prog n_spec_l01Var [(.int .i64 2), (.sl 0 true [])] st (fun v76 st =>
   q_load st true 4 (ls_1.getD 0 .junk) = some v104 ∧ q_load st true 4 v4 = some v96 ∧ q_load st true 4 v3 = some v92 ∧ q_load st true 4 v2 = some v91 ∧ q_load st true 4 v2 = some v89 ∧ q_load st true 4 v2 = some v88 ∧ q_load st true 4 v1 = some v87 ∧ q_load st true 4 v1 = some v86 ∧ q_load st true 4 v7 = some v75 ∧ q_load st true 4 v1 = some v63 ∧ q_load st true 4 v1 = some v62 ∧ q_load st true 4 v2 = some v61 ∧ q_load st true 4 v2 = some v60 ∧ (qb (q_lit 4 2 0 [] [(0, v75), (1, v76)]) fun v77 =>
   callK prog n_spec_l04Fam [(.str [111, 102]), v77] st (fun v78 st =>
   q_load st true 4 (ls_1.getD 0 .junk) = some v104 ∧ q_load st true 4 v4 = some v96 ∧ q_load st true 4 v3 = some v92 ∧ q_load st true 4 v2 = some v91 ∧ q_load st true 4 v2 = some v89 ∧ q_load st true 4 v2 = some v88 ∧ q_load st true 4 v1 = some v87 ∧ q_load st true 4 v1 = some v86 ∧ q_load st true 4 v1 = some v63 ∧ q_load st true 4 v1 = some v62 ∧ q_load st true 4 v2 = some v61 ∧ q_load st true 4 v2 = some v60 ∧ (callK prog n_spec_l01Pi [v74, v78] st (fun v79 st =>
   q_load st true 4 (ls_1.getD 0 .junk) = some v104 ∧ q_load st true 4 v4 = some v96 ∧ q_load st true 4 v3 = some v92 ∧ q_load st true 4 v2 = some v91 ∧ q_load st true 4 v2 = some v89 ∧ q_load st true 4 v2 = some v88 ∧ q_load st true 4 v1 = some v87 ∧ q_load st true 4 v1 = some v86 ∧ q_load st true 4 v1 = some v63 ∧ q_load st true 4 v1 = some v62 ∧ q_load st true 4 v2 = some v61 ∧ q_load st true 4 v2 = some v60 ∧ (callK prog n_spec_l01Pi [v70, v79] st (fun v80 st =>
   q_load st true 4 (ls_1.getD 0 .junk) = some v104 ∧ q_load st true 4 v4 = some v96 ∧ q_load st true 4 v3 = some v92 ∧ q_load st true 4 v2 = some v91 ∧ q_load st true 4 v2 = some v89 ∧ q_load st true 4 v2 = some v88 ∧ q_load st true 4 v1 = some v87 ∧ q_load st true 4 v1 = some v86 ∧ q_load st true 4 v1 = some v63 ∧ q_load st true 4 v1 = some v62 ∧ q_load st true 4 v2 = some v61 ∧ q_load st true 4 v2 = some v60 ∧ (callK prog n_spec_l01Pi [v63, v80] st (fun v81 st =>
   q_load st true 4 (ls_1.getD 0 .junk) = some v104 ∧ q_load st true 4 v4 = some v96 ∧ q_load st true 4 v3 = some v92 ∧ q_load st true 4 v2 = some v91 ∧ q_load st true 4 v2 = some v89 ∧ q_load st true 4 v2 = some v88 ∧ q_load st true 4 v1 = some v87 ∧ q_load st true 4 v1 = some v86 ∧ q_load st true 4 v1 = some v62 ∧ q_load st true 4 v2 = some v61 ∧ q_load st true 4 v2 = some v60 ∧ (callK prog n_spec_l01Pi [v62, v81] st (fun v82 st =>
   q_load st true 4 (ls_1.getD 0 .junk) = some v104 ∧ q_load st true 4 v4 = some v96 ∧ q_load st true 4 v3 = some v92 ∧ q_load st true 4 v2 = some v91 ∧ q_load st true 4 v2 = some v89 ∧ q_load st true 4 v2 = some v88 ∧ q_load st true 4 v1 = some v87 ∧ q_load st true 4 v1 = some v86 ∧ q_load st true 4 v2 = some v61 ∧ q_load st true 4 v2 = some v60 ∧ (callK prog n_spec_l01Pi [v61, v82] st (fun v83 st =>
   q_load st true 4 (ls_1.getD 0 .junk) = some v104 ∧ q_load st true 4 v4 = some v96 ∧ q_load st true 4 v3 = some v92 ∧ q_load st true 4 v2 = some v91 ∧ q_load st true 4 v2 = some v89 ∧ q_load st true 4 v2 = some v88 ∧ q_load st true 4 v1 = some v87 ∧ q_load st true 4 v1 = some v86 ∧ q_load st true 4 v2 = some v60 ∧ (callK prog n_spec_l01Pi [v60, v83] st (fun v84 st =>
   q_load st true 4 (ls_1.getD 0 .junk) = some v104 ∧ q_load st true 4 v4 = some v96 ∧ q_load st true 4 v3 = some v92 ∧ q_load st true 4 v2 = some v91 ∧ q_load st true 4 v2 = some v89 ∧ q_load st true 4 v2 = some v88 ∧ q_load st true 4 v1 = some v87 ∧ q_load st true 4 v1 = some v86 ∧ (qb (q_struct [.str [], .bool false, .int .i64 0, .int .i64 0, .str [], .sl 0 true []] [(0, 1, (.str [111, 102, 97, 112, 112])), (2, 4, v84)]) fun v85 =>
   callK prog n_spec_l01Pi [v88, v89] st (fun v90 st =>
   q_load st true 4 (ls_1.getD 0 .junk) = some v104 ∧ q_load st true 4 v4 = some v96 ∧ q_load st true 4 v3 = some v92 ∧ q_load st true 4 v2 = some v91 ∧ q_load st true 4 v1 = some v87 ∧ q_load st true 4 v1 = some v86 ∧ (callK prog n_spec_l01Var [(.int .i64 3), (.sl 0 true [])] st (fun v93 st =>
   q_load st true 4 (ls_1.getD 0 .junk) = some v104 ∧ q_load st true 4 v4 = some v96 ∧ q_load st true 4 v3 = some v92 ∧ q_load st true 4 v2 = some v91 ∧ q_load st true 4 v1 = some v87 ∧ q_load st true 4 v1 = some v86 ∧ (qb (q_lit 4 2 0 [] [(0, v92), (1, v93)]) fun v94 =>
   callK prog n_spec_l04Fam [(.str [111, 102]), v94] st (fun v95 st =>
   q_load st true 4 (ls_1.getD 0 .junk) = some v104 ∧ q_load st true 4 v4 = some v96 ∧ q_load st true 4 v2 = some v91 ∧ q_load st true 4 v1 = some v87 ∧ q_load st true 4 v1 = some v86 ∧ (callK prog n_spec_l01Var [(.int .i64 2), v97] st (fun v98 st =>
   q_load st true 4 (ls_1.getD 0 .junk) = some v104 ∧ q_load st true 4 v2 = some v91 ∧ q_load st true 4 v1 = some v87 ∧ q_load st true 4 v1 = some v86 ∧ (callK prog n_spec_l01Var [(.int .i64 3), (.sl 0 true [])] st (fun v99 st =>
   q_load st true 4 (ls_1.getD 0 .junk) = some v104 ∧ q_load st true 4 v2 = some v91 ∧ q_load st true 4 v1 = some v87 ∧ q_load st true 4 v1 = some v86 ∧ (qb (q_lit 4 2 0 [] [(0, v98), (1, v99)]) fun v100 =>
   callK prog n_spec_l04Fam [(.str [111, 102]), v100] st (fun v101 st =>
   q_load st true 4 (ls_1.getD 0 .junk) = some v104 ∧ q_load st true 4 v2 = some v91 ∧ q_load st true 4 v1 = some v87 ∧ q_load st true 4 v1 = some v86 ∧ (callK prog n_spec_l01Pi [v95, v101] st (fun v102 st =>
   q_load st true 4 (ls_1.getD 0 .junk) = some v104 ∧ q_load st true 4 v2 = some v91 ∧ q_load st true 4 v1 = some v87 ∧ q_load st true 4 v1 = some v86 ∧ (callK prog n_spec_l01Pi [v91, v102] st (fun v103 st =>
   q_load st true 4 (ls_1.getD 0 .junk) = some v104 ∧ q_load st true 4 v1 = some v87 ∧ q_load st true 4 v1 = some v86 ∧ (callK prog n_spec_l01Var [(.int .i64 3), (.sl 0 true [])] st (fun v105 st =>
   q_load st true 4 (ls_1.getD 0 .junk) = some v104 ∧ q_load st true 4 v1 = some v87 ∧ q_load st true 4 v1 = some v86 ∧ (callK prog n_spec_l01Var [(.int .i64 2), (.sl 0 true [])] st (fun v106 st =>
   q_load st true 4 (ls_1.getD 0 .junk) = some v104 ∧ q_load st true 4 v1 = some v87 ∧ q_load st true 4 v1 = some v86 ∧ (qb (q_lit 4 2 0 [] [(0, v105), (1, v106)]) fun v107 =>
   callK prog n_spec_l04Neutral [(.str [97, 114, 114]), v107] st (fun v108 st =>
   q_load st true 4 (ls_1.getD 0 .junk) = some v104 ∧ q_load st true 4 v1 = some v87 ∧ q_load st true 4 v1 = some v86 ∧ (qb (q_lit 4 2 0 [] [(0, v104), (1, v108)]) fun v109 =>
   callK prog n_spec_l04Fam [(.str [111, 102]), v109] st (fun v110 st =>
   q_load st true 4 v1 = some v87 ∧ q_load st true 4 v1 = some v86 ∧ (callK prog n_spec_l01Pi [v103, v110] st (fun v111 st =>
   q_load st true 4 v1 = some v87 ∧ q_load st true 4 v1 = some v86 ∧ (callK prog n_spec_l01Pi [v90, v111] st (fun v112 st =>
   q_load st true 4 v1 = some v87 ∧ q_load st true 4 v1 = some v86 ∧ (callK prog n_spec_l01Pi [v87, v112] st (fun v113 st =>
   q_load st true 4 v1 = some v86 ∧ (callK prog n_spec_l01Pi [v86, v113] st (fun v114 st =>
   qb (q_struct [.str [], .bool false, .int .i64 0, .int .i64 0, .str [], .sl 0 true []] [(0, 1, (.str [111, 102, 108, 97, 109])), (2, 4, v114)]) fun v115 =>
   qb (q_lit 6 7 0 [] [(0, v41), (1, v43), (2, v45), (3, v53), (4, v59), (5, v85), (6, v115)]) fun v116 =>
   e_append st 6 80 (ls.getD 0 .junk) v116 (fun v117 st =>
   retR R v117 st)) (panR R))) (panR R))) (panR R))) (panR R))) (panR R))) (panR R))) (panR R))) (panR R))) (panR R))) (panR R))) (panR R))) (panR R))) (panR R))) (panR R))) (panR R))) (panR R))) (panR R))) (panR R))) (panR R))) (panR R))) (panR R))) (panR R))) (panR R))) (panR R))) (panR R))) (panR R))) (panR R))) (panR R))) (panR R))) (panR R))) (panR R))) (panR R))) (panR R))) (panR R))) (panR R))) (panR R))) (panR R))) (panR R))) (panR R))
   (fun k_1 =>
  qb (q_load st true 4 v3) fun v33 =>
  qb (q_lit 4 1 0 [] [(0, v33)]) fun v34 =>
  (callK prog n_spec_l01Var [(.int .i64 3), (.sl 0 true [])] st (fun v32 st =>
  q_load st true 4 v3 = some v33 ∧ ((callK prog n_spec_l01Var [(.int .i64 2), v34] st (fun v35 st =>
  (callK prog n_spec_l01Lam [v35] st (fun v36 st =>
  qb (q_lit 4 2 0 [] [(0, v32), (1, v36)]) fun v37 =>
  (callK prog n_spec_l04Neutral [(.str [108, 97, 109]), v37] st (fun v38 st =>
  e_alloc st [.int .i64 0, .int .i64 0, .str [], .sl 0 true []] fun v8 st =>
  q_load st true 4 v3 = some v33 ∧ (e_store st 4 v8 v38 fun st =>
  k_1 [v8] st)) (panR R)) ∧
  (e_alloc st [.int .i64 0, .int .i64 0, .str [], .sl 0 true []] fun v8_1 st =>
  q_load st true 4 v3 = some v33 ∧ (callK prog n_spec_l04Neutral [(.str [108, 97, 109]), v37] st (fun v38_1 st =>
  e_store st 4 v8_1 v38_1 fun st =>
  k_1 [v8_1] st) (panR R)))) (panR R)) ∧
  (e_alloc st [.int .i64 0, .int .i64 0, .str [], .sl 0 true []] fun v8_2 st =>
  q_load st true 4 v3 = some v33 ∧ (callK prog n_spec_l01Lam [v35] st (fun v36_1 st =>
  qb (q_lit 4 2 0 [] [(0, v32), (1, v36_1)]) fun v37_1 =>
  callK prog n_spec_l04Neutral [(.str [108, 97, 109]), v37_1] st (fun v38_2 st =>
  e_store st 4 v8_2 v38_2 fun st =>
  k_1 [v8_2] st) (panR R)) (panR R)))) (panR R)) ∧
  (e_alloc st [.int .i64 0, .int .i64 0, .str [], .sl 0 true []] fun v8_3 st =>
  q_load st true 4 v3 = some v33 ∧ (callK prog n_spec_l01Var [(.int .i64 2), v34] st (fun v35_1 st =>
  callK prog n_spec_l01Lam [v35_1] st (fun v36_2 st =>
  qb (q_lit 4 2 0 [] [(0, v32), (1, v36_2)]) fun v37_2 =>
  callK prog n_spec_l04Neutral [(.str [108, 97, 109]), v37_2] st (fun v38_3 st =>
  e_store st 4 v8_3 v38_3 fun st =>
  k_1 [v8_3] st) (panR R)) (panR R)) (panR R))))) (panR R)) ∧
  (e_alloc st [.int .i64 0, .int .i64 0, .str [], .sl 0 true []] fun v8_4 st =>
  q_load st true 4 v3 = some v33 ∧ (callK prog n_spec_l01Var [(.int .i64 3), (.sl 0 true [])] st (fun v32_1 st =>
  q_load st true 4 v3 = some v33 ∧ (callK prog n_spec_l01Var [(.int .i64 2), v34] st (fun v35_2 st =>
  callK prog n_spec_l01Lam [v35_2] st (fun v36_3 st =>
  qb (q_lit 4 2 0 [] [(0, v32_1), (1, v36_3)]) fun v37_3 =>
  callK prog n_spec_l04Neutral [(.str [108, 97, 109]), v37_3] st (fun v38_4 st =>
  e_store st 4 v8_4 v38_4 fun st =>
  k_1 [v8_4] st) (panR R)) (panR R)) (panR R))) (panR R))))) (panR R)) (panR R)) (panR R))
  (fun k =>
 hFix (fun ls_2 st X =>
  qb (q_bin .lss (ls_2.getD 1 .junk) (.int .i64 6)) fun v17 =>
  cb v17 fun b => br b
   (qb (q_load st true 4 v1) fun v24 =>
   callK prog n_spec_l00Digits [(ls_2.getD 1 .junk)] st (fun v22 st =>
   q_load st true 4 v1 = some v24 ∧ (qb (q_bin .add (.str [98]) v22) fun v23 =>
   qb (q_struct [.str [], .bool false, .int .i64 0, .int .i64 0, .str [], .sl 0 true []] [(0, 1, v23), (2, 4, v24)]) fun v25 =>
   qb (q_lit 6 1 0 [] [(0, v25)]) fun v26 =>
   e_append st 6 80 (ls_2.getD 0 .junk) v26 (fun v27 st =>
   qb (q_bin .add (ls_2.getD 1 .junk) (.int .i64 1)) fun v19 =>
   X [v27, v19] st))) (panR R))
   (k [(ls_2.getD 0 .junk)] st))
  [v15, (.int .i64 0)] st)) (panR R)) (panR R)) (panR R)) (panR R)) (panR R)
theorem c_spec_CalcSig {st : St} {R : Res → St → Prop} (h : b_spec_CalcSig  st R) : HCalls prog n_spec_CalcSig [] st R :=
 hcalls_of_func tyOK mixed (fn := Go.Proofs.Tryz.f34) (by kernel_rfl) (by kernel_rfl) (by kernel_rfl) (ann := [(28, [5, 6]), (3, [5]), (45, [8])])
  (show hFunc prog TT [(28, [5, 6]), (3, [5]), (45, [8])] Go.Proofs.Tryz.f34 [] st R from (show hFunc prog TT [(28, [5, 6]), (3, [5]), (45, [8])] Go.Proofs.Tryz.f34 [] st R = b_spec_CalcSig  st R by kernel_rfl) ▸ h)
def b_impl_CalcSig (st : St) (R : Res → St → Prop) : Prop :=
 callK prog n_impl_builtIn [(.str [116, 112, 32, 58, 32, 116, 121, 112, 101, 10, 98, 48, 32, 58, 32, 116, 112, 10, 98, 49, 32, 58, 32, 116, 112, 10, 98, 50, 32, 58, 32, 116, 112, 10, 98, 51, 32, 58, 32, 116, 112, 10, 98, 52, 32, 58, 32, 116, 112, 10, 98, 53, 32, 58, 32, 116, 112, 10, 97, 114, 114, 32, 58, 32, 116, 112, 32, 45, 62, 32, 116, 112, 32, 45, 62, 32, 116, 112, 10, 116, 109, 32, 58, 32, 116, 121, 112, 101, 10, 97, 112, 112, 32, 58, 32, 116, 109, 32, 45, 62, 32, 116, 109, 32, 45, 62, 32, 116, 109, 10, 108, 97, 109, 32, 58, 32, 116, 112, 32, 45, 62, 32, 40, 116, 109, 32, 45, 62, 32, 116, 109, 41, 32, 45, 62, 32, 116, 109, 10, 111, 102, 32, 58, 32, 116, 109, 32, 45, 62, 32, 116, 112, 32, 45, 62, 32, 116, 121, 112, 101, 10, 111, 102, 97, 112, 112, 32, 58, 32, 123, 120, 48, 58, 116, 109, 125, 32, 123, 120, 49, 58, 116, 109, 125, 32, 123, 120, 50, 58, 116, 112, 125, 32, 123, 120, 51, 58, 116, 112, 125, 32, 111, 102, 32, 120, 48, 32, 40, 97, 114, 114, 32, 120, 50, 32, 120, 51, 41, 32, 45, 62, 32, 111, 102, 32, 120, 49, 32, 120, 50, 32, 45, 62, 32, 111, 102, 32, 40, 97, 112, 112, 32, 120, 48, 32, 120, 49, 41, 32, 120, 51, 10, 111, 102, 108, 97, 109, 32, 58, 32, 123, 120, 48, 58, 116, 112, 125, 32, 123, 120, 49, 58, 116, 112, 125, 32, 123, 120, 50, 58, 116, 109, 32, 45, 62, 32, 116, 109, 125, 32, 40, 123, 120, 51, 58, 116, 109, 125, 32, 111, 102, 32, 120, 51, 32, 120, 48, 32, 45, 62, 32, 111, 102, 32, 40, 120, 50, 32, 120, 51, 41, 32, 120, 49, 41, 32, 45, 62, 32, 111, 102, 32, 40, 108, 97, 109, 32, 120, 48, 32, 40, 91, 120, 51, 93, 32, 120, 50, 32, 120, 51, 41, 41, 32, 40, 97, 114, 114, 32, 120, 48, 32, 120, 49, 41, 10])] st (fun v1 st =>
 retR R v1 st) (panR R)
theorem c_impl_CalcSig {st : St} {R : Res → St → Prop} (h : b_impl_CalcSig  st R) : HCalls prog n_impl_CalcSig [] st R :=
 hcalls_of_func tyOK mixed (fn := Go.Proofs.Tryz.f35) (by kernel_rfl) (by kernel_rfl) (by kernel_rfl) (ann := [])
  (show hFunc prog TT [] Go.Proofs.Tryz.f35 [] st R from (show hFunc prog TT [] Go.Proofs.Tryz.f35 [] st R = b_impl_CalcSig  st R by kernel_rfl) ▸ h)
def b_laws_heldDeclS (a0 a1 : PV) (st : St) (R : Res → St → Prop) : Prop :=
 hFix (fun ls st X =>
  qb (q_len a0) fun v8 =>
  qb (q_bin .lss (ls.getD 1 .junk) v8) fun v9 =>
  cb v9 fun b => br b
   (qb (q_ia 6 a0 (ls.getD 1 .junk)) fun v14 =>
   qb (q_fa 0 v14) fun v15 =>
   qb (q_load st false 1 v15) fun v16 =>
   callK prog n_laws_markText [(ls.getD 0 .junk)] st (fun v18 st =>
   q_load st false 1 v15 = some v16 ∧ (qb (q_bin .neq v16 v18) fun v19 =>
   cb v19 fun b_1 => br b_1
    (retR R (.int .i64 (-1)) st)
    (qb (q_bin .add (ls.getD 0 .junk) (.int .i64 1)) fun v21 =>
    qb (q_ia 6 a0 (ls.getD 1 .junk)) fun v24 =>
    qb (q_fa 1 v24) fun v25 =>
    qb (q_load st false 1 v25) fun v26 =>
    qb (q_bin .rem v21 (.int .i64 3)) fun v28 =>
    qb (q_bin .eql v28 (.int .i64 0)) fun v29 =>
    qb (q_beq .neq v26 v29) fun v30 =>
    cb v30 fun b_2 => br b_2
     (retR R (.int .i64 (-1)) st)
     (qb (q_bin .add v21 (.int .i64 1)) fun v32 =>
     qb (q_ia 6 a0 (ls.getD 1 .junk)) fun v35 =>
     qb (q_fa 2 v35) fun v36 =>
     qb (q_fa 0 v36) fun v37 =>
     qb (q_load st false 1 v37) fun v38 =>
     qb (q_bin .neq v38 v32) fun v40 =>
     cb v40 fun b_3 => br b_3
      (retR R (.int .i64 (-1)) st)
      (qb (q_bin .add v32 (.int .i64 1)) fun v42 =>
      qb (q_ia 6 a0 (ls.getD 1 .junk)) fun v45 =>
      qb (q_fa 2 v45) fun v46 =>
      qb (q_fa 1 v46) fun v47 =>
      qb (q_load st false 1 v47) fun v48 =>
      qb (q_bin .neq v48 v42) fun v50 =>
      cb v50 fun b_4 => br b_4
       (retR R (.int .i64 (-1)) st)
       (qb (q_bin .add v42 (.int .i64 1)) fun v52 =>
       qb (q_ia 6 a0 (ls.getD 1 .junk)) fun v55 =>
       qb (q_fa 2 v55) fun v56 =>
       qb (q_fa 2 v56) fun v57 =>
       qb (q_load st false 1 v57) fun v58 =>
       callK prog n_laws_markText [v52] st (fun v60 st =>
       q_load st false 1 v57 = some v58 ∧ (qb (q_bin .neq v58 v60) fun v61 =>
       cb v61 fun b_5 => br b_5
        (retR R (.int .i64 (-1)) st)
        (qb (q_bin .add v52 (.int .i64 1)) fun v63 =>
        qb (q_ia 6 a0 (ls.getD 1 .junk)) fun v66 =>
        qb (q_fa 2 v66) fun v67 =>
        qb (q_fa 3 v67) fun v68 =>
        qb (q_load st false 1 v68) fun v69 =>
        callK prog n_laws_heldTreeS [v69, v63] st (fun v71 st =>
        qb (q_bin .lss v71 (.int .i64 0)) fun v73 =>
        cb v73 fun b_6 => br b_6
         (retR R (.int .i64 (-1)) st)
         (qb (q_bin .add (ls.getD 1 .junk) (.int .i64 1)) fun v11 =>
         X [v71, v11] st)) (panR R)))) (panR R))))))) (panR R))
   (retR R (ls.getD 0 .junk) st))
  [a1, (.int .i64 0)] st
theorem c_laws_heldDeclS {a0 a1 : PV} {st : St} {R : Res → St → Prop} (h : b_laws_heldDeclS a0 a1 st R) : HCalls prog n_laws_heldDeclS [a0, a1] st R :=
 hcalls_of_func tyOK mixed (fn := Go.Proofs.Tryz.f36) (by kernel_rfl) (by kernel_rfl) (by kernel_rfl) (ann := [(8, [1, 5])])
  (show hFunc prog TT [(8, [1, 5])] Go.Proofs.Tryz.f36 [a0, a1] st R from (show hFunc prog TT [(8, [1, 5])] Go.Proofs.Tryz.f36 [a0, a1] st R = b_laws_heldDeclS a0 a1 st R by kernel_rfl) ▸ h)
def b_impl_ReadSig (a0 : PV) (st : St) (R : Res → St → Prop) : Prop :=
 e_alloc st [.sl 0 true []] fun v2 st =>
 e_alloc st [.int .i64 0] fun v3 st =>
 e_alloc st [.int .i64 0] fun v4 st =>
 e_alloc st [.int .i64 0] fun v5 st =>
 callK prog n_impl_longText [a0] st (fun v11 st =>
 cb v11 fun b => br b
  (e_store st 1 v2 (.sl 0 true []) fun st =>
  e_store st 1 v3 (.int .i64 2) fun st =>
  e_store st 1 v4 (.int .i64 0) fun st =>
  e_store st 1 v5 (.int .i64 0) fun st =>
  qb (q_load st false 1 v2) fun r => qb (q_load st false 1 v3) fun r_1 => qb (q_load st false 1 v4) fun r_2 => qb (q_load st false 1 v5) fun r_3 => retR R (.tup [r, r_1, r_2, r_3]) st)
  (qb (q_lit 6 0 0 [] []) fun v12 =>
  e_alloc st [.sl 0 true []] fun v6 st =>
  e_alloc st [.int .i64 0] fun v7 st =>
  e_store st 1 v6 v12 fun st =>
  e_store st 1 v7 (.int .i64 0) fun st =>
  callK prog n_strings_Lines [a0] st (fun v14 st =>
  hRange prog v14 st (fun ar st B X => if ar.length = 1 then
   e_alloc st [.str []] fun v8 st =>
   e_store st 1 v8 (ar.getD 0 .junk) fun st =>
   B st fun st =>
   qb (q_load st false 1 v7) fun v16 =>
   qb (q_bin .add v16 (.int .i64 1)) fun v17 =>
   e_store st 1 v7 v17 fun st =>
   qb (q_load st false 1 v8) fun v18 =>
   callK prog n_strings_TrimSuffix [v18, (.str [10])] st (fun v19 st =>
   e_store st 1 v8 v19 fun st =>
   qb (q_load st false 1 v8) fun v20 =>
   callK prog n_impl_says [v20] st (fun v21 st =>
   qb (q_un .not v21) fun v22 =>
   cb v22 fun b_1 => br b_1
    (X .normal st)
    (qb (q_load st false 1 v8) fun v23 =>
    qb (q_lenS v23) fun v24 =>
    qb (q_bin .gtr v24 (.int .i64 4096)) fun v25 =>
    cb v25 fun b_2 => br b_2
     (qb (q_load st false 1 v7) fun v26 =>
     e_store st 1 v2 (.sl 0 true []) fun st =>
     q_load st false 1 v7 = some v26 ∧ (e_store st 1 v3 (.int .i64 11) fun st =>
     q_load st false 1 v7 = some v26 ∧ (e_store st 1 v4 v26 fun st =>
     e_store st 1 v5 (.int .i64 0) fun st =>
     X .ret st)))
     (callK prog n_impl_caught [(.fn (.func n_impl_ReadSig_1) [] [v6, v8])] st (fun v28 st =>
     e_alloc st [.int .i64 0, .int .i64 0] fun v9 st =>
     e_store st 2 v9 v28 fun st =>
     qb (q_fa 0 v9) fun v29 =>
     qb (q_load st false 1 v29) fun v30 =>
     qb (q_bin .neq v30 (.int .i64 0)) fun v31 =>
     cb v31 fun b_3 => br b_3
      (qb (q_fa 0 v9) fun v32 =>
      qb (q_load st false 1 v32) fun v33 =>
      qb (q_load st false 1 v7) fun v34 =>
      qb (q_fa 1 v9) fun v35 =>
      qb (q_load st false 1 v35) fun v36 =>
      e_store st 1 v2 (.sl 0 true []) fun st =>
      q_load st false 1 v35 = some v36 ∧ q_load st false 1 v7 = some v34 ∧ q_load st false 1 v32 = some v33 ∧ (e_store st 1 v3 v33 fun st =>
      q_load st false 1 v35 = some v36 ∧ q_load st false 1 v7 = some v34 ∧ (e_store st 1 v4 v34 fun st =>
      q_load st false 1 v35 = some v36 ∧ (e_store st 1 v5 v36 fun st =>
      X .ret st))))
      (X .normal st)) (fun p st => X (.pan p) st)))) (fun p st => X (.pan p) st)) (fun p st => X (.pan p) st)
   else False)
   (fun st =>
   qb (q_load st false 1 v6) fun v37 =>
   e_store st 1 v2 v37 fun st =>
   e_store st 1 v3 (.int .i64 0) fun st =>
   e_store st 1 v4 (.int .i64 0) fun st =>
   e_store st 1 v5 (.int .i64 0) fun st =>
   qb (q_load st false 1 v2) fun r_4 => qb (q_load st false 1 v3) fun r_5 => qb (q_load st false 1 v4) fun r_6 => qb (q_load st false 1 v5) fun r_7 => retR R (.tup [r_4, r_5, r_6, r_7]) st)
   [((.exit 1), fun st =>
   False), (.ret, fun st =>
   qb (q_load st false 1 v2) fun r_8 => qb (q_load st false 1 v3) fun r_9 => qb (q_load st false 1 v4) fun r_10 => qb (q_load st false 1 v5) fun r_11 => retR R (.tup [r_8, r_9, r_10, r_11]) st), (.ret, fun st =>
   qb (q_load st false 1 v2) fun r_12 => qb (q_load st false 1 v3) fun r_13 => qb (q_load st false 1 v4) fun r_14 => qb (q_load st false 1 v5) fun r_15 => retR R (.tup [r_12, r_13, r_14, r_15]) st)]) (panR R))) (panR R)
theorem c_impl_ReadSig {a0 : PV} {st : St} {R : Res → St → Prop} (h : b_impl_ReadSig a0 st R) : HCalls prog n_impl_ReadSig [a0] st R :=
 hcalls_of_func tyOK mixed (fn := Go.Proofs.Tryz.f40) (by kernel_rfl) (by kernel_rfl) (by kernel_rfl) (ann := [])
  (show hFunc prog TT [] Go.Proofs.Tryz.f40 [a0] st R from (show hFunc prog TT [] Go.Proofs.Tryz.f40 [a0] st R = b_impl_ReadSig a0 st R by kernel_rfl) ▸ h)
end Go.H.Tryz
