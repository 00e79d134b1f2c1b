/- Part of a proof that the program answers as the reference does: FS2. -/
import Derived.Test.YtemgbochnkpihaaGreatDoorHT
/- MADE BY PROGRAM (hgen.py): what the functions compute, over pure values. -/
set_option linter.unusedVariables false
set_option maxRecDepth 100000
namespace Go.H.Tryz
open Go Go.H
def b_impl_erase (a0 : PV) (st : St) (R : Res → St → Prop) : Prop :=
 e_box st a0 fun v1 st =>
 e_alloc st [.int .i64 0, .int .i64 0, .str [], .sl 0 true []] fun v2 st =>
 qb (q_fa 0 v1) fun v3 =>
 qb (q_load st false 1 v3) fun v4 =>
 qb (q_bin .eql v4 (.int .i64 2)) fun v5 =>
 cb v5 fun b => br b
  (qb (q_fa 3 v1) fun v6 =>
  qb (q_load st false 1 v6) fun v7 =>
  qb (q_ia 4 v7 (.int .i64 0)) fun v8 =>
  qb (q_load st true 4 v8) fun v9 =>
  qb (q_fa 3 v1) fun v11 =>
  qb (q_load st false 1 v11) fun v12 =>
  qb (q_ia 4 v12 (.int .i64 1)) fun v13 =>
  qb (q_load st true 4 v13) fun v14 =>
  callK prog n_impl_erase [v9] st (fun v10 st =>
  q_load st true 4 v13 = some v14 ∧ q_load st false 1 v11 = some v12 ∧ (callK prog n_impl_erase [v14] st (fun v15 st =>
  qb (q_lit 4 2 0 [] [(0, v10), (1, v15)]) fun v16 =>
  qb (q_struct [.int .i64 0, .int .i64 0, .str [], .sl 0 true []] [(0, 1, (.int .i64 10)), (3, 1, v16)]) fun v17 =>
  e_store st 4 v2 v17 fun st =>
  qb (q_load st true 4 v2) fun r => retR R r st) (panR R))) (panR R))
  (qb (q_fa 2 v1) fun v18 =>
  qb (q_load st false 1 v18) fun v19 =>
  qb (q_struct [.int .i64 0, .int .i64 0, .str [], .sl 0 true []] [(0, 1, (.int .i64 9)), (2, 1, v19)]) fun v20 =>
  e_store st 4 v2 v20 fun st =>
  qb (q_load st true 4 v2) fun r_1 => retR R r_1 st)
theorem c_impl_erase {a0 : PV} {st : St} {R : Res → St → Prop} (h : b_impl_erase a0 st R) : HCalls prog n_impl_erase [a0] st R :=
 hcalls_of_func tyOK mixed (fn := Go.Proofs.Tryz.f47) (by kernel_rfl) (by kernel_rfl) (by kernel_rfl) (ann := [])
  (show hFunc prog TT [] Go.Proofs.Tryz.f47 [a0] st R from (show hFunc prog TT [] Go.Proofs.Tryz.f47 [a0] st R = b_impl_erase a0 st R by kernel_rfl) ▸ h)
def b_laws_eqDecl (a0 a1 : PV) (st : St) (R : Res → St → Prop) : Prop :=
 e_box st a0 fun v2 st =>
 e_box st a1 fun v3 st =>
 qb (q_fa 0 v2) fun v5 =>
 qb (q_load st false 1 v5) fun v6 =>
 qb (q_fa 0 v3) fun v7 =>
 qb (q_load st false 1 v7) fun v8 =>
 qb (q_bin .neq v6 v8) fun v9 =>
 cb v9 fun b => br b
  (retR R (.bool false) st)
  (qb (q_fa 1 v2) fun v10 =>
  qb (q_load st false 1 v10) fun v11 =>
  qb (q_fa 1 v3) fun v12 =>
  qb (q_load st false 1 v12) fun v13 =>
  qb (q_beq .neq v11 v13) fun v14 =>
  cb v14 fun b_1 => br b_1
   (retR R (.bool false) st)
   (qb (q_fa 2 v2) fun v15 =>
   qb (q_load st true 4 v15) fun v16 =>
   qb (q_fa 2 v3) fun v17 =>
   qb (q_load st true 4 v17) fun v18 =>
   callK prog n_laws_eqTree [v16, v18] st (fun v19 st =>
   qb (q_un .not v19) fun v20 =>
   cb v20 fun b_2 => br b_2
    (retR R (.bool false) st)
    (retR R (.bool true) st)) (panR R)))
theorem c_laws_eqDecl {a0 a1 : PV} {st : St} {R : Res → St → Prop} (h : b_laws_eqDecl a0 a1 st R) : HCalls prog n_laws_eqDecl [a0, a1] st R :=
 hcalls_of_func tyOK mixed (fn := Go.Proofs.Tryz.f49) (by kernel_rfl) (by kernel_rfl) (by kernel_rfl) (ann := [])
  (show hFunc prog TT [] Go.Proofs.Tryz.f49 [a0, a1] st R from (show hFunc prog TT [] Go.Proofs.Tryz.f49 [a0, a1] st R = b_laws_eqDecl a0 a1 st R by kernel_rfl) ▸ h)
def b_laws_markText (a0 : PV) (st : St) (R : Res → St → Prop) : Prop :=
 qb (q_bin .leq a0 (.int .i64 0)) fun v5 =>
 cb v5 fun b => br b
  (retR R (.str [109, 48]) st)
  (hFix (fun ls st X =>
   qb (q_bin .gtr (ls.getD 0 .junk) (.int .i64 0)) fun v7 =>
   cb v7 fun b_1 => br b_1
    (qb (q_bin .rem (ls.getD 0 .junk) (.int .i64 10)) fun v9 =>
    qb (q_bin .add (.int .i64 48) v9) fun v10 =>
    qb (q_conv .u8 v10) fun v11 =>
    qb (q_lit 1 1 0 [] [(0, v11)]) fun v12 =>
    qb (q_bstr v12) fun v13 =>
    qb (q_bin .add v13 (ls.getD 1 .junk)) fun v15 =>
    qb (q_bin .quo (ls.getD 0 .junk) (.int .i64 10)) fun v17 =>
    X [v17, v15] st)
    (qb (q_bin .add (.str [109]) (ls.getD 1 .junk)) fun v19 =>
    retR R v19 st))
   [a0, (.str [])] st)
theorem c_laws_markText {a0 : PV} {st : St} {R : Res → St → Prop} (h : b_laws_markText a0 st R) : HCalls prog n_laws_markText [a0] st R :=
 hcalls_of_func tyOK mixed (fn := Go.Proofs.Tryz.f50) (by kernel_rfl) (by kernel_rfl) (by kernel_rfl) (ann := [(16, [0, 3])])
  (show hFunc prog TT [(16, [0, 3])] Go.Proofs.Tryz.f50 [a0] st R from (show hFunc prog TT [(16, [0, 3])] Go.Proofs.Tryz.f50 [a0] st R = b_laws_markText a0 st R by kernel_rfl) ▸ h)
def b_laws_markTreeS (a0 a1 : PV) (st : St) (R : Res → St → Prop) : Prop :=
 hFix (fun ls st X =>
  qb (q_len a0) fun v8 =>
  qb (q_bin .lss (ls.getD 1 .junk) v8) fun v9 =>
  cb v9 fun b => br b
   (qb (q_ia 4 a0 (ls.getD 1 .junk)) fun v15 =>
   qb (q_fa 0 v15) fun v16 =>
   e_store st 1 v16 (ls.getD 0 .junk) fun st =>
   qb (q_bin .add (ls.getD 0 .junk) (.int .i64 1)) fun v18 =>
   qb (q_ia 4 a0 (ls.getD 1 .junk)) fun v22 =>
   qb (q_fa 1 v22) fun v23 =>
   e_store st 1 v23 v18 fun st =>
   qb (q_bin .add v18 (.int .i64 1)) fun v25 =>
   callK prog n_laws_markText [v25] st (fun v29 st =>
   qb (q_ia 4 a0 (ls.getD 1 .junk)) fun v30 =>
   qb (q_fa 2 v30) fun v31 =>
   e_store st 1 v31 v29 fun st =>
   qb (q_bin .add v25 (.int .i64 1)) fun v33 =>
   qb (q_ia 4 a0 (ls.getD 1 .junk)) fun v36 =>
   qb (q_fa 3 v36) fun v37 =>
   qb (q_load st false 1 v37) fun v38 =>
   callK prog n_laws_markTreeS [v38, v33] st (fun v40 st =>
   qb (q_bin .add (ls.getD 1 .junk) (.int .i64 1)) fun v11 =>
   X [v40, v11] st) (panR R)) (panR R))
   (retR R (ls.getD 0 .junk) st))
  [a1, (.int .i64 0)] st
theorem c_laws_markTreeS {a0 a1 : PV} {st : St} {R : Res → St → Prop} (h : b_laws_markTreeS a0 a1 st R) : HCalls prog n_laws_markTreeS [a0, a1] st R :=
 hcalls_of_func tyOK mixed (fn := Go.Proofs.Tryz.f51) (by kernel_rfl) (by kernel_rfl) (by kernel_rfl) (ann := [(8, [1, 5])])
  (show hFunc prog TT [(8, [1, 5])] Go.Proofs.Tryz.f51 [a0, a1] st R from (show hFunc prog TT [(8, [1, 5])] Go.Proofs.Tryz.f51 [a0, a1] st R = b_laws_markTreeS a0 a1 st R by kernel_rfl) ▸ h)
def b_laws_heldTreeS (a0 a1 : PV) (st : St) (R : Res → St → Prop) : Prop :=
 hFix (fun ls st X =>
  qb (q_len a0) fun v8 =>
  qb (q_bin .lss (ls.getD 1 .junk) v8) fun v9 =>
  cb v9 fun b => br b
   (qb (q_ia 4 a0 (ls.getD 1 .junk)) fun v14 =>
   qb (q_fa 0 v14) fun v15 =>
   qb (q_load st false 1 v15) fun v16 =>
   qb (q_bin .neq v16 (ls.getD 0 .junk)) fun v18 =>
   cb v18 fun b_1 => br b_1
    (retR R (.int .i64 (-1)) st)
    (qb (q_bin .add (ls.getD 0 .junk) (.int .i64 1)) fun v20 =>
    qb (q_ia 4 a0 (ls.getD 1 .junk)) fun v23 =>
    qb (q_fa 1 v23) fun v24 =>
    qb (q_load st false 1 v24) fun v25 =>
    qb (q_bin .neq v25 v20) fun v27 =>
    cb v27 fun b_2 => br b_2
     (retR R (.int .i64 (-1)) st)
     (qb (q_bin .add v20 (.int .i64 1)) fun v29 =>
     qb (q_ia 4 a0 (ls.getD 1 .junk)) fun v32 =>
     qb (q_fa 2 v32) fun v33 =>
     qb (q_load st false 1 v33) fun v34 =>
     callK prog n_laws_markText [v29] st (fun v36 st =>
     q_load st false 1 v33 = some v34 ∧ (qb (q_bin .neq v34 v36) fun v37 =>
     cb v37 fun b_3 => br b_3
      (retR R (.int .i64 (-1)) st)
      (qb (q_bin .add v29 (.int .i64 1)) fun v39 =>
      qb (q_ia 4 a0 (ls.getD 1 .junk)) fun v42 =>
      qb (q_fa 3 v42) fun v43 =>
      qb (q_load st false 1 v43) fun v44 =>
      callK prog n_laws_heldTreeS [v44, v39] st (fun v46 st =>
      qb (q_bin .lss v46 (.int .i64 0)) fun v48 =>
      cb v48 fun b_4 => br b_4
       (retR R (.int .i64 (-1)) st)
       (qb (q_bin .add (ls.getD 1 .junk) (.int .i64 1)) fun v11 =>
       X [v46, v11] st)) (panR R)))) (panR R))))
   (retR R (ls.getD 0 .junk) st))
  [a1, (.int .i64 0)] st
theorem c_laws_heldTreeS {a0 a1 : PV} {st : St} {R : Res → St → Prop} (h : b_laws_heldTreeS a0 a1 st R) : HCalls prog n_laws_heldTreeS [a0, a1] st R :=
 hcalls_of_func tyOK mixed (fn := Go.Proofs.Tryz.f52) (by kernel_rfl) (by kernel_rfl) (by kernel_rfl) (ann := [(8, [1, 5])])
  (show hFunc prog TT [(8, [1, 5])] Go.Proofs.Tryz.f52 [a0, a1] st R from (show hFunc prog TT [(8, [1, 5])] Go.Proofs.Tryz.f52 [a0, a1] st R = b_laws_heldTreeS a0 a1 st R by kernel_rfl) ▸ h)
def b_impl_longText (a0 : PV) (st : St) (R : Res → St → Prop) : Prop :=
 qb (q_lenS a0) fun v4 =>
 qb (q_bin .gtr v4 (.int .i64 65536)) fun v5 =>
 retR R v5 st
theorem c_impl_longText {a0 : PV} {st : St} {R : Res → St → Prop} (h : b_impl_longText a0 st R) : HCalls prog n_impl_longText [a0] st R :=
 hcalls_of_func tyOK mixed (fn := Go.Proofs.Tryz.f56) (by kernel_rfl) (by kernel_rfl) (by kernel_rfl) (ann := [])
  (show hFunc prog TT [] Go.Proofs.Tryz.f56 [a0] st R from (show hFunc prog TT [] Go.Proofs.Tryz.f56 [a0] st R = b_impl_longText a0 st R by kernel_rfl) ▸ h)
def b_impl_has (a0 a1 : PV) (st : St) (R : Res → St → Prop) : Prop :=
 e_box st a1 fun v3 st =>
 callK prog n_slices_ContainsFunc_impl_Decl_impl_Decl [a0, (.fn (.func n_impl_has_1) [] [v3])] st (fun v7 st =>
 retR R v7 st) (panR R)
theorem c_impl_has {a0 a1 : PV} {st : St} {R : Res → St → Prop} (h : b_impl_has a0 a1 st R) : HCalls prog n_impl_has [a0, a1] st R :=
 hcalls_of_func tyOK mixed (fn := Go.Proofs.Tryz.f57) (by kernel_rfl) (by kernel_rfl) (by kernel_rfl) (ann := [])
  (show hFunc prog TT [] Go.Proofs.Tryz.f57 [a0, a1] st R from (show hFunc prog TT [] Go.Proofs.Tryz.f57 [a0, a1] st R = b_impl_has a0 a1 st R by kernel_rfl) ▸ h)
def b_impl_parsed (a0 a1 a2 : PV) (st : St) (R : Res → St → Prop) : Prop :=
 e_box st a0 fun v3 st =>
 e_box st a1 fun v4 st =>
 e_box st a2 fun v5 st =>
 e_alloc st [.int .i64 0, .int .i64 0, .str [], .sl 0 true []] fun v6 st =>
 qb (q_load st false 1 v3) fun v12 =>
 callK prog n_impl_longText [v12] st (fun v13 st =>
 cb v13 fun b => br b
  (qb (q_struct [.int .i64 0, .int .i64 0, .str [], .sl 0 true []] []) fun v14 =>
  e_store st 4 v6 v14 fun st =>
  qb (q_load st true 4 v6) fun r => retR R (.tup [r, (.int .i64 2), (.int .i64 0)]) st)
  (qb (q_load st false 1 v4) fun v16 =>
  callK prog n_impl_in [v16, (.int .i64 0), (.int .i64 100)] st (fun v17 st =>
  qb (q_un .not v17) fun v18 =>
  cb v18 fun b_1 => br b_1
   (qb (q_struct [.int .i64 0, .int .i64 0, .str [], .sl 0 true []] []) fun v19 =>
   e_store st 4 v6 v19 fun st =>
   qb (q_load st true 4 v6) fun r_1 => retR R (.tup [r_1, (.int .i64 16), (.int .i64 0)]) st)
   (qb (q_struct [.int .i64 0, .int .i64 0, .str [], .sl 0 true []] []) fun v20 =>
   e_alloc st [.int .i64 0, .int .i64 0, .str [], .sl 0 true []] fun v9 st =>
   e_store st 4 v9 v20 fun st =>
   callK prog n_impl_caught [(.fn (.func n_impl_parsed_1) [] [v3, v4, v5, v9])] st (fun v22 st =>
   e_alloc st [.int .i64 0, .int .i64 0] fun v10 st =>
   e_store st 2 v10 v22 fun st =>
   qb (q_fa 0 v10) fun v23 =>
   qb (q_load st false 1 v23) fun v24 =>
   qb (q_bin .neq v24 (.int .i64 0)) fun v25 =>
   cb v25 fun b_2 => br b_2
    (qb (q_struct [.int .i64 0, .int .i64 0, .str [], .sl 0 true []] []) fun v26 =>
    qb (q_fa 0 v10) fun v27 =>
    qb (q_load st false 1 v27) fun v28 =>
    qb (q_fa 1 v10) fun v29 =>
    qb (q_load st false 1 v29) fun v30 =>
    e_store st 4 v6 v26 fun st =>
    q_load st false 1 v29 = some v30 ∧ q_load st false 1 v27 = some v28 ∧ (qb (q_load st true 4 v6) fun r_2 => retR R (.tup [r_2, v28, v30]) st))
    (qb (q_load st true 4 v9) fun v31 =>
    callK prog n_impl_clone [v31] st (fun v32 st =>
    e_store st 4 v6 v32 fun st =>
    qb (q_load st true 4 v6) fun r_3 => retR R (.tup [r_3, (.int .i64 0), (.int .i64 0)]) st) (panR R))) (panR R))) (panR R))) (panR R)
theorem c_impl_parsed {a0 a1 a2 : PV} {st : St} {R : Res → St → Prop} (h : b_impl_parsed a0 a1 a2 st R) : HCalls prog n_impl_parsed [a0, a1, a2] st R :=
 hcalls_of_func tyOK mixed (fn := Go.Proofs.Tryz.f60) (by kernel_rfl) (by kernel_rfl) (by kernel_rfl) (ann := [])
  (show hFunc prog TT [] Go.Proofs.Tryz.f60 [a0, a1, a2] st R from (show hFunc prog TT [] Go.Proofs.Tryz.f60 [a0, a1, a2] st R = b_impl_parsed a0 a1 a2 st R by kernel_rfl) ▸ h)
end Go.H.Tryz
