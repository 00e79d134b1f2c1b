/- Part of a proof that the program answers as the reference does: EDS1. -/
import Derived.Test.YtcgobhgnoobifaaGreatDoorHT
/- MADE BY PROGRAM (hgen.py): what the functions compute, over pure values. -/
set_option linter.unusedVariables false
set_option maxRecDepth 100000
namespace Go.H.Tryz
open Go Go.H
def b_laws_toTreeS (a0 : PV) (st : St) (R : Res → St → Prop) : Prop :=
 qb (q_len a0) fun v6 =>
 e_make st 4 56 (.agg [.int .i64 0, .int .i64 0, .str [], .sl 0 true []]) v6 v6 fun v7 st =>
 hFix (fun ls st X =>
  qb (q_len a0) fun v10 =>
  qb (q_bin .lss (ls.getD 0 .junk) v10) fun v11 =>
  cb v11 fun b => br b
   (qb (q_ia 4 a0 (ls.getD 0 .junk)) fun v18 =>
   qb (q_load st true 4 v18) fun v19 =>
   callK prog n_laws_toTree [v19] st (fun v20 st =>
   qb (q_ia 4 v7 (ls.getD 0 .junk)) fun v21 =>
   e_store st 4 v21 v20 fun st =>
   qb (q_bin .add (ls.getD 0 .junk) (.int .i64 1)) fun v13 =>
   X [v13] st) (panR R))
   (retR R v7 st))
  [(.int .i64 0)] st
theorem c_laws_toTreeS {a0 : PV} {st : St} {R : Res → St → Prop} (h : b_laws_toTreeS a0 st R) : HCalls prog n_laws_toTreeS [a0] st R :=
 hcalls_of_func tyOK mixed (fn := Go.Proofs.Tryz.f22) (by kernel_rfl) (by kernel_rfl) (by kernel_rfl) (ann := [(12, [4])])
  (show hFunc prog TT [(12, [4])] Go.Proofs.Tryz.f22 [a0] st R from (show hFunc prog TT [(12, [4])] Go.Proofs.Tryz.f22 [a0] st R = b_laws_toTreeS a0 st R by kernel_rfl) ▸ h)
def b_laws_eqTreeS (a0 a1 : PV) (st : St) (R : Res → St → Prop) : Prop :=
 qb (q_len a0) fun v7 =>
 qb (q_len a1) fun v9 =>
 qb (q_bin .neq v7 v9) fun v10 =>
 cb v10 fun b => br b
  (retR R (.bool false) st)
  (hFix (fun ls st X =>
   qb (q_len a0) fun v13 =>
   qb (q_bin .lss (ls.getD 0 .junk) v13) fun v14 =>
   cb v14 fun b_1 => br b_1
    (qb (q_ia 4 a0 (ls.getD 0 .junk)) fun v19 =>
    qb (q_load st true 4 v19) fun v20 =>
    qb (q_ia 4 a1 (ls.getD 0 .junk)) fun v23 =>
    qb (q_load st true 4 v23) fun v24 =>
    callK prog n_laws_eqTree [v20, v24] st (fun v25 st =>
    qb (q_un .not v25) fun v26 =>
    cb v26 fun b_2 => br b_2
     (retR R (.bool false) st)
     (qb (q_bin .add (ls.getD 0 .junk) (.int .i64 1)) fun v16 =>
     X [v16] st)) (panR R))
    (retR R (.bool true) st))
   [(.int .i64 0)] st)
theorem c_laws_eqTreeS {a0 a1 : PV} {st : St} {R : Res → St → Prop} (h : b_laws_eqTreeS a0 a1 st R) : HCalls prog n_laws_eqTreeS [a0, a1] st R :=
 hcalls_of_func tyOK mixed (fn := Go.Proofs.Tryz.f24) (by kernel_rfl) (by kernel_rfl) (by kernel_rfl) (ann := [(16, [5])])
  (show hFunc prog TT [(16, [5])] Go.Proofs.Tryz.f24 [a0, a1] st R from (show hFunc prog TT [(16, [5])] Go.Proofs.Tryz.f24 [a0, a1] st R = b_laws_eqTreeS a0 a1 st R by kernel_rfl) ▸ h)
def b_laws_szTree (a0 a1 : PV) (st : St) (R : Res → St → Prop) : Prop :=
 e_box st a0 fun v2 st =>
 qb (q_fa 2 v2) fun v6 =>
 qb (q_load st false 1 v6) fun v7 =>
 qb (q_lenS v7) fun v8 =>
 qb (q_bin .sub a1 v8) fun v9 =>
 qb (q_bin .lss v9 (.int .i64 0)) fun v11 =>
 cb v11 fun b => br b
  (retR R (.int .i64 (-1)) st)
  (qb (q_fa 3 v2) fun v12 =>
  qb (q_load st false 1 v12) fun v13 =>
  callK prog n_laws_szTreeS [v13, v9] st (fun v15 st =>
  qb (q_bin .lss v15 (.int .i64 0)) fun v17 =>
  cb v17 fun b_1 => br b_1
   (retR R (.int .i64 (-1)) st)
   (retR R v15 st)) (panR R))
theorem c_laws_szTree {a0 a1 : PV} {st : St} {R : Res → St → Prop} (h : b_laws_szTree a0 a1 st R) : HCalls prog n_laws_szTree [a0, a1] st R :=
 hcalls_of_func tyOK mixed (fn := Go.Proofs.Tryz.f25) (by kernel_rfl) (by kernel_rfl) (by kernel_rfl) (ann := [])
  (show hFunc prog TT [] Go.Proofs.Tryz.f25 [a0, a1] st R from (show hFunc prog TT [] Go.Proofs.Tryz.f25 [a0, a1] st R = b_laws_szTree a0 a1 st R by kernel_rfl) ▸ h)
def b_laws_toTree (a0 : PV) (st : St) (R : Res → St → Prop) : Prop :=
 e_box st a0 fun v1 st =>
 e_alloc st [.int .i64 0, .int .i64 0, .str [], .sl 0 true []] fun v2 st =>
 e_alloc st [.int .i64 0, .int .i64 0, .str [], .sl 0 true []] fun v3 st =>
 qb (q_fa 0 v1) fun v4 =>
 qb (q_load st false 1 v4) fun v5 =>
 qb (q_fa 0 v3) fun v6 =>
 e_store st 1 v6 v5 fun st =>
 qb (q_fa 1 v1) fun v7 =>
 qb (q_load st false 1 v7) fun v8 =>
 qb (q_fa 1 v3) fun v9 =>
 e_store st 1 v9 v8 fun st =>
 qb (q_fa 2 v1) fun v10 =>
 qb (q_load st false 1 v10) fun v11 =>
 qb (q_fa 2 v3) fun v12 =>
 e_store st 1 v12 v11 fun st =>
 qb (q_fa 3 v1) fun v13 =>
 qb (q_load st false 1 v13) fun v14 =>
 callK prog n_laws_toTreeS [v14] st (fun v15 st =>
 qb (q_fa 3 v3) fun v16 =>
 e_store st 1 v16 v15 fun st =>
 qb (q_load st true 4 v3) fun v17 =>
 e_store st 4 v2 v17 fun st =>
 qb (q_load st true 4 v2) fun r => retR R r st) (panR R)
theorem c_laws_toTree {a0 : PV} {st : St} {R : Res → St → Prop} (h : b_laws_toTree a0 st R) : HCalls prog n_laws_toTree [a0] st R :=
 hcalls_of_func tyOK mixed (fn := Go.Proofs.Tryz.f27) (by kernel_rfl) (by kernel_rfl) (by kernel_rfl) (ann := [])
  (show hFunc prog TT [] Go.Proofs.Tryz.f27 [a0] st R from (show hFunc prog TT [] Go.Proofs.Tryz.f27 [a0] st R = b_laws_toTree a0 st R by kernel_rfl) ▸ h)
def b_laws_eqTree (a0 a1 : PV) (st : St) (R : Res → St → Prop) : Prop :=
 e_box st a0 fun v2 st =>
 e_box st a1 fun v3 st =>
 qb (q_fa 0 v2) fun v5 =>
 qb (q_load st false 1 v5) fun v6 =>
 qb (q_fa 0 v3) fun v7 =>
 qb (q_load st false 1 v7) fun v8 =>
 qb (q_bin .neq v6 v8) fun v9 =>
 cb v9 fun b => br b
  (retR R (.bool false) st)
  (qb (q_fa 1 v2) fun v10 =>
  qb (q_load st false 1 v10) fun v11 =>
  qb (q_fa 1 v3) fun v12 =>
  qb (q_load st false 1 v12) fun v13 =>
  qb (q_bin .neq v11 v13) fun v14 =>
  cb v14 fun b_1 => br b_1
   (retR R (.bool false) st)
   (qb (q_fa 2 v2) fun v15 =>
   qb (q_load st false 1 v15) fun v16 =>
   qb (q_fa 2 v3) fun v17 =>
   qb (q_load st false 1 v17) fun v18 =>
   qb (q_bin .neq v16 v18) fun v19 =>
   cb v19 fun b_2 => br b_2
    (retR R (.bool false) st)
    (qb (q_fa 3 v2) fun v20 =>
    qb (q_load st false 1 v20) fun v21 =>
    qb (q_fa 3 v3) fun v22 =>
    qb (q_load st false 1 v22) fun v23 =>
    callK prog n_laws_eqTreeS [v21, v23] st (fun v24 st =>
    qb (q_un .not v24) fun v25 =>
    cb v25 fun b_3 => br b_3
     (retR R (.bool false) st)
     (retR R (.bool true) st)) (panR R))))
theorem e_laws_eqTree : Enters prog n_laws_eqTree := ⟨Go.Proofs.Tryz.f29, by kernel_rfl, by kernel_rfl, by kernel_rfl⟩
theorem c_laws_eqTree {a0 a1 : PV} {st : St} {R : Res → St → Prop} (h : b_laws_eqTree a0 a1 st R) : HCalls prog n_laws_eqTree [a0, a1] st R :=
 hcalls_of_func tyOK mixed (fn := Go.Proofs.Tryz.f29) (by kernel_rfl) (by kernel_rfl) (by kernel_rfl) (ann := [])
  (show hFunc prog TT [] Go.Proofs.Tryz.f29 [a0, a1] st R from (show hFunc prog TT [] Go.Proofs.Tryz.f29 [a0, a1] st R = b_laws_eqTree a0 a1 st R by kernel_rfl) ▸ h)
def b_laws_markDeclS (a0 a1 : PV) (st : St) (R : Res → St → Prop) : Prop :=
 hFix (fun ls st X =>
  qb (q_len a0) fun v8 =>
  qb (q_bin .lss (ls.getD 1 .junk) v8) fun v9 =>
  cb v9 fun b => br b
   (callK prog n_laws_markText [(ls.getD 0 .junk)] st (fun v15 st =>
   qb (q_ia 6 a0 (ls.getD 1 .junk)) fun v16 =>
   qb (q_fa 0 v16) fun v17 =>
   e_store st 1 v17 v15 fun st =>
   qb (q_bin .add (ls.getD 0 .junk) (.int .i64 1)) fun v19 =>
   qb (q_bin .rem v19 (.int .i64 3)) fun v23 =>
   qb (q_bin .eql v23 (.int .i64 0)) fun v24 =>
   qb (q_ia 6 a0 (ls.getD 1 .junk)) fun v25 =>
   qb (q_fa 1 v25) fun v26 =>
   e_store st 1 v26 v24 fun st =>
   qb (q_bin .add v19 (.int .i64 1)) fun v28 =>
   qb (q_ia 6 a0 (ls.getD 1 .junk)) fun v32 =>
   qb (q_fa 2 v32) fun v33 =>
   qb (q_fa 0 v33) fun v34 =>
   e_store st 1 v34 v28 fun st =>
   qb (q_bin .add v28 (.int .i64 1)) fun v36 =>
   qb (q_ia 6 a0 (ls.getD 1 .junk)) fun v40 =>
   qb (q_fa 2 v40) fun v41 =>
   qb (q_fa 1 v41) fun v42 =>
   e_store st 1 v42 v36 fun st =>
   qb (q_bin .add v36 (.int .i64 1)) fun v44 =>
   callK prog n_laws_markText [v44] st (fun v48 st =>
   qb (q_ia 6 a0 (ls.getD 1 .junk)) fun v49 =>
   qb (q_fa 2 v49) fun v50 =>
   qb (q_fa 2 v50) fun v51 =>
   e_store st 1 v51 v48 fun st =>
   qb (q_bin .add v44 (.int .i64 1)) fun v53 =>
   qb (q_ia 6 a0 (ls.getD 1 .junk)) fun v56 =>
   qb (q_fa 2 v56) fun v57 =>
   qb (q_fa 3 v57) fun v58 =>
   qb (q_load st false 1 v58) fun v59 =>
   callK prog n_laws_markTreeS [v59, v53] st (fun v61 st =>
   qb (q_bin .add (ls.getD 1 .junk) (.int .i64 1)) fun v11 =>
   X [v61, v11] st) (panR R)) (panR R)) (panR R))
   (retR R (ls.getD 0 .junk) st))
  [a1, (.int .i64 0)] st
theorem c_laws_markDeclS {a0 a1 : PV} {st : St} {R : Res → St → Prop} (h : b_laws_markDeclS a0 a1 st R) : HCalls prog n_laws_markDeclS [a0, a1] st R :=
 hcalls_of_func tyOK mixed (fn := Go.Proofs.Tryz.f36) (by kernel_rfl) (by kernel_rfl) (by kernel_rfl) (ann := [(8, [1, 5])])
  (show hFunc prog TT [(8, [1, 5])] Go.Proofs.Tryz.f36 [a0, a1] st R from (show hFunc prog TT [(8, [1, 5])] Go.Proofs.Tryz.f36 [a0, a1] st R = b_laws_markDeclS a0 a1 st R by kernel_rfl) ▸ h)
end Go.H.Tryz
