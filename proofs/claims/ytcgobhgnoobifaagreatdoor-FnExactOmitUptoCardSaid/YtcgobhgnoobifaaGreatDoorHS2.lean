/- Part of a proof that the program answers as the reference does: EDS2. -/
import Derived.Test.YtcgobhgnoobifaaGreatDoorHT
/- MADE BY PROGRAM (hgen.py): what the functions compute, over pure values. -/
set_option linter.unusedVariables false
set_option maxRecDepth 100000
namespace Go.H.Tryz
open Go Go.H
def b_laws_markTreeS (a0 a1 : PV) (st : St) (R : Res → St → Prop) : Prop :=
 hFix (fun ls st X =>
  qb (q_len a0) fun v8 =>
  qb (q_bin .lss (ls.getD 1 .junk) v8) fun v9 =>
  cb v9 fun b => br b
   (qb (q_ia 4 a0 (ls.getD 1 .junk)) fun v15 =>
   qb (q_fa 0 v15) fun v16 =>
   e_store st 1 v16 (ls.getD 0 .junk) fun st =>
   qb (q_bin .add (ls.getD 0 .junk) (.int .i64 1)) fun v18 =>
   qb (q_ia 4 a0 (ls.getD 1 .junk)) fun v22 =>
   qb (q_fa 1 v22) fun v23 =>
   e_store st 1 v23 v18 fun st =>
   qb (q_bin .add v18 (.int .i64 1)) fun v25 =>
   callK prog n_laws_markText [v25] st (fun v29 st =>
   qb (q_ia 4 a0 (ls.getD 1 .junk)) fun v30 =>
   qb (q_fa 2 v30) fun v31 =>
   e_store st 1 v31 v29 fun st =>
   qb (q_bin .add v25 (.int .i64 1)) fun v33 =>
   qb (q_ia 4 a0 (ls.getD 1 .junk)) fun v36 =>
   qb (q_fa 3 v36) fun v37 =>
   qb (q_load st false 1 v37) fun v38 =>
   callK prog n_laws_markTreeS [v38, v33] st (fun v40 st =>
   qb (q_bin .add (ls.getD 1 .junk) (.int .i64 1)) fun v11 =>
   X [v40, v11] st) (panR R)) (panR R))
   (retR R (ls.getD 0 .junk) st))
  [a1, (.int .i64 0)] st
theorem c_laws_markTreeS {a0 a1 : PV} {st : St} {R : Res → St → Prop} (h : b_laws_markTreeS a0 a1 st R) : HCalls prog n_laws_markTreeS [a0, a1] st R :=
 hcalls_of_func tyOK mixed (fn := Go.Proofs.Tryz.f50) (by kernel_rfl) (by kernel_rfl) (by kernel_rfl) (ann := [(8, [1, 5])])
  (show hFunc prog TT [(8, [1, 5])] Go.Proofs.Tryz.f50 [a0, a1] st R from (show hFunc prog TT [(8, [1, 5])] Go.Proofs.Tryz.f50 [a0, a1] st R = b_laws_markTreeS a0 a1 st R by kernel_rfl) ▸ h)
def b_laws_markTree (a0 a1 : PV) (st : St) (R : Res → St → Prop) : Prop :=
 e_box st a0 fun v2 st =>
 qb (q_fa 3 v2) fun v5 =>
 qb (q_load st false 1 v5) fun v6 =>
 callK prog n_laws_markTreeS [v6, a1] st (fun v8 st =>
 retR R v8 st) (panR R)
theorem c_laws_markTree {a0 a1 : PV} {st : St} {R : Res → St → Prop} (h : b_laws_markTree a0 a1 st R) : HCalls prog n_laws_markTree [a0, a1] st R :=
 hcalls_of_func tyOK mixed (fn := Go.Proofs.Tryz.f51) (by kernel_rfl) (by kernel_rfl) (by kernel_rfl) (ann := [])
  (show hFunc prog TT [] Go.Proofs.Tryz.f51 [a0, a1] st R from (show hFunc prog TT [] Go.Proofs.Tryz.f51 [a0, a1] st R = b_laws_markTree a0 a1 st R by kernel_rfl) ▸ h)
def b_laws_heldTree (a0 a1 : PV) (st : St) (R : Res → St → Prop) : Prop :=
 e_box st a0 fun v2 st =>
 qb (q_fa 3 v2) fun v5 =>
 qb (q_load st false 1 v5) fun v6 =>
 callK prog n_laws_heldTreeS [v6, a1] st (fun v8 st =>
 qb (q_bin .lss v8 (.int .i64 0)) fun v10 =>
 cb v10 fun b => br b
  (retR R (.int .i64 (-1)) st)
  (retR R v8 st)) (panR R)
theorem c_laws_heldTree {a0 a1 : PV} {st : St} {R : Res → St → Prop} (h : b_laws_heldTree a0 a1 st R) : HCalls prog n_laws_heldTree [a0, a1] st R :=
 hcalls_of_func tyOK mixed (fn := Go.Proofs.Tryz.f52) (by kernel_rfl) (by kernel_rfl) (by kernel_rfl) (ann := [])
  (show hFunc prog TT [] Go.Proofs.Tryz.f52 [a0, a1] st R from (show hFunc prog TT [] Go.Proofs.Tryz.f52 [a0, a1] st R = b_laws_heldTree a0 a1 st R by kernel_rfl) ▸ h)
def b_laws_szDecl (a0 a1 : PV) (st : St) (R : Res → St → Prop) : Prop :=
 e_box st a0 fun v2 st =>
 qb (q_fa 0 v2) fun v6 =>
 qb (q_load st false 1 v6) fun v7 =>
 qb (q_lenS v7) fun v8 =>
 qb (q_bin .sub a1 v8) fun v9 =>
 qb (q_bin .lss v9 (.int .i64 0)) fun v11 =>
 cb v11 fun b => br b
  (retR R (.int .i64 (-1)) st)
  (qb (q_fa 2 v2) fun v12 =>
  qb (q_load st true 4 v12) fun v13 =>
  callK prog n_laws_szTree [v13, v9] st (fun v15 st =>
  qb (q_bin .lss v15 (.int .i64 0)) fun v17 =>
  cb v17 fun b_1 => br b_1
   (retR R (.int .i64 (-1)) st)
   (retR R v15 st)) (panR R))
theorem c_laws_szDecl {a0 a1 : PV} {st : St} {R : Res → St → Prop} (h : b_laws_szDecl a0 a1 st R) : HCalls prog n_laws_szDecl [a0, a1] st R :=
 hcalls_of_func tyOK mixed (fn := Go.Proofs.Tryz.f53) (by kernel_rfl) (by kernel_rfl) (by kernel_rfl) (ann := [])
  (show hFunc prog TT [] Go.Proofs.Tryz.f53 [a0, a1] st R from (show hFunc prog TT [] Go.Proofs.Tryz.f53 [a0, a1] st R = b_laws_szDecl a0 a1 st R by kernel_rfl) ▸ h)
def b_laws_toDecl (a0 : PV) (st : St) (R : Res → St → Prop) : Prop :=
 e_box st a0 fun v1 st =>
 e_alloc st [.str [], .bool false, .int .i64 0, .int .i64 0, .str [], .sl 0 true []] fun v2 st =>
 e_alloc st [.str [], .bool false, .int .i64 0, .int .i64 0, .str [], .sl 0 true []] fun v3 st =>
 qb (q_fa 0 v1) fun v4 =>
 qb (q_load st false 1 v4) fun v5 =>
 qb (q_fa 0 v3) fun v6 =>
 e_store st 1 v6 v5 fun st =>
 qb (q_fa 1 v1) fun v7 =>
 qb (q_load st false 1 v7) fun v8 =>
 qb (q_fa 1 v3) fun v9 =>
 e_store st 1 v9 v8 fun st =>
 qb (q_fa 2 v1) fun v10 =>
 qb (q_load st true 4 v10) fun v11 =>
 callK prog n_laws_toTree [v11] st (fun v12 st =>
 qb (q_fa 2 v3) fun v13 =>
 e_store st 4 v13 v12 fun st =>
 qb (q_load st true 6 v3) fun v14 =>
 e_store st 6 v2 v14 fun st =>
 qb (q_load st true 6 v2) fun r => retR R r st) (panR R)
theorem c_laws_toDecl {a0 : PV} {st : St} {R : Res → St → Prop} (h : b_laws_toDecl a0 st R) : HCalls prog n_laws_toDecl [a0] st R :=
 hcalls_of_func tyOK mixed (fn := Go.Proofs.Tryz.f55) (by kernel_rfl) (by kernel_rfl) (by kernel_rfl) (ann := [])
  (show hFunc prog TT [] Go.Proofs.Tryz.f55 [a0] st R from (show hFunc prog TT [] Go.Proofs.Tryz.f55 [a0] st R = b_laws_toDecl a0 st R by kernel_rfl) ▸ h)
def b_laws_eqDecl (a0 a1 : PV) (st : St) (R : Res → St → Prop) : Prop :=
 e_box st a0 fun v2 st =>
 e_box st a1 fun v3 st =>
 qb (q_fa 0 v2) fun v5 =>
 qb (q_load st false 1 v5) fun v6 =>
 qb (q_fa 0 v3) fun v7 =>
 qb (q_load st false 1 v7) fun v8 =>
 qb (q_bin .neq v6 v8) fun v9 =>
 cb v9 fun b => br b
  (retR R (.bool false) st)
  (qb (q_fa 1 v2) fun v10 =>
  qb (q_load st false 1 v10) fun v11 =>
  qb (q_fa 1 v3) fun v12 =>
  qb (q_load st false 1 v12) fun v13 =>
  qb (q_beq .neq v11 v13) fun v14 =>
  cb v14 fun b_1 => br b_1
   (retR R (.bool false) st)
   (qb (q_fa 2 v2) fun v15 =>
   qb (q_load st true 4 v15) fun v16 =>
   qb (q_fa 2 v3) fun v17 =>
   qb (q_load st true 4 v17) fun v18 =>
   callK prog n_laws_eqTree [v16, v18] st (fun v19 st =>
   qb (q_un .not v19) fun v20 =>
   cb v20 fun b_2 => br b_2
    (retR R (.bool false) st)
    (retR R (.bool true) st)) (panR R)))
theorem c_laws_eqDecl {a0 a1 : PV} {st : St} {R : Res → St → Prop} (h : b_laws_eqDecl a0 a1 st R) : HCalls prog n_laws_eqDecl [a0, a1] st R :=
 hcalls_of_func tyOK mixed (fn := Go.Proofs.Tryz.f57) (by kernel_rfl) (by kernel_rfl) (by kernel_rfl) (ann := [])
  (show hFunc prog TT [] Go.Proofs.Tryz.f57 [a0, a1] st R from (show hFunc prog TT [] Go.Proofs.Tryz.f57 [a0, a1] st R = b_laws_eqDecl a0 a1 st R by kernel_rfl) ▸ h)
def b_laws_eqBoolS (a0 a1 : PV) (st : St) (R : Res → St → Prop) : Prop :=
 qb (q_len a0) fun v7 =>
 qb (q_len a1) fun v9 =>
 qb (q_bin .neq v7 v9) fun v10 =>
 cb v10 fun b => br b
  (retR R (.bool false) st)
  (hFix (fun ls st X =>
   qb (q_len a0) fun v13 =>
   qb (q_bin .lss (ls.getD 0 .junk) v13) fun v14 =>
   cb v14 fun b_1 => br b_1
    (qb (q_ia 1 a0 (ls.getD 0 .junk)) fun v19 =>
    qb (q_load st false 1 v19) fun v20 =>
    qb (q_ia 1 a1 (ls.getD 0 .junk)) fun v23 =>
    qb (q_load st false 1 v23) fun v24 =>
    qb (q_beq .neq v20 v24) fun v25 =>
    cb v25 fun b_2 => br b_2
     (retR R (.bool false) st)
     (qb (q_bin .add (ls.getD 0 .junk) (.int .i64 1)) fun v16 =>
     X [v16] st))
    (retR R (.bool true) st))
   [(.int .i64 0)] st)
theorem c_laws_eqBoolS {a0 a1 : PV} {st : St} {R : Res → St → Prop} (h : b_laws_eqBoolS a0 a1 st R) : HCalls prog n_laws_eqBoolS [a0, a1] st R :=
 hcalls_of_func tyOK mixed (fn := Go.Proofs.Tryz.f61) (by kernel_rfl) (by kernel_rfl) (by kernel_rfl) (ann := [(16, [5])])
  (show hFunc prog TT [(16, [5])] Go.Proofs.Tryz.f61 [a0, a1] st R from (show hFunc prog TT [(16, [5])] Go.Proofs.Tryz.f61 [a0, a1] st R = b_laws_eqBoolS a0 a1 st R by kernel_rfl) ▸ h)
end Go.H.Tryz
