/- Part of a proof that the program answers as the reference does: FS0. -/
import Derived.Test.YtemgbochnkpihaaGreatDoorHT
/- MADE BY PROGRAM (hgen.py): what the functions compute, over pure values. -/
set_option linter.unusedVariables false
set_option maxRecDepth 100000
namespace Go.H.Tryz
open Go Go.H
def b_laws_FnExactLogicSig (st : St) (R : Res → St → Prop) : Prop :=
 callK prog n_spec_LogicSig [] st (fun v6 st =>
 callK prog n_impl_LogicSig [] st (fun v7 st =>
 callK prog n_laws_eqDeclS [v7, v6] st (fun v10 st =>
 qb (q_un .not v10) fun v11 =>
 cb v11 fun b => br b
  (retR R (.bool false) st)
  (callK prog n_laws_markDeclS [v7, (.int .i64 1)] st (fun v14 st =>
  callK prog n_laws_heldDeclS [v7, (.int .i64 1)] st (fun v17 st =>
  qb (q_bin .lss v17 (.int .i64 0)) fun v19 =>
  cb v19 fun b_1 => br b_1
   (retR R (.bool false) st)
   (qb (q_bin .neq v17 v14) fun v22 =>
   cb v22 fun b_2 => br b_2
    (retR R (.bool false) st)
    (callK prog n_impl_LogicSig [] st (fun v23 st =>
    callK prog n_laws_eqDeclS [v23, v6] st (fun v26 st =>
    qb (q_un .not v26) fun v27 =>
    cb v27 fun b_3 => br b_3
     (retR R (.bool false) st)
     (callK prog n_laws_heldDeclS [v7, (.int .i64 1)] st (fun v30 st =>
     qb (q_bin .lss v30 (.int .i64 0)) fun v32 =>
     cb v32 fun b_4 => br b_4
      (retR R (.bool false) st)
      (qb (q_bin .neq v30 v14) fun v35 =>
      cb v35 fun b_5 => br b_5
       (retR R (.bool false) st)
       (retR R (.bool true) st))) (panR R))) (panR R)) (panR R)))) (panR R)) (panR R))) (panR R)) (panR R)) (panR R)
theorem c_laws_FnExactLogicSig {st : St} {R : Res → St → Prop} (h : b_laws_FnExactLogicSig  st R) : HCalls prog n_laws_FnExactLogicSig [] st R :=
 hcalls_of_func tyOK mixed (fn := Go.Proofs.Tryz.f9) (by kernel_rfl) (by kernel_rfl) (by kernel_rfl) (ann := [])
  (show hFunc prog TT [] Go.Proofs.Tryz.f9 [] st R from (show hFunc prog TT [] Go.Proofs.Tryz.f9 [] st R = b_laws_FnExactLogicSig  st R by kernel_rfl) ▸ h)
def b_laws_eqDeclS (a0 a1 : PV) (st : St) (R : Res → St → Prop) : Prop :=
 qb (q_len a0) fun v7 =>
 qb (q_len a1) fun v9 =>
 qb (q_bin .neq v7 v9) fun v10 =>
 cb v10 fun b => br b
  (retR R (.bool false) st)
  (hFix (fun ls st X =>
   qb (q_len a0) fun v13 =>
   qb (q_bin .lss (ls.getD 0 .junk) v13) fun v14 =>
   cb v14 fun b_1 => br b_1
    (qb (q_ia 6 a0 (ls.getD 0 .junk)) fun v19 =>
    qb (q_load st true 6 v19) fun v20 =>
    qb (q_ia 6 a1 (ls.getD 0 .junk)) fun v23 =>
    qb (q_load st true 6 v23) fun v24 =>
    callK prog n_laws_eqDecl [v20, v24] st (fun v25 st =>
    qb (q_un .not v25) fun v26 =>
    cb v26 fun b_2 => br b_2
     (retR R (.bool false) st)
     (qb (q_bin .add (ls.getD 0 .junk) (.int .i64 1)) fun v16 =>
     X [v16] st)) (panR R))
    (retR R (.bool true) st))
   [(.int .i64 0)] st)
theorem e_laws_eqDeclS : Enters prog n_laws_eqDeclS := ⟨Go.Proofs.Tryz.f16, by kernel_rfl, by kernel_rfl, by kernel_rfl⟩
theorem c_laws_eqDeclS {a0 a1 : PV} {st : St} {R : Res → St → Prop} (h : b_laws_eqDeclS a0 a1 st R) : HCalls prog n_laws_eqDeclS [a0, a1] st R :=
 hcalls_of_func tyOK mixed (fn := Go.Proofs.Tryz.f16) (by kernel_rfl) (by kernel_rfl) (by kernel_rfl) (ann := [(16, [5])])
  (show hFunc prog TT [(16, [5])] Go.Proofs.Tryz.f16 [a0, a1] st R from (show hFunc prog TT [(16, [5])] Go.Proofs.Tryz.f16 [a0, a1] st R = b_laws_eqDeclS a0 a1 st R by kernel_rfl) ▸ h)
def b_laws_markDeclS (a0 a1 : PV) (st : St) (R : Res → St → Prop) : Prop :=
 hFix (fun ls st X =>
  qb (q_len a0) fun v8 =>
  qb (q_bin .lss (ls.getD 1 .junk) v8) fun v9 =>
  cb v9 fun b => br b
   (callK prog n_laws_markText [(ls.getD 0 .junk)] st (fun v15 st =>
   qb (q_ia 6 a0 (ls.getD 1 .junk)) fun v16 =>
   qb (q_fa 0 v16) fun v17 =>
   e_store st 1 v17 v15 fun st =>
   qb (q_bin .add (ls.getD 0 .junk) (.int .i64 1)) fun v19 =>
   qb (q_bin .rem v19 (.int .i64 3)) fun v23 =>
   qb (q_bin .eql v23 (.int .i64 0)) fun v24 =>
   qb (q_ia 6 a0 (ls.getD 1 .junk)) fun v25 =>
   qb (q_fa 1 v25) fun v26 =>
   e_store st 1 v26 v24 fun st =>
   qb (q_bin .add v19 (.int .i64 1)) fun v28 =>
   qb (q_ia 6 a0 (ls.getD 1 .junk)) fun v32 =>
   qb (q_fa 2 v32) fun v33 =>
   qb (q_fa 0 v33) fun v34 =>
   e_store st 1 v34 v28 fun st =>
   qb (q_bin .add v28 (.int .i64 1)) fun v36 =>
   qb (q_ia 6 a0 (ls.getD 1 .junk)) fun v40 =>
   qb (q_fa 2 v40) fun v41 =>
   qb (q_fa 1 v41) fun v42 =>
   e_store st 1 v42 v36 fun st =>
   qb (q_bin .add v36 (.int .i64 1)) fun v44 =>
   callK prog n_laws_markText [v44] st (fun v48 st =>
   qb (q_ia 6 a0 (ls.getD 1 .junk)) fun v49 =>
   qb (q_fa 2 v49) fun v50 =>
   qb (q_fa 2 v50) fun v51 =>
   e_store st 1 v51 v48 fun st =>
   qb (q_bin .add v44 (.int .i64 1)) fun v53 =>
   qb (q_ia 6 a0 (ls.getD 1 .junk)) fun v56 =>
   qb (q_fa 2 v56) fun v57 =>
   qb (q_fa 3 v57) fun v58 =>
   qb (q_load st false 1 v58) fun v59 =>
   callK prog n_laws_markTreeS [v59, v53] st (fun v61 st =>
   qb (q_bin .add (ls.getD 1 .junk) (.int .i64 1)) fun v11 =>
   X [v61, v11] st) (panR R)) (panR R)) (panR R))
   (retR R (ls.getD 0 .junk) st))
  [a1, (.int .i64 0)] st
theorem c_laws_markDeclS {a0 a1 : PV} {st : St} {R : Res → St → Prop} (h : b_laws_markDeclS a0 a1 st R) : HCalls prog n_laws_markDeclS [a0, a1] st R :=
 hcalls_of_func tyOK mixed (fn := Go.Proofs.Tryz.f17) (by kernel_rfl) (by kernel_rfl) (by kernel_rfl) (ann := [(8, [1, 5])])
  (show hFunc prog TT [(8, [1, 5])] Go.Proofs.Tryz.f17 [a0, a1] st R from (show hFunc prog TT [(8, [1, 5])] Go.Proofs.Tryz.f17 [a0, a1] st R = b_laws_markDeclS a0 a1 st R by kernel_rfl) ▸ h)
end Go.H.Tryz
