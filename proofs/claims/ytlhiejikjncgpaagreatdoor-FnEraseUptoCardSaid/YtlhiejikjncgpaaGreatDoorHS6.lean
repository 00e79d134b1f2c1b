/- Part of a proof that the program answers as the reference does: EFS6. -/
import Derived.Test.YtlhiejikjncgpaaGreatDoorHT
/- MADE BY PROGRAM (hgen.py): what the functions compute, over pure values. -/
set_option linter.unusedVariables false
set_option maxRecDepth 100000
namespace Go.H.Tryz
open Go Go.H
def b_impl_cloneAll (a0 : PV) (st : St) (R : Res → St → Prop) : Prop :=
 qb (q_lit 4 0 0 [] []) fun v6 =>
 qb (q_len a0) fun v8 =>
 hFix (fun ls st X =>
  qb (q_bin .lss (ls.getD 1 .junk) v8) fun v10 =>
  cb v10 fun b => br b
   (qb (q_ia 4 a0 (ls.getD 1 .junk)) fun v11 =>
   qb (q_load st true 4 v11) fun v12 =>
   e_alloc st [.int .i64 0, .int .i64 0, .str [], .sl 0 true []] fun v5 st =>
   e_store st 4 v5 v12 fun st =>
   qb (q_load st true 4 v5) fun v14 =>
   callK prog n_impl_clone [v14] st (fun v15 st =>
   qb (q_lit 4 1 0 [] [(0, v15)]) fun v16 =>
   e_append st 4 56 (ls.getD 0 .junk) v16 (fun v17 st =>
   qb (q_bin .add (ls.getD 1 .junk) (.int .i64 1)) fun v18 =>
   X [v17, v18] st)) (panR R))
   (retR R (ls.getD 0 .junk) st))
  [v6, (.int .i64 0)] st
theorem c_impl_cloneAll {a0 : PV} {st : St} {R : Res → St → Prop} (h : b_impl_cloneAll a0 st R) : HCalls prog n_impl_cloneAll [a0] st R :=
 hcalls_of_func tyOK mixed (fn := Go.Proofs.Tryz.f130) (by kernel_rfl) (by kernel_rfl) (by kernel_rfl) (ann := [(12, [3, 9])])
  (show hFunc prog TT [(12, [3, 9])] Go.Proofs.Tryz.f130 [a0] st R from (show hFunc prog TT [(12, [3, 9])] Go.Proofs.Tryz.f130 [a0] st R = b_impl_cloneAll a0 st R by kernel_rfl) ▸ h)
def b_spec_l00Src_byte (a0 : PV) (st : St) (R : Res → St → Prop) : Prop :=
 qb (q_nil a0) fun v4 =>
 qb (q_fa 1 v4) fun v5 =>
 qb (q_load st false 1 v5) fun v6 =>
 qb (q_bin .add v6 (.int .i64 1)) fun v7 =>
 qb (q_nil a0) fun v8 =>
 qb (q_fa 1 v8) fun v9 =>
 e_store st 1 v9 v7 fun st =>
 qb (q_nil a0) fun v11 =>
 qb (q_fa 1 v11) fun v12 =>
 qb (q_load st false 1 v12) fun v13 =>
 qb (q_nil a0) fun v15 =>
 qb (q_fa 0 v15) fun v16 =>
 qb (q_load st false 1 v16) fun v17 =>
 qb (q_len v17) fun v18 =>
 qb (q_bin .leq v13 v18) fun v19 =>
 cb v19 fun b => br b
  (qb (q_nil a0) fun v22 =>
  qb (q_fa 2 v22) fun v23 =>
  qb (q_load st false 1 v23) fun v24 =>
  qb (q_bin .mul v24 (.int .i64 31)) fun v25 =>
  qb (q_nil a0) fun v27 =>
  qb (q_fa 0 v27) fun v28 =>
  qb (q_load st false 1 v28) fun v29 =>
  qb (q_nil a0) fun v31 =>
  qb (q_fa 1 v31) fun v32 =>
  qb (q_load st false 1 v32) fun v33 =>
  qb (q_bin .sub v33 (.int .i64 1)) fun v34 =>
  qb (q_ia 1 v29 v34) fun v35 =>
  qb (q_load st false 1 v35) fun v36 =>
  qb (q_conv .i64 v36) fun v37 =>
  qb (q_bin .add v25 v37) fun v38 =>
  qb (q_bin .add v38 (.int .i64 7)) fun v39 =>
  qb (q_bin .rem v39 (.int .i64 2147483648)) fun v40 =>
  qb (q_nil a0) fun v41 =>
  qb (q_fa 2 v41) fun v42 =>
  e_store st 1 v42 v40 fun st =>
  qb (q_nil a0) fun v44 =>
  qb (q_fa 0 v44) fun v45 =>
  qb (q_load st false 1 v45) fun v46 =>
  qb (q_nil a0) fun v48 =>
  qb (q_fa 1 v48) fun v49 =>
  qb (q_load st false 1 v49) fun v50 =>
  qb (q_bin .sub v50 (.int .i64 1)) fun v51 =>
  qb (q_ia 1 v46 v51) fun v52 =>
  qb (q_load st false 1 v52) fun v53 =>
  qb (q_conv .i64 v53) fun v54 =>
  retR R v54 st)
  (qb (q_nil a0) fun v56 =>
  qb (q_fa 1 v56) fun v57 =>
  qb (q_load st false 1 v57) fun v58 =>
  qb (q_bin .gtr v58 (.int .i64 3000)) fun v59 =>
  cb v59 fun b_1 => br b_1
   (retR R (.int .i64 0) st)
   (qb (q_nil a0) fun v62 =>
   qb (q_fa 2 v62) fun v63 =>
   qb (q_load st false 1 v63) fun v64 =>
   qb (q_bin .mul v64 (.int .i64 1103515245)) fun v65 =>
   qb (q_bin .add v65 (.int .i64 12345)) fun v66 =>
   qb (q_bin .rem v66 (.int .i64 2147483648)) fun v67 =>
   qb (q_nil a0) fun v68 =>
   qb (q_fa 2 v68) fun v69 =>
   e_store st 1 v69 v67 fun st =>
   qb (q_nil a0) fun v71 =>
   qb (q_fa 2 v71) fun v72 =>
   qb (q_load st false 1 v72) fun v73 =>
   qb (q_bin .quo v73 (.int .i64 65536)) fun v74 =>
   qb (q_bin .rem v74 (.int .i64 256)) fun v75 =>
   retR R v75 st))
theorem c_spec_l00Src_byte {a0 : PV} {st : St} {R : Res → St → Prop} (h : b_spec_l00Src_byte a0 st R) : HCalls prog n_spec_l00Src_byte [a0] st R :=
 hcalls_of_func tyOK mixed (fn := Go.Proofs.Tryz.f141) (by kernel_rfl) (by kernel_rfl) (by kernel_rfl) (ann := [])
  (show hFunc prog TT [] Go.Proofs.Tryz.f141 [a0] st R from (show hFunc prog TT [] Go.Proofs.Tryz.f141 [a0] st R = b_spec_l00Src_byte a0 st R by kernel_rfl) ▸ h)
end Go.H.Tryz
