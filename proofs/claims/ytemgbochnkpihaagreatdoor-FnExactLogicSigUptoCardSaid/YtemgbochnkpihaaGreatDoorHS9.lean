/- Part of a proof that the program answers as the reference does: FS9. -/
import Derived.Test.YtemgbochnkpihaaGreatDoorHT
/- MADE BY PROGRAM (hgen.py): what the functions compute, over pure values. -/
set_option linter.unusedVariables false
set_option maxRecDepth 100000
namespace Go.H.Tryz
open Go Go.H
def b_impl_turned (a0 a1 a2 : PV) (st : St) (R : Res → St → Prop) : Prop :=
 e_box st a0 fun v3 st =>
 e_alloc st [.int .i64 0, .int .i64 0, .str [], .sl 0 true []] fun v6 st =>
 qb (q_lit 4 0 0 [] []) fun v10 =>
 qb (q_fa 3 v3) fun v11 =>
 qb (q_load st false 1 v11) fun v12 =>
 qb (q_len v12) fun v13 =>
 hJ (fun ls st =>
  qb (q_fa 3 v3) fun v31 =>
  e_store st 1 v31 (ls.getD 0 .junk) fun st =>
  qb (q_fa 0 v3) fun v32 =>
  qb (q_load st false 1 v32) fun v33 =>
  qb (q_bin .eql v33 (.int .i64 5)) fun v34 =>
  cb v34 fun b => br b
   (qb (q_load st true 4 v3) fun v36 =>
   e_call prog st a2 [v36, a1] (fun v38 st =>
   e_store st 4 v6 v38 fun st =>
   qb (q_load st true 4 v6) fun r => retR R r st) (panR R))
   (qb (q_load st true 4 v3) fun v39 =>
   e_store st 4 v6 v39 fun st =>
   qb (q_load st true 4 v6) fun r_1 => retR R r_1 st))
  (fun k =>
 hFix (fun ls_1 st X =>
  qb (q_bin .lss (ls_1.getD 1 .junk) v13) fun v15 =>
  cb v15 fun b_1 => br b_1
   (qb (q_ia 4 v12 (ls_1.getD 1 .junk)) fun v17 =>
   qb (q_load st true 4 v17) fun v18 =>
   e_alloc st [.int .i64 0, .int .i64 0, .str [], .sl 0 true []] fun v9 st =>
   e_store st 4 v9 v18 fun st =>
   qb (q_load st true 4 v9) fun v20 =>
   callK prog n_impl_Tree_under [v3, (ls_1.getD 1 .junk)] st (fun v23 st =>
   q_load st true 4 v9 = some v20 ∧ (qb (q_bin .add a1 v23) fun v24 =>
   callK prog n_impl_turned [v20, v24, a2] st (fun v26 st =>
   qb (q_lit 4 1 0 [] [(0, v26)]) fun v27 =>
   e_append st 4 56 (ls_1.getD 0 .junk) v27 (fun v28 st =>
   qb (q_bin .add (ls_1.getD 1 .junk) (.int .i64 1)) fun v29 =>
   X [v28, v29] st)) (panR R))) (panR R))
   (k [(ls_1.getD 0 .junk)] st))
  [v10, (.int .i64 0)] st)
theorem c_impl_turned {a0 a1 a2 : PV} {st : St} {R : Res → St → Prop} (h : b_impl_turned a0 a1 a2 st R) : HCalls prog n_impl_turned [a0, a1, a2] st R :=
 hcalls_of_func tyOK mixed (fn := Go.Proofs.Tryz.f189) (by kernel_rfl) (by kernel_rfl) (by kernel_rfl) (ann := [(12, [7, 14]), (3, [7])])
  (show hFunc prog TT [(12, [7, 14]), (3, [7])] Go.Proofs.Tryz.f189 [a0, a1, a2] st R from (show hFunc prog TT [(12, [7, 14]), (3, [7])] Go.Proofs.Tryz.f189 [a0, a1, a2] st R = b_impl_turned a0 a1 a2 st R by kernel_rfl) ▸ h)
def b_impl_lift_1 (a0 a1 a2 a3 : PV) (st : St) (R : Res → St → Prop) : Prop :=
 e_box st a0 fun v4 st =>
 e_alloc st [.int .i64 0, .int .i64 0, .str [], .sl 0 true []] fun v6 st =>
 qb (q_fa 1 v4) fun v7 =>
 qb (q_load st false 1 v7) fun v8 =>
 qb (q_load st false 1 a2) fun v9 =>
 qb (q_bin .add v9 a1) fun v11 =>
 qb (q_bin .geq v8 v11) fun v12 =>
 cb v12 fun b => br b
  (qb (q_fa 1 v4) fun v13 =>
  qb (q_load st false 1 v13) fun v14 =>
  qb (q_load st false 1 a3) fun v15 =>
  qb (q_bin .add v14 v15) fun v16 =>
  qb (q_fa 1 v4) fun v17 =>
  e_store st 1 v17 v16 fun st =>
  qb (q_load st true 4 v4) fun v18 =>
  e_store st 4 v6 v18 fun st =>
  qb (q_load st true 4 v6) fun r => retR R r st)
  (qb (q_load st true 4 v4) fun v18_1 =>
  e_store st 4 v6 v18_1 fun st =>
  qb (q_load st true 4 v6) fun r_1 => retR R r_1 st)
theorem c_impl_lift_1 {a0 a1 a2 a3 : PV} {st : St} {R : Res → St → Prop} (h : b_impl_lift_1 a0 a1 a2 a3 st R) : HCalls prog n_impl_lift_1 [a0, a1, a2, a3] st R :=
 hcalls_of_func tyOK mixed (fn := Go.Proofs.Tryz.f190) (by kernel_rfl) (by kernel_rfl) (by kernel_rfl) (ann := [])
  (show hFunc prog TT [] Go.Proofs.Tryz.f190 [a0, a1, a2, a3] st R from (show hFunc prog TT [] Go.Proofs.Tryz.f190 [a0, a1, a2, a3] st R = b_impl_lift_1 a0 a1 a2 a3 st R by kernel_rfl) ▸ h)
def b_internal_stringslite_HasSuffix (a0 a1 : PV) (st : St) (R : Res → St → Prop) : Prop :=
 qb (q_lenS a0) fun v6 =>
 qb (q_lenS a1) fun v8 =>
 qb (q_bin .geq v6 v8) fun v9 =>
 cb v9 fun b => br b
  (qb (q_lenS a0) fun v13 =>
  qb (q_lenS a1) fun v15 =>
  qb (q_bin .sub v13 v15) fun v16 =>
  qb (q_sliceS a0 (some v16) none none) fun v17 =>
  qb (q_bin .eql v17 a1) fun v19 =>
  retR R v19 st)
  (retR R (.bool false) st)
theorem c_internal_stringslite_HasSuffix {a0 a1 : PV} {st : St} {R : Res → St → Prop} (h : b_internal_stringslite_HasSuffix a0 a1 st R) : HCalls prog n_internal_stringslite_HasSuffix [a0, a1] st R :=
 hcalls_of_func tyOK mixed (fn := Go.Proofs.Tryz.f202) (by kernel_rfl) (by kernel_rfl) (by kernel_rfl) (ann := [])
  (show hFunc prog TT [] Go.Proofs.Tryz.f202 [a0, a1] st R from (show hFunc prog TT [] Go.Proofs.Tryz.f202 [a0, a1] st R = b_internal_stringslite_HasSuffix a0 a1 st R by kernel_rfl) ▸ h)
def b_strings_CutPrefix (a0 a1 : PV) (st : St) (R : Res → St → Prop) : Prop :=
 callK prog n_internal_stringslite_CutPrefix [a0, a1] st (fun v8 st =>
 qb (q_ex v8 0) fun v9 =>
 qb (q_ex v8 1) fun v10 =>
 retR R (.tup [v9, v10]) st) (panR R)
theorem c_strings_CutPrefix {a0 a1 : PV} {st : St} {R : Res → St → Prop} (h : b_strings_CutPrefix a0 a1 st R) : HCalls prog n_strings_CutPrefix [a0, a1] st R :=
 hcalls_of_func tyOK mixed (fn := Go.Proofs.Tryz.f203) (by kernel_rfl) (by kernel_rfl) (by kernel_rfl) (ann := [])
  (show hFunc prog TT [] Go.Proofs.Tryz.f203 [a0, a1] st R from (show hFunc prog TT [] Go.Proofs.Tryz.f203 [a0, a1] st R = b_strings_CutPrefix a0 a1 st R by kernel_rfl) ▸ h)
def b_impl_over (a0 a1 : PV) (st : St) (R : Res → St → Prop) : Prop :=
 callK prog n_strings_Trim [a0, a1] st (fun v7 st =>
 qb (q_bin .eql v7 (.str [])) fun v8 =>
 retR R v8 st) (panR R)
theorem c_impl_over {a0 a1 : PV} {st : St} {R : Res → St → Prop} (h : b_impl_over a0 a1 st R) : HCalls prog n_impl_over [a0, a1] st R :=
 hcalls_of_func tyOK mixed (fn := Go.Proofs.Tryz.f204) (by kernel_rfl) (by kernel_rfl) (by kernel_rfl) (ann := [])
  (show hFunc prog TT [] Go.Proofs.Tryz.f204 [a0, a1] st R from (show hFunc prog TT [] Go.Proofs.Tryz.f204 [a0, a1] st R = b_impl_over a0 a1 st R by kernel_rfl) ▸ h)
def b_impl_fresh (st : St) (R : Res → St → Prop) : Prop :=
 qb (q_struct [.int .i64 0, .bool false] [(0, 1, (.int .i64 150))]) fun v1 =>
 e_box st v1 fun v2 st =>
 retR R v2 st
theorem c_impl_fresh {st : St} {R : Res → St → Prop} (h : b_impl_fresh  st R) : HCalls prog n_impl_fresh [] st R :=
 hcalls_of_func tyOK mixed (fn := Go.Proofs.Tryz.f205) (by kernel_rfl) (by kernel_rfl) (by kernel_rfl) (ann := [])
  (show hFunc prog TT [] Go.Proofs.Tryz.f205 [] st R from (show hFunc prog TT [] Go.Proofs.Tryz.f205 [] st R = b_impl_fresh  st R by kernel_rfl) ▸ h)
def b_impl_looker_family (a0 a1 a2 : PV) (st : St) (R : Res → St → Prop) : Prop :=
 e_box st a1 fun v4 st =>
 callK prog n_impl_looker_node [a0] st (fun v8 st =>
 qb (q_un .not v8) fun v9 =>
 cb v9 fun b => br b
  (retR R (.bool false) st)
  (qb (q_fa 0 v4) fun v10 =>
  qb (q_load st false 1 v10) fun v11 =>
  qb (q_bin .eql v11 (.int .i64 1)) fun v13 =>
  cb v13 fun b_1 => br b_1
   (cb a2 fun b_2 => br b_2
    (callK prog n_impl_Tree_bare [v4, (.int .i64 0)] st (fun v16 st =>
    retR R v16 st) (panR R))
    (retR R (.bool false) st))
   (qb (q_bin .eql v11 (.int .i64 3)) fun v19 =>
   cb v19 fun b_3 => br b_3
    (qb (q_un .not a2) fun v21 =>
    cb v21 fun b_4 => br b_4
     (qb (q_fa 1 v4) fun v23 =>
     qb (q_load st false 1 v23) fun v24 =>
     qb (q_bin .eql v24 (.int .i64 0)) fun v25 =>
     cb v25 fun b_5 => br b_5
      (qb (q_fa 2 v4) fun v28 =>
      qb (q_load st false 1 v28) fun v29 =>
      callK prog n_impl_NameOK [v29] st (fun v30 st =>
      cb v30 fun b_6 => br b_6
       (qb (q_fa 3 v4) fun v34 =>
       qb (q_load st false 1 v34) fun v35 =>
       callK prog n_impl_looker_args [a0, v35] st (fun v36 st =>
       retR R v36 st) (panR R))
       (retR R (.bool false) st)) (panR R))
      (retR R (.bool false) st))
     (retR R (.bool false) st))
    (qb (q_bin .eql v11 (.int .i64 2)) fun v39 =>
    cb v39 fun b_7 => br b_7
     (callK prog n_impl_Tree_bare [v4, (.int .i64 2)] st (fun v40 st =>
     cb v40 fun b_8 => br b_8
      (qb (q_fa 3 v4) fun v43 =>
      qb (q_load st false 1 v43) fun v44 =>
      qb (q_ia 4 v44 (.int .i64 0)) fun v45 =>
      qb (q_load st true 4 v45) fun v46 =>
      callK prog n_impl_looker_family [a0, v46, (.bool false)] st (fun v47 st =>
      cb v47 fun b_9 => br b_9
       (qb (q_fa 3 v4) fun v51 =>
       qb (q_load st false 1 v51) fun v52 =>
       qb (q_ia 4 v52 (.int .i64 1)) fun v53 =>
       qb (q_load st true 4 v53) fun v54 =>
       callK prog n_impl_looker_family [a0, v54, a2] st (fun v56 st =>
       retR R v56 st) (panR R))
       (retR R (.bool false) st)) (panR R))
      (retR R (.bool false) st)) (panR R))
     (retR R (.bool false) st))))) (panR R)
theorem c_impl_looker_family {a0 a1 a2 : PV} {st : St} {R : Res → St → Prop} (h : b_impl_looker_family a0 a1 a2 st R) : HCalls prog n_impl_looker_family [a0, a1, a2] st R :=
 hcalls_of_func tyOK mixed (fn := Go.Proofs.Tryz.f206) (by kernel_rfl) (by kernel_rfl) (by kernel_rfl) (ann := [])
  (show hFunc prog TT [] Go.Proofs.Tryz.f206 [a0, a1, a2] st R from (show hFunc prog TT [] Go.Proofs.Tryz.f206 [a0, a1, a2] st R = b_impl_looker_family a0 a1 a2 st R by kernel_rfl) ▸ h)
end Go.H.Tryz
