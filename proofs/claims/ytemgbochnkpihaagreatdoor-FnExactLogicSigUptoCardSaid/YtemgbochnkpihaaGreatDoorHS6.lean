/- Part of a proof that the program answers as the reference does: FS6. -/
import Derived.Test.YtemgbochnkpihaaGreatDoorHT
/- MADE BY PROGRAM (hgen.py): what the functions compute, over pure values. -/
set_option linter.unusedVariables false
set_option maxRecDepth 100000
namespace Go.H.Tryz
open Go Go.H
def b_impl_parser_due (a0 : PV) (st : St) (R : Res → St → Prop) : Prop :=
 e_alloc st [.int .i64 0, .int .i64 0, .str [], .sl 0 true []] fun v2 st =>
 callK prog n_impl_parser_next [a0] st (fun v6 st =>
 qb (q_nil a0) fun v8 =>
 qb (q_fa 1 v8) fun v9 =>
 qb (q_load st false 1 v9) fun v10 =>
 callK prog n_impl_parser_family [a0] st (fun v12 st =>
 e_alloc st [.int .i64 0, .int .i64 0, .str [], .sl 0 true []] fun v4 st =>
 e_store st 4 v4 v12 fun st =>
 qb (q_load st true 4 v4) fun v13 =>
 callK prog n_impl_isKind [v13] st (fun v14 st =>
 cb v14 fun b => br b
  (callK prog n_impl_stop [(.int .i64 3), v10] st (fun v16 st =>
  qb (q_load st true 4 v4) fun v17 =>
  e_store st 4 v2 v17 fun st =>
  qb (q_load st true 4 v2) fun r => retR R r st) (panR R))
  (qb (q_load st true 4 v4) fun v17_1 =>
  e_store st 4 v2 v17_1 fun st =>
  qb (q_load st true 4 v2) fun r_1 => retR R r_1 st)) (panR R)) (panR R)) (panR R)
theorem c_impl_parser_due {a0 : PV} {st : St} {R : Res → St → Prop} (h : b_impl_parser_due a0 st R) : HCalls prog n_impl_parser_due [a0] st R :=
 hcalls_of_func tyOK mixed (fn := Go.Proofs.Tryz.f127) (by kernel_rfl) (by kernel_rfl) (by kernel_rfl) (ann := [])
  (show hFunc prog TT [] Go.Proofs.Tryz.f127 [a0] st R from (show hFunc prog TT [] Go.Proofs.Tryz.f127 [a0] st R = b_impl_parser_due a0 st R by kernel_rfl) ▸ h)
def b_impl_pi (a0 a1 : PV) (st : St) (R : Res → St → Prop) : Prop :=
 e_box st a0 fun v2 st =>
 e_box st a1 fun v3 st =>
 e_alloc st [.int .i64 0, .int .i64 0, .str [], .sl 0 true []] fun v4 st =>
 qb (q_load st true 4 v2) fun v5 =>
 qb (q_load st true 4 v3) fun v6 =>
 qb (q_lit 4 2 0 [] [(0, v5), (1, v6)]) fun v7 =>
 qb (q_struct [.int .i64 0, .int .i64 0, .str [], .sl 0 true []] [(0, 1, (.int .i64 2)), (3, 1, v7)]) fun v8 =>
 e_store st 4 v4 v8 fun st =>
 qb (q_load st true 4 v4) fun r => retR R r st
theorem c_impl_pi {a0 a1 : PV} {st : St} {R : Res → St → Prop} (h : b_impl_pi a0 a1 st R) : HCalls prog n_impl_pi [a0, a1] st R :=
 hcalls_of_func tyOK mixed (fn := Go.Proofs.Tryz.f128) (by kernel_rfl) (by kernel_rfl) (by kernel_rfl) (ann := [])
  (show hFunc prog TT [] Go.Proofs.Tryz.f128 [a0, a1] st R from (show hFunc prog TT [] Go.Proofs.Tryz.f128 [a0, a1] st R = b_impl_pi a0 a1 st R by kernel_rfl) ▸ h)
def b_impl_parser_first (a0 : PV) (st : St) (R : Res → St → Prop) : Prop :=
 e_alloc st [.int .i64 0, .int .i64 0, .str [], .sl 0 true []] fun v2 st =>
 callK prog n_impl_parser_next [a0] st (fun v8 st =>
 qb (q_nil a0) fun v10 =>
 qb (q_fa 1 v10) fun v11 =>
 qb (q_load st false 1 v11) fun v12 =>
 hJ (fun ls st =>
  callK prog n_impl_parser_run [a0, (.str [97, 98, 99, 100, 101, 102, 103, 104, 105, 106, 107, 108, 109, 110, 111, 112, 113, 114, 115, 116, 117, 118, 119, 120, 121, 122, 65, 66, 67, 68, 69, 70, 71, 72, 73, 74, 75, 76, 77, 78, 79, 80, 81, 82, 83, 84, 85, 86, 87, 88, 89, 90, 95, 48, 49, 50, 51, 52, 53, 54, 55, 56, 57])] st (fun v40 st =>
  hJ (fun ls_1 st =>
   callK prog n_impl_parser_node [a0, v12] st (fun v60 st =>
   callK prog n_impl_NameOK [v40] st (fun v62 st =>
   qb (q_un .not v62) fun v63 =>
   hJ (fun ls_2 st =>
    callK prog n_impl_parser_args [a0] st (fun v68 st =>
    qb (q_struct [.int .i64 0, .int .i64 0, .str [], .sl 0 true []] [(0, 1, (.int .i64 3)), (2, 1, v40), (3, 1, v68)]) fun v69 =>
    e_store st 4 v2 v69 fun st =>
    qb (q_load st true 4 v2) fun r => retR R r st) (panR R))
    (fun k_2 =>
   cb v63 fun b => br b
    (callK prog n_impl_stop [(.int .i64 5), v12] st (fun v65 st =>
    k_2 [] st) (panR R))
    (k_2 [] st))) (panR R)) (panR R))
   (fun k_1 =>
  qb (q_bin .eql v40 (.str [116, 121, 112, 101])) fun v43 =>
  cb v43 fun b_1 => br b_1
   (callK prog n_impl_parser_node [a0, v12] st (fun v46 st =>
   qb (q_struct [.int .i64 0, .int .i64 0, .str [], .sl 0 true []] [(0, 1, (.int .i64 1))]) fun v47 =>
   e_store st 4 v2 v47 fun st =>
   qb (q_load st true 4 v2) fun r_1 => retR R r_1 st) (panR R))
   (qb (q_bin .eql v40 (.str [95])) fun v50 =>
   cb v50 fun b_2 => br b_2
    (callK prog n_impl_stop [(.int .i64 4), v12] st (fun v57 st =>
    k_1 [] st) (panR R))
    (qb (q_lenS v40) fun v53 =>
    qb (q_bin .gtr v53 (.int .i64 40)) fun v54 =>
    cb v54 fun b_3 => br b_3
     (callK prog n_impl_stop [(.int .i64 4), v12] st (fun v57_1 st =>
     k_1 [] st) (panR R))
     (k_1 [] st))))) (panR R))
  (fun k =>
 qb (q_bin .eql v8 (.int .i64 40)) fun v15 =>
 cb v15 fun b_4 => br b_4
  (qb (q_nil a0) fun v17 =>
  qb (q_fa 1 v17) fun v18 =>
  qb (q_load st false 1 v18) fun v19 =>
  qb (q_bin .add v19 (.int .i64 1)) fun v20 =>
  qb (q_nil a0) fun v21 =>
  qb (q_fa 1 v21) fun v22 =>
  e_store st 1 v22 v20 fun st =>
  callK prog n_impl_parser_family [a0] st (fun v24 st =>
  e_alloc st [.int .i64 0, .int .i64 0, .str [], .sl 0 true []] fun v5 st =>
  e_store st 4 v5 v24 fun st =>
  callK prog n_impl_parser_expect [a0, (.int .i64 41)] st (fun v26 st =>
  qb (q_load st true 4 v5) fun v27 =>
  e_store st 4 v2 v27 fun st =>
  qb (q_load st true 4 v2) fun r_2 => retR R r_2 st) (panR R)) (panR R))
  (qb (q_bin .eql v8 (.int .i64 (-1))) fun v30 =>
  cb v30 fun b_5 => br b_5
   (callK prog n_impl_stop [(.int .i64 4), v12] st (fun v38 st =>
   k [] st) (panR R))
   (qb (q_conv .u8 v8) fun v33 =>
   callK prog n_impl_isHead [v33] st (fun v34 st =>
   qb (q_un .not v34) fun v35 =>
   cb v35 fun b_6 => br b_6
    (callK prog n_impl_stop [(.int .i64 4), v12] st (fun v38_1 st =>
    k [] st) (panR R))
    (k [] st)) (panR R))))) (panR R)
theorem c_impl_parser_first {a0 : PV} {st : St} {R : Res → St → Prop} (h : b_impl_parser_first a0 st R) : HCalls prog n_impl_parser_first [a0] st R :=
 hcalls_of_func tyOK mixed (fn := Go.Proofs.Tryz.f129) (by kernel_rfl) (by kernel_rfl) (by kernel_rfl) (ann := [(3, []), (7, []), (74, [])])
  (show hFunc prog TT [(3, []), (7, []), (74, [])] Go.Proofs.Tryz.f129 [a0] st R from (show hFunc prog TT [(3, []), (7, []), (74, [])] Go.Proofs.Tryz.f129 [a0] st R = b_impl_parser_first a0 st R by kernel_rfl) ▸ h)
def b_impl_parser_byte (a0 a1 : PV) (st : St) (R : Res → St → Prop) : Prop :=
 qb (q_nil a0) fun v7 =>
 qb (q_fa 0 v7) fun v8 =>
 qb (q_load st false 1 v8) fun v9 =>
 qb (q_lenS v9) fun v10 =>
 qb (q_bin .geq a1 v10) fun v11 =>
 cb v11 fun b => br b
  (retR R (.int .i64 (-1)) st)
  (qb (q_nil a0) fun v13 =>
  qb (q_fa 0 v13) fun v14 =>
  qb (q_load st false 1 v14) fun v15 =>
  qb (q_ix v15 a1) fun v17 =>
  qb (q_conv .i64 v17) fun v18 =>
  retR R v18 st)
theorem c_impl_parser_byte {a0 a1 : PV} {st : St} {R : Res → St → Prop} (h : b_impl_parser_byte a0 a1 st R) : HCalls prog n_impl_parser_byte [a0, a1] st R :=
 hcalls_of_func tyOK mixed (fn := Go.Proofs.Tryz.f130) (by kernel_rfl) (by kernel_rfl) (by kernel_rfl) (ann := [])
  (show hFunc prog TT [] Go.Proofs.Tryz.f130 [a0, a1] st R from (show hFunc prog TT [] Go.Proofs.Tryz.f130 [a0, a1] st R = b_impl_parser_byte a0 a1 st R by kernel_rfl) ▸ h)
def b_impl_stop (a0 a1 : PV) (st : St) (R : Res → St → Prop) : Prop :=
 qb (q_struct [.int .i64 0, .int .i64 0] [(0, 1, a0), (1, 1, a1)]) fun v6 =>
 qb (q_iface ty_impl_halt v6) fun v7 =>
 e_panic v7 st (panR R)
theorem c_impl_stop {a0 a1 : PV} {st : St} {R : Res → St → Prop} (h : b_impl_stop a0 a1 st R) : HCalls prog n_impl_stop [a0, a1] st R :=
 hcalls_of_func tyOK mixed (fn := Go.Proofs.Tryz.f131) (by kernel_rfl) (by kernel_rfl) (by kernel_rfl) (ann := [])
  (show hFunc prog TT [] Go.Proofs.Tryz.f131 [a0, a1] st R from (show hFunc prog TT [] Go.Proofs.Tryz.f131 [a0, a1] st R = b_impl_stop a0 a1 st R by kernel_rfl) ▸ h)
def b_impl_isKind (a0 : PV) (st : St) (R : Res → St → Prop) : Prop :=
 e_box st a0 fun v1 st =>
 hFix (fun ls st X =>
  qb (q_fa 0 v1) fun v3 =>
  qb (q_load st false 1 v3) fun v4 =>
  qb (q_bin .eql v4 (.int .i64 2)) fun v5 =>
  cb v5 fun b => br b
   (qb (q_fa 3 v1) fun v6 =>
   qb (q_load st false 1 v6) fun v7 =>
   qb (q_ia 4 v7 (.int .i64 1)) fun v8 =>
   qb (q_load st true 4 v8) fun v9 =>
   e_store st 4 v1 v9 fun st =>
   X [] st)
   (qb (q_fa 0 v1) fun v10 =>
   qb (q_load st false 1 v10) fun v11 =>
   qb (q_bin .eql v11 (.int .i64 1)) fun v12 =>
   retR R v12 st))
  [] st
theorem c_impl_isKind {a0 : PV} {st : St} {R : Res → St → Prop} (h : b_impl_isKind a0 st R) : HCalls prog n_impl_isKind [a0] st R :=
 hcalls_of_func tyOK mixed (fn := Go.Proofs.Tryz.f132) (by kernel_rfl) (by kernel_rfl) (by kernel_rfl) (ann := [(4, [])])
  (show hFunc prog TT [(4, [])] Go.Proofs.Tryz.f132 [a0] st R from (show hFunc prog TT [(4, [])] Go.Proofs.Tryz.f132 [a0] st R = b_impl_isKind a0 st R by kernel_rfl) ▸ h)
def b_impl_lift (a0 a1 a2 : PV) (st : St) (R : Res → St → Prop) : Prop :=
 e_box st a0 fun v3 st =>
 e_box st a1 fun v4 st =>
 e_box st a2 fun v5 st =>
 e_alloc st [.int .i64 0, .int .i64 0, .str [], .sl 0 true []] fun v6 st =>
 qb (q_load st true 4 v3) fun v7 =>
 callK prog n_impl_turned [v7, (.int .i64 0), (.fn (.func n_impl_lift_1) [] [v4, v5])] st (fun v9 st =>
 e_store st 4 v6 v9 fun st =>
 qb (q_load st true 4 v6) fun r => retR R r st) (panR R)
theorem c_impl_lift {a0 a1 a2 : PV} {st : St} {R : Res → St → Prop} (h : b_impl_lift a0 a1 a2 st R) : HCalls prog n_impl_lift [a0, a1, a2] st R :=
 hcalls_of_func tyOK mixed (fn := Go.Proofs.Tryz.f133) (by kernel_rfl) (by kernel_rfl) (by kernel_rfl) (ann := [])
  (show hFunc prog TT [] Go.Proofs.Tryz.f133 [a0, a1, a2] st R from (show hFunc prog TT [] Go.Proofs.Tryz.f133 [a0, a1, a2] st R = b_impl_lift a0 a1 a2 st R by kernel_rfl) ▸ h)
end Go.H.Tryz
