/- Part of a proof that the program answers as the reference does: FS8. -/
import Derived.Test.YtemgbochnkpihaaGreatDoorHT
/- MADE BY PROGRAM (hgen.py): what the functions compute, over pure values. -/
set_option linter.unusedVariables false
set_option maxRecDepth 100000
namespace Go.H.Tryz
open Go Go.H
def b_impl_isHead (a0 : PV) (st : St) (R : Res → St → Prop) : Prop :=
 callK prog n_strings_IndexByte [(.str [97, 98, 99, 100, 101, 102, 103, 104, 105, 106, 107, 108, 109, 110, 111, 112, 113, 114, 115, 116, 117, 118, 119, 120, 121, 122, 65, 66, 67, 68, 69, 70, 71, 72, 73, 74, 75, 76, 77, 78, 79, 80, 81, 82, 83, 84, 85, 86, 87, 88, 89, 90, 95]), a0] st (fun v4 st =>
 qb (q_bin .geq v4 (.int .i64 0)) fun v5 =>
 retR R v5 st) (panR R)
theorem c_impl_isHead {a0 : PV} {st : St} {R : Res → St → Prop} (h : b_impl_isHead a0 st R) : HCalls prog n_impl_isHead [a0] st R :=
 hcalls_of_func tyOK mixed (fn := Go.Proofs.Tryz.f173) (by kernel_rfl) (by kernel_rfl) (by kernel_rfl) (ann := [])
  (show hFunc prog TT [] Go.Proofs.Tryz.f173 [a0] st R from (show hFunc prog TT [] Go.Proofs.Tryz.f173 [a0] st R = b_impl_isHead a0 st R by kernel_rfl) ▸ h)
def b_impl_wordOK (a0 : PV) (st : St) (R : Res → St → Prop) : Prop :=
 qb (q_lenS a0) fun v4 =>
 callK prog n_impl_in [v4, (.int .i64 1), (.int .i64 40)] st (fun v5 st =>
 cb v5 fun b => br b
  (qb (q_ix a0 (.int .i64 0)) fun v8 =>
  callK prog n_impl_isHead [v8] st (fun v9 st =>
  cb v9 fun b_1 => br b_1
   (callK prog n_impl_over [a0, (.str [97, 98, 99, 100, 101, 102, 103, 104, 105, 106, 107, 108, 109, 110, 111, 112, 113, 114, 115, 116, 117, 118, 119, 120, 121, 122, 65, 66, 67, 68, 69, 70, 71, 72, 73, 74, 75, 76, 77, 78, 79, 80, 81, 82, 83, 84, 85, 86, 87, 88, 89, 90, 95, 48, 49, 50, 51, 52, 53, 54, 55, 56, 57])] st (fun v13 st =>
   retR R v13 st) (panR R))
   (retR R (.bool false) st)) (panR R))
  (retR R (.bool false) st)) (panR R)
theorem c_impl_wordOK {a0 : PV} {st : St} {R : Res → St → Prop} (h : b_impl_wordOK a0 st R) : HCalls prog n_impl_wordOK [a0] st R :=
 hcalls_of_func tyOK mixed (fn := Go.Proofs.Tryz.f175) (by kernel_rfl) (by kernel_rfl) (by kernel_rfl) (ann := [])
  (show hFunc prog TT [] Go.Proofs.Tryz.f175 [a0] st R from (show hFunc prog TT [] Go.Proofs.Tryz.f175 [a0] st R = b_impl_wordOK a0 st R by kernel_rfl) ▸ h)
def b_spec_l01Under (a0 a1 : PV) (st : St) (R : Res → St → Prop) : Prop :=
 e_box st a0 fun v2 st =>
 qb (q_load st true 4 v2) fun v5 =>
 callK prog n_spec_l01Binds [v5, a1] st (fun v7 st =>
 cb v7 fun b => br b
  (retR R (.int .i64 1) st)
  (retR R (.int .i64 0) st)) (panR R)
theorem c_spec_l01Under {a0 a1 : PV} {st : St} {R : Res → St → Prop} (h : b_spec_l01Under a0 a1 st R) : HCalls prog n_spec_l01Under [a0, a1] st R :=
 hcalls_of_func tyOK mixed (fn := Go.Proofs.Tryz.f183) (by kernel_rfl) (by kernel_rfl) (by kernel_rfl) (ann := [])
  (show hFunc prog TT [] Go.Proofs.Tryz.f183 [a0, a1] st R from (show hFunc prog TT [] Go.Proofs.Tryz.f183 [a0, a1] st R = b_spec_l01Under a0 a1 st R by kernel_rfl) ▸ h)
def b_spec_l01With (a0 a1 : PV) (st : St) (R : Res → St → Prop) : Prop :=
 e_box st a0 fun v2 st =>
 e_alloc st [.int .i64 0, .int .i64 0, .str [], .sl 0 true []] fun v4 st =>
 qb (q_fa 0 v2) fun v5 =>
 qb (q_load st false 1 v5) fun v6 =>
 qb (q_fa 1 v2) fun v7 =>
 qb (q_load st false 1 v7) fun v8 =>
 qb (q_fa 2 v2) fun v9 =>
 qb (q_load st false 1 v9) fun v10 =>
 qb (q_struct [.int .i64 0, .int .i64 0, .str [], .sl 0 true []] [(0, 1, v6), (1, 1, v8), (2, 1, v10), (3, 1, a1)]) fun v12 =>
 e_store st 4 v4 v12 fun st =>
 qb (q_load st true 4 v4) fun r => retR R r st
theorem c_spec_l01With {a0 a1 : PV} {st : St} {R : Res → St → Prop} (h : b_spec_l01With a0 a1 st R) : HCalls prog n_spec_l01With [a0, a1] st R :=
 hcalls_of_func tyOK mixed (fn := Go.Proofs.Tryz.f184) (by kernel_rfl) (by kernel_rfl) (by kernel_rfl) (ann := [])
  (show hFunc prog TT [] Go.Proofs.Tryz.f184 [a0, a1] st R from (show hFunc prog TT [] Go.Proofs.Tryz.f184 [a0, a1] st R = b_spec_l01With a0 a1 st R by kernel_rfl) ▸ h)
end Go.H.Tryz
