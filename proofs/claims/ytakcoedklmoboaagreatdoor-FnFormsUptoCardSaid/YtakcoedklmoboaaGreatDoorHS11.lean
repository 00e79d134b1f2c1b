/- Part of a proof that the program answers as the reference does: ZFS11. -/
import Derived.Test.YtakcoedklmoboaaGreatDoorHT
/- MADE BY PROGRAM (hgen.py): what the functions compute, over pure values. -/
set_option linter.unusedVariables false
set_option maxRecDepth 100000
namespace Go.H.Tryz
open Go Go.H
def b_slices_Backward_string_string_1 (a0 a1 : PV) (st : St) (R : Res → St → Prop) : Prop :=
 qb (q_load st false 1 a1) fun v4 =>
 qb (q_len v4) fun v5 =>
 qb (q_bin .sub v5 (.int .i64 1)) fun v6 =>
 hFix (fun ls st X =>
  qb (q_bin .geq (ls.getD 0 .junk) (.int .i64 0)) fun v8 =>
  cb v8 fun b => br b
   (qb (q_load st false 1 a1) fun v13 =>
   qb (q_ia 1 v13 (ls.getD 0 .junk)) fun v15 =>
   qb (q_load st false 1 v15) fun v16 =>
   e_call prog st a0 [(ls.getD 0 .junk), v16] (fun v17 st =>
   qb (q_un .not v17) fun v18 =>
   cb v18 fun b_1 => br b_1
    (retR R (.tup []) st)
    (qb (q_bin .sub (ls.getD 0 .junk) (.int .i64 1)) fun v10 =>
    X [v10] st)) (panR R))
   (retR R (.tup []) st))
  [v6] st
theorem c_slices_Backward_string_string_1 {a0 a1 : PV} {st : St} {R : Res → St → Prop} (h : b_slices_Backward_string_string_1 a0 a1 st R) : HCalls prog n_slices_Backward_string_string_1 [a0, a1] st R :=
 hcalls_of_func tyOK mixed (fn := Go.Proofs.Tryz.f236) (by kernel_rfl) (by kernel_rfl) (by kernel_rfl) (ann := [(4, [3])])
  (show hFunc prog TT [(4, [3])] Go.Proofs.Tryz.f236 [a0, a1] st R from (show hFunc prog TT [(4, [3])] Go.Proofs.Tryz.f236 [a0, a1] st R = b_slices_Backward_string_string_1 a0 a1 st R by kernel_rfl) ▸ h)
end Go.H.Tryz
