/- Part of a proof that the program answers as the reference does: ZHS10. -/
import Derived.Test.YtmjpemdbkenebaaGreatDoorHT
set_option linter.unusedVariables false
set_option maxRecDepth 100000
namespace Go.H.Tryz
open Go Go.H
def zq27 (a0 a1 : PV) (st : St) (R : Res → St → Prop) : Prop :=
 qb (zq0 st false 1 a1) fun v4 =>
 qb (zq1j v4) fun v5 =>
 qb (zqc .sub v5 (.int .i64 1)) fun v6 =>
 hFix (fun ls st X =>
  qb (zqc .geq (ls.getD 0 .junk) (.int .i64 0)) fun v8 =>
  cb v8 fun b => br b
   (qb (zq0 st false 1 a1) fun v13 =>
   qb (q_ia 1 v13 (ls.getD 0 .junk)) fun v15 =>
   qb (zq0 st false 1 v15) fun v16 =>
   zq57 prog st a0 [(ls.getD 0 .junk), v16] (fun v17 st =>
   qb (q_un .not v17) fun v18 =>
   cb v18 fun b_1 => br b_1
    (retR R (.tup []) st)
    (qb (zqc .sub (ls.getD 0 .junk) (.int .i64 1)) fun v10 =>
    X [v10] st)) (panR R))
   (retR R (.tup []) st))
  [v6] st
theorem zq45 {a0 a1 : PV} {st : St} {R : Res → St → Prop} (h : zq27 a0 a1 st R) : zq5 prog n_slices_Backward_string_string_1 [a0, a1] st R := hcc (fn := Go.Proofs.Tryz.f218) (ann := [(4, [3])]) (by kernel_rfl) (by kernel_rfl) (by kernel_rfl) (by kernel_rfl) h
end Go.H.Tryz
