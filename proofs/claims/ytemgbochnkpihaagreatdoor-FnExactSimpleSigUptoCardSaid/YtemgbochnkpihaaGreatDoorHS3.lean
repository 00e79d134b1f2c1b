/- Part of a proof that the program answers as the reference does: FS3. -/
import Derived.Test.YtemgbochnkpihaaGreatDoorHT
/- MADE BY PROGRAM (hgen.py): what the functions compute, over pure values. -/
set_option linter.unusedVariables false
set_option maxRecDepth 100000
namespace Go.H.Tryz
open Go Go.H
def b_laws_eqTreeS (a0 a1 : PV) (st : St) (R : Res → St → Prop) : Prop :=
 qb (q_len a0) fun v7 =>
 qb (q_len a1) fun v9 =>
 qb (q_bin .neq v7 v9) fun v10 =>
 cb v10 fun b => br b
  (retR R (.bool false) st)
  (hFix (fun ls st X =>
   qb (q_len a0) fun v13 =>
   qb (q_bin .lss (ls.getD 0 .junk) v13) fun v14 =>
   cb v14 fun b_1 => br b_1
    (qb (q_ia 4 a0 (ls.getD 0 .junk)) fun v19 =>
    qb (q_load st true 4 v19) fun v20 =>
    qb (q_ia 4 a1 (ls.getD 0 .junk)) fun v23 =>
    qb (q_load st true 4 v23) fun v24 =>
    callK prog n_laws_eqTree [v20, v24] st (fun v25 st =>
    qb (q_un .not v25) fun v26 =>
    cb v26 fun b_2 => br b_2
     (retR R (.bool false) st)
     (qb (q_bin .add (ls.getD 0 .junk) (.int .i64 1)) fun v16 =>
     X [v16] st)) (panR R))
    (retR R (.bool true) st))
   [(.int .i64 0)] st)
theorem c_laws_eqTreeS {a0 a1 : PV} {st : St} {R : Res → St → Prop} (h : b_laws_eqTreeS a0 a1 st R) : HCalls prog n_laws_eqTreeS [a0, a1] st R :=
 hcalls_of_func tyOK mixed (fn := Go.Proofs.Tryz.f63) (by kernel_rfl) (by kernel_rfl) (by kernel_rfl) (ann := [(16, [5])])
  (show hFunc prog TT [(16, [5])] Go.Proofs.Tryz.f63 [a0, a1] st R from (show hFunc prog TT [(16, [5])] Go.Proofs.Tryz.f63 [a0, a1] st R = b_laws_eqTreeS a0 a1 st R by kernel_rfl) ▸ h)
end Go.H.Tryz
