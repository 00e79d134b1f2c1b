/- Part of a proof that the program answers as the reference does: EDS11. -/
import Derived.Test.YtcgobhgnoobifaaGreatDoorHT
/- MADE BY PROGRAM (hgen.py): what the functions compute, over pure values. -/
set_option linter.unusedVariables false
set_option maxRecDepth 100000
namespace Go.H.Tryz
open Go Go.H
def b_unicode_utf8_RuneStart (a0 : PV) (st : St) (R : Res → St → Prop) : Prop :=
 qb (q_bin .and a0 (.int .u8 192)) fun v4 =>
 qb (q_bin .neq v4 (.int .u8 128)) fun v5 =>
 retR R v5 st
theorem e_unicode_utf8_RuneStart : Enters prog n_unicode_utf8_RuneStart := ⟨Go.Proofs.Tryz.f230, by kernel_rfl, by kernel_rfl, by kernel_rfl⟩
theorem c_unicode_utf8_RuneStart {a0 : PV} {st : St} {R : Res → St → Prop} (h : b_unicode_utf8_RuneStart a0 st R) : HCalls prog n_unicode_utf8_RuneStart [a0] st R :=
 hcalls_of_func tyOK mixed (fn := Go.Proofs.Tryz.f230) (by kernel_rfl) (by kernel_rfl) (by kernel_rfl) (ann := [])
  (show hFunc prog TT [] Go.Proofs.Tryz.f230 [a0] st R from (show hFunc prog TT [] Go.Proofs.Tryz.f230 [a0] st R = b_unicode_utf8_RuneStart a0 st R by kernel_rfl) ▸ h)
def b_unicode_utf8_ValidRune (a0 : PV) (st : St) (R : Res → St → Prop) : Prop :=
 hJ (fun ls st =>
  cb (ls.getD 0 .junk) fun b => br b
   (retR R (.bool true) st)
   (qb (q_bin .lss (.int .i32 57343) a0) fun v12 =>
   cb v12 fun b_1 => br b_1
    (qb (q_bin .leq a0 (.int .i32 1114111)) fun v15 =>
    cb v15 fun b_2 => br b_2
     (retR R (.bool true) st)
     (retR R (.bool false) st))
    (retR R (.bool false) st)))
  (fun k =>
 qb (q_bin .leq (.int .i32 0) a0) fun v5 =>
 cb v5 fun b_3 => br b_3
  (qb (q_bin .lss a0 (.int .i32 55296)) fun v8 =>
  k [v8] st)
  (k [(.bool false)] st))
theorem e_unicode_utf8_ValidRune : Enters prog n_unicode_utf8_ValidRune := ⟨Go.Proofs.Tryz.f231, by kernel_rfl, by kernel_rfl, by kernel_rfl⟩
theorem c_unicode_utf8_ValidRune {a0 : PV} {st : St} {R : Res → St → Prop} (h : b_unicode_utf8_ValidRune a0 st R) : HCalls prog n_unicode_utf8_ValidRune [a0] st R :=
 hcalls_of_func tyOK mixed (fn := Go.Proofs.Tryz.f231) (by kernel_rfl) (by kernel_rfl) (by kernel_rfl) (ann := [(5, [3])])
  (show hFunc prog TT [(5, [3])] Go.Proofs.Tryz.f231 [a0] st R from (show hFunc prog TT [(5, [3])] Go.Proofs.Tryz.f231 [a0] st R = b_unicode_utf8_ValidRune a0 st R by kernel_rfl) ▸ h)
def b_internal_bytealg_Cutover (a0 : PV) (st : St) (R : Res → St → Prop) : Prop :=
 qb (q_bin .add a0 (.int .i64 16)) fun v4 =>
 qb (q_bin .quo v4 (.int .i64 8)) fun v5 =>
 retR R v5 st
theorem e_internal_bytealg_Cutover : Enters prog n_internal_bytealg_Cutover := ⟨Go.Proofs.Tryz.f232, by kernel_rfl, by kernel_rfl, by kernel_rfl⟩
theorem c_internal_bytealg_Cutover {a0 : PV} {st : St} {R : Res → St → Prop} (h : b_internal_bytealg_Cutover a0 st R) : HCalls prog n_internal_bytealg_Cutover [a0] st R :=
 hcalls_of_func tyOK mixed (fn := Go.Proofs.Tryz.f232) (by kernel_rfl) (by kernel_rfl) (by kernel_rfl) (ann := [])
  (show hFunc prog TT [] Go.Proofs.Tryz.f232 [a0] st R from (show hFunc prog TT [] Go.Proofs.Tryz.f232 [a0] st R = b_internal_bytealg_Cutover a0 st R by kernel_rfl) ▸ h)
end Go.H.Tryz
