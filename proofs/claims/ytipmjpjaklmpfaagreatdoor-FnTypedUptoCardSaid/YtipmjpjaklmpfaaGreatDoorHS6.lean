/- Part of a proof that the program answers as the reference does: ZGS6. -/
import Derived.Test.YtipmjpjaklmpfaaGreatDoorHT
/- MADE BY PROGRAM (hgen.py): what the functions compute, over pure values. -/
set_option linter.unusedVariables false
set_option maxRecDepth 100000
namespace Go.H.Tryz
open Go Go.H
def b_impl_simpler_typeOf_1 (a0 a1 : PV) (st : St) (R : Res → St → Prop) : Prop :=
 e_box st a0 fun v2 st =>
 qb (q_fa 0 v2) fun v4 =>
 qb (q_load st false 1 v4) fun v5 =>
 qb (q_fa 2 a1) fun v6 =>
 qb (q_load st false 1 v6) fun v7 =>
 qb (q_bin .eql v5 v7) fun v8 =>
 retR R v8 st
theorem c_impl_simpler_typeOf_1 {a0 a1 : PV} {st : St} {R : Res → St → Prop} (h : b_impl_simpler_typeOf_1 a0 a1 st R) : HCalls prog n_impl_simpler_typeOf_1 [a0, a1] st R :=
 hcalls_of_func tyOK mixed (fn := Go.Proofs.Tryz.f124) (by kernel_rfl) (by kernel_rfl) (by kernel_rfl) (ann := [])
  (show hFunc prog TT [] Go.Proofs.Tryz.f124 [a0, a1] st R from (show hFunc prog TT [] Go.Proofs.Tryz.f124 [a0, a1] st R = b_impl_simpler_typeOf_1 a0 a1 st R by kernel_rfl) ▸ h)
def b_spec_l00Word (a0 : PV) (st : St) (R : Res → St → Prop) : Prop :=
 qb (q_lenS a0) fun v5 =>
 qb (q_bin .lss v5 (.int .i64 1)) fun v6 =>
 cb v6 fun b => br b
  (retR R (.bool false) st)
  (qb (q_lenS a0) fun v9 =>
  qb (q_bin .gtr v9 (.int .i64 40)) fun v10 =>
  cb v10 fun b_1 => br b_1
   (retR R (.bool false) st)
   (qb (q_ix a0 (.int .i64 0)) fun v14 =>
   callK prog n_spec_l00Letter [v14] st (fun v15 st =>
   qb (q_un .not v15) fun v16 =>
   cb v16 fun b_2 => br b_2
    (retR R (.bool false) st)
    (hFix (fun ls st X =>
     qb (q_lenS a0) fun v20 =>
     qb (q_bin .lss (ls.getD 0 .junk) v20) fun v21 =>
     cb v21 fun b_3 => br b_3
      (qb (q_ix a0 (ls.getD 0 .junk)) fun v26 =>
      callK prog n_spec_l00Letter [v26] st (fun v27 st =>
      qb (q_un .not v27) fun v28 =>
      cb v28 fun b_4 => br b_4
       (qb (q_ix a0 (ls.getD 0 .junk)) fun v32 =>
       callK prog n_spec_l00Digit [v32] st (fun v33 st =>
       qb (q_un .not v33) fun v34 =>
       cb v34 fun b_5 => br b_5
        (retR R (.bool false) st)
        (qb (q_bin .add (ls.getD 0 .junk) (.int .i64 1)) fun v23 =>
        X [v23] st)) (panR R))
       (qb (q_bin .add (ls.getD 0 .junk) (.int .i64 1)) fun v23_1 =>
       X [v23_1] st)) (panR R))
      (retR R (.bool true) st))
     [(.int .i64 1)] st)) (panR R)))
theorem c_spec_l00Word {a0 : PV} {st : St} {R : Res → St → Prop} (h : b_spec_l00Word a0 st R) : HCalls prog n_spec_l00Word [a0] st R :=
 hcalls_of_func tyOK mixed (fn := Go.Proofs.Tryz.f130) (by kernel_rfl) (by kernel_rfl) (by kernel_rfl) (ann := [(16, [3])])
  (show hFunc prog TT [(16, [3])] Go.Proofs.Tryz.f130 [a0] st R from (show hFunc prog TT [(16, [3])] Go.Proofs.Tryz.f130 [a0] st R = b_spec_l00Word a0 st R by kernel_rfl) ▸ h)
def b_spec_l00Digit (a0 : PV) (st : St) (R : Res → St → Prop) : Prop :=
 qb (q_bin .geq a0 (.int .u8 48)) fun v4 =>
 cb v4 fun b => br b
  (qb (q_bin .leq a0 (.int .u8 57)) fun v7 =>
  retR R v7 st)
  (retR R (.bool false) st)
theorem c_spec_l00Digit {a0 : PV} {st : St} {R : Res → St → Prop} (h : b_spec_l00Digit a0 st R) : HCalls prog n_spec_l00Digit [a0] st R :=
 hcalls_of_func tyOK mixed (fn := Go.Proofs.Tryz.f131) (by kernel_rfl) (by kernel_rfl) (by kernel_rfl) (ann := [])
  (show hFunc prog TT [] Go.Proofs.Tryz.f131 [a0] st R from (show hFunc prog TT [] Go.Proofs.Tryz.f131 [a0] st R = b_spec_l00Digit a0 st R by kernel_rfl) ▸ h)
def b_impl_tooBig_1 (a0 a1 a2 : PV) (st : St) (R : Res → St → Prop) : Prop :=
 qb (q_load st false 1 a2) fun v6 =>
 qb (q_bin .add v6 (.int .i64 1)) fun v7 =>
 e_store st 1 a2 v7 fun st =>
 qb (q_load st false 1 a2) fun v8 =>
 qb (q_bin .gtr v8 (.int .i64 150)) fun v9 =>
 cb v9 fun b => br b
  (retR R (.bool true) st)
  (qb (q_nil a0) fun v12 =>
  qb (q_fa 0 v12) fun v13 =>
  qb (q_load st false 1 v13) fun v14 =>
  qb (q_bin .eql v14 (.int .i64 5)) fun v15 =>
  cb v15 fun b_1 => br b_1
   (qb (q_nil a0) fun v18 =>
   qb (q_fa 1 v18) fun v19 =>
   qb (q_load st false 1 v19) fun v20 =>
   qb (q_bin .gtr v20 (.int .i64 100)) fun v21 =>
   retR R v21 st)
   (retR R (.bool false) st))
theorem c_impl_tooBig_1 {a0 a1 a2 : PV} {st : St} {R : Res → St → Prop} (h : b_impl_tooBig_1 a0 a1 a2 st R) : HCalls prog n_impl_tooBig_1 [a0, a1, a2] st R :=
 hcalls_of_func tyOK mixed (fn := Go.Proofs.Tryz.f132) (by kernel_rfl) (by kernel_rfl) (by kernel_rfl) (ann := [])
  (show hFunc prog TT [] Go.Proofs.Tryz.f132 [a0, a1, a2] st R from (show hFunc prog TT [] Go.Proofs.Tryz.f132 [a0, a1, a2] st R = b_impl_tooBig_1 a0 a1 a2 st R by kernel_rfl) ▸ h)
def b_impl_isHead (a0 : PV) (st : St) (R : Res → St → Prop) : Prop :=
 callK prog n_strings_IndexByte [(.str [97, 98, 99, 100, 101, 102, 103, 104, 105, 106, 107, 108, 109, 110, 111, 112, 113, 114, 115, 116, 117, 118, 119, 120, 121, 122, 65, 66, 67, 68, 69, 70, 71, 72, 73, 74, 75, 76, 77, 78, 79, 80, 81, 82, 83, 84, 85, 86, 87, 88, 89, 90, 95]), a0] st (fun v4 st =>
 qb (q_bin .geq v4 (.int .i64 0)) fun v5 =>
 retR R v5 st) (panR R)
theorem c_impl_isHead {a0 : PV} {st : St} {R : Res → St → Prop} (h : b_impl_isHead a0 st R) : HCalls prog n_impl_isHead [a0] st R :=
 hcalls_of_func tyOK mixed (fn := Go.Proofs.Tryz.f133) (by kernel_rfl) (by kernel_rfl) (by kernel_rfl) (ann := [])
  (show hFunc prog TT [] Go.Proofs.Tryz.f133 [a0] st R from (show hFunc prog TT [] Go.Proofs.Tryz.f133 [a0] st R = b_impl_isHead a0 st R by kernel_rfl) ▸ h)
def b_internal_stringslite_CutPrefix (a0 a1 : PV) (st : St) (R : Res → St → Prop) : Prop :=
 callK prog n_internal_stringslite_HasPrefix [a0, a1] st (fun v8 st =>
 qb (q_un .not v8) fun v9 =>
 cb v9 fun b => br b
  (retR R (.tup [a0, (.bool false)]) st)
  (qb (q_lenS a1) fun v13 =>
  qb (q_sliceS a0 (some v13) none none) fun v14 =>
  retR R (.tup [v14, (.bool true)]) st)) (panR R)
theorem c_internal_stringslite_CutPrefix {a0 a1 : PV} {st : St} {R : Res → St → Prop} (h : b_internal_stringslite_CutPrefix a0 a1 st R) : HCalls prog n_internal_stringslite_CutPrefix [a0, a1] st R :=
 hcalls_of_func tyOK mixed (fn := Go.Proofs.Tryz.f134) (by kernel_rfl) (by kernel_rfl) (by kernel_rfl) (ann := [])
  (show hFunc prog TT [] Go.Proofs.Tryz.f134 [a0, a1] st R from (show hFunc prog TT [] Go.Proofs.Tryz.f134 [a0, a1] st R = b_internal_stringslite_CutPrefix a0 a1 st R by kernel_rfl) ▸ h)
theorem e_strings_Trim : Enters prog n_strings_Trim := ⟨Go.Proofs.Tryz.f135, by kernel_rfl, by kernel_rfl, by kernel_rfl⟩
def b_spec_l00Letter (a0 : PV) (st : St) (R : Res → St → Prop) : Prop :=
 qb (q_bin .geq a0 (.int .u8 97)) fun v4 =>
 cb v4 fun b => br b
  (qb (q_bin .leq a0 (.int .u8 122)) fun v7 =>
  cb v7 fun b_1 => br b_1
   (retR R (.bool true) st)
   (qb (q_bin .geq a0 (.int .u8 65)) fun v11 =>
   cb v11 fun b_2 => br b_2
    (qb (q_bin .leq a0 (.int .u8 90)) fun v14 =>
    cb v14 fun b_3 => br b_3
     (retR R (.bool true) st)
     (qb (q_bin .eql a0 (.int .u8 95)) fun v19 =>
     retR R v19 st))
    (qb (q_bin .eql a0 (.int .u8 95)) fun v19_1 =>
    retR R v19_1 st)))
  (qb (q_bin .geq a0 (.int .u8 65)) fun v11_1 =>
  cb v11_1 fun b_4 => br b_4
   (qb (q_bin .leq a0 (.int .u8 90)) fun v14_1 =>
   cb v14_1 fun b_5 => br b_5
    (retR R (.bool true) st)
    (qb (q_bin .eql a0 (.int .u8 95)) fun v19_2 =>
    retR R v19_2 st))
   (qb (q_bin .eql a0 (.int .u8 95)) fun v19_3 =>
   retR R v19_3 st))
theorem c_spec_l00Letter {a0 : PV} {st : St} {R : Res → St → Prop} (h : b_spec_l00Letter a0 st R) : HCalls prog n_spec_l00Letter [a0] st R :=
 hcalls_of_func tyOK mixed (fn := Go.Proofs.Tryz.f136) (by kernel_rfl) (by kernel_rfl) (by kernel_rfl) (ann := [])
  (show hFunc prog TT [] Go.Proofs.Tryz.f136 [a0] st R from (show hFunc prog TT [] Go.Proofs.Tryz.f136 [a0] st R = b_spec_l00Letter a0 st R by kernel_rfl) ▸ h)
theorem e_strings_IndexByte : Enters prog n_strings_IndexByte := ⟨Go.Proofs.Tryz.f137, by kernel_rfl, by kernel_rfl, by kernel_rfl⟩
def b_internal_stringslite_HasPrefix (a0 a1 : PV) (st : St) (R : Res → St → Prop) : Prop :=
 qb (q_lenS a0) fun v6 =>
 qb (q_lenS a1) fun v8 =>
 qb (q_bin .geq v6 v8) fun v9 =>
 cb v9 fun b => br b
  (qb (q_lenS a1) fun v13 =>
  qb (q_sliceS a0 none (some v13) none) fun v14 =>
  qb (q_bin .eql v14 a1) fun v16 =>
  retR R v16 st)
  (retR R (.bool false) st)
theorem c_internal_stringslite_HasPrefix {a0 a1 : PV} {st : St} {R : Res → St → Prop} (h : b_internal_stringslite_HasPrefix a0 a1 st R) : HCalls prog n_internal_stringslite_HasPrefix [a0, a1] st R :=
 hcalls_of_func tyOK mixed (fn := Go.Proofs.Tryz.f138) (by kernel_rfl) (by kernel_rfl) (by kernel_rfl) (ann := [])
  (show hFunc prog TT [] Go.Proofs.Tryz.f138 [a0, a1] st R from (show hFunc prog TT [] Go.Proofs.Tryz.f138 [a0, a1] st R = b_internal_stringslite_HasPrefix a0 a1 st R by kernel_rfl) ▸ h)
end Go.H.Tryz
