/- Part of a proof that the program answers as the reference does: DS5. -/
import Derived.Test.YtmfdgpjmdbdhcaaDoorHT
/- MADE BY PROGRAM (hgen.py): what the functions compute, over pure values. -/
set_option linter.unusedVariables false
set_option maxRecDepth 100000
namespace Go.H.Tryd
open Go Go.H
def b_unicode_utf8_DecodeRuneInString (a0 : PV) (st : St) (R : Res → St → Prop) : Prop :=
 hJ (fun ls st =>
  cb (ls.getD 0 .junk) fun b => br b
   (qb (q_ix a0 (.int .i64 0)) fun v12 =>
   qb (q_conv .i32 v12) fun v13 =>
   retR R (.tup [v13, (.int .i64 1)]) st)
   (callK prog n_unicode_utf8_decodeRuneInStringSlow [a0] st (fun v16 st =>
   qb (q_ex v16 0) fun v17 =>
   qb (q_ex v16 1) fun v18 =>
   retR R (.tup [v17, v18]) st) (panR R)))
  (fun k =>
 qb (q_bin .neq a0 (.str [])) fun v5 =>
 cb v5 fun b_1 => br b_1
  (qb (q_ix a0 (.int .i64 0)) fun v8 =>
  qb (q_bin .lss v8 (.int .u8 128)) fun v9 =>
  k [v9] st)
  (k [(.bool false)] st))
theorem e_unicode_utf8_DecodeRuneInString : Enters prog n_unicode_utf8_DecodeRuneInString := ⟨Go.Proofs.Tryd.f106, by kernel_rfl, by kernel_rfl, by kernel_rfl⟩
theorem c_unicode_utf8_DecodeRuneInString {a0 : PV} {st : St} {R : Res → St → Prop} (h : b_unicode_utf8_DecodeRuneInString a0 st R) : HCalls prog n_unicode_utf8_DecodeRuneInString [a0] st R :=
 hcalls_of_func tyOK mixed (fn := Go.Proofs.Tryd.f106) (by kernel_rfl) (by kernel_rfl) (by kernel_rfl) (ann := [(5, [10])])
  (show hFunc prog TT [(5, [10])] Go.Proofs.Tryd.f106 [a0] st R from (show hFunc prog TT [(5, [10])] Go.Proofs.Tryd.f106 [a0] st R = b_unicode_utf8_DecodeRuneInString a0 st R by kernel_rfl) ▸ h)
def b_strings_ContainsRune (a0 a1 : PV) (st : St) (R : Res → St → Prop) : Prop :=
 callK prog n_strings_IndexRune [a0, a1] st (fun v7 st =>
 qb (q_bin .geq v7 (.int .i64 0)) fun v8 =>
 retR R v8 st) (panR R)
theorem e_strings_ContainsRune : Enters prog n_strings_ContainsRune := ⟨Go.Proofs.Tryd.f107, by kernel_rfl, by kernel_rfl, by kernel_rfl⟩
theorem c_strings_ContainsRune {a0 a1 : PV} {st : St} {R : Res → St → Prop} (h : b_strings_ContainsRune a0 a1 st R) : HCalls prog n_strings_ContainsRune [a0, a1] st R :=
 hcalls_of_func tyOK mixed (fn := Go.Proofs.Tryd.f107) (by kernel_rfl) (by kernel_rfl) (by kernel_rfl) (ann := [])
  (show hFunc prog TT [] Go.Proofs.Tryd.f107 [a0, a1] st R from (show hFunc prog TT [] Go.Proofs.Tryd.f107 [a0, a1] st R = b_strings_ContainsRune a0 a1 st R by kernel_rfl) ▸ h)
def b_unicode_utf8_DecodeLastRuneInString (a0 : PV) (st : St) (R : Res → St → Prop) : Prop :=
 qb (q_lenS a0) fun v8 =>
 qb (q_bin .eql v8 (.int .i64 0)) fun v10 =>
 cb v10 fun b => br b
  (retR R (.tup [(.int .i32 65533), (.int .i64 0)]) st)
  (qb (q_bin .sub v8 (.int .i64 1)) fun v12 =>
  qb (q_ix a0 v12) fun v15 =>
  qb (q_conv .i32 v15) fun v16 =>
  qb (q_bin .lss v16 (.int .i32 128)) fun v18 =>
  cb v18 fun b_1 => br b_1
   (retR R (.tup [v16, (.int .i64 1)]) st)
   (qb (q_bin .sub v8 (.int .i64 4)) fun v21 =>
   qb (q_max v21 (.int .i64 0)) fun v22 =>
   qb (q_bin .sub v12 (.int .i64 1)) fun v24 =>
   hJ (fun ls st =>
    qb (q_bin .lss (ls.getD 0 .junk) (.int .i64 0)) fun v35 =>
    hJ (fun ls_1 st =>
     qb (q_sliceS a0 (some (ls_1.getD 0 .junk)) (some v8) none) fun v40 =>
     callK prog n_unicode_utf8_DecodeRuneInString [v40] st (fun v41 st =>
     qb (q_ex v41 0) fun v42 =>
     qb (q_ex v41 1) fun v43 =>
     qb (q_bin .add (ls_1.getD 0 .junk) v43) fun v46 =>
     qb (q_bin .neq v46 v8) fun v48 =>
     cb v48 fun b_3 => br b_3
      (retR R (.tup [(.int .i32 65533), (.int .i64 1)]) st)
      (retR R (.tup [v42, v43]) st)) (panR R))
     (fun k_1 =>
    cb v35 fun b_2 => br b_2
     (k_1 [(.int .i64 0)] st)
     (k_1 [(ls.getD 0 .junk)] st)))
    (fun k =>
   hFix (fun ls_2 st X =>
    qb (q_bin .geq (ls_2.getD 0 .junk) v22) fun v27 =>
    cb v27 fun b_4 => br b_4
     (qb (q_ix a0 (ls_2.getD 0 .junk)) fun v32 =>
     callK prog n_unicode_utf8_RuneStart [v32] st (fun v33 st =>
     cb v33 fun b_5 => br b_5
      (k [(ls_2.getD 0 .junk)] st)
      (qb (q_bin .sub (ls_2.getD 0 .junk) (.int .i64 1)) fun v29 =>
      X [v29] st)) (panR R))
     (k [(ls_2.getD 0 .junk)] st))
    [v24] st)))
theorem e_unicode_utf8_DecodeLastRuneInString : Enters prog n_unicode_utf8_DecodeLastRuneInString := ⟨Go.Proofs.Tryd.f108, by kernel_rfl, by kernel_rfl, by kernel_rfl⟩
theorem c_unicode_utf8_DecodeLastRuneInString {a0 : PV} {st : St} {R : Res → St → Prop} (h : b_unicode_utf8_DecodeLastRuneInString a0 st R) : HCalls prog n_unicode_utf8_DecodeLastRuneInString [a0] st R :=
 hcalls_of_func tyOK mixed (fn := Go.Proofs.Tryd.f108) (by kernel_rfl) (by kernel_rfl) (by kernel_rfl) (ann := [(40, [5]), (3, [5]), (58, [5])])
  (show hFunc prog TT [(40, [5]), (3, [5]), (58, [5])] Go.Proofs.Tryd.f108 [a0] st R from (show hFunc prog TT [(40, [5]), (3, [5]), (58, [5])] Go.Proofs.Tryd.f108 [a0] st R = b_unicode_utf8_DecodeLastRuneInString a0 st R by kernel_rfl) ▸ h)
def b_spec_l01Under (a0 a1 : PV) (st : St) (R : Res → St → Prop) : Prop :=
 e_box st a0 fun v2 st =>
 qb (q_load st true 4 v2) fun v5 =>
 callK prog n_spec_l01Binds [v5, a1] st (fun v7 st =>
 cb v7 fun b => br b
  (retR R (.int .i64 1) st)
  (retR R (.int .i64 0) st)) (panR R)
theorem e_spec_l01Under : Enters prog n_spec_l01Under := ⟨Go.Proofs.Tryd.f109, by kernel_rfl, by kernel_rfl, by kernel_rfl⟩
theorem c_spec_l01Under {a0 a1 : PV} {st : St} {R : Res → St → Prop} (h : b_spec_l01Under a0 a1 st R) : HCalls prog n_spec_l01Under [a0, a1] st R :=
 hcalls_of_func tyOK mixed (fn := Go.Proofs.Tryd.f109) (by kernel_rfl) (by kernel_rfl) (by kernel_rfl) (ann := [])
  (show hFunc prog TT [] Go.Proofs.Tryd.f109 [a0, a1] st R from (show hFunc prog TT [] Go.Proofs.Tryd.f109 [a0, a1] st R = b_spec_l01Under a0 a1 st R by kernel_rfl) ▸ h)
def b_impl_turned (a0 a1 a2 : PV) (st : St) (R : Res → St → Prop) : Prop :=
 e_box st a0 fun v3 st =>
 e_alloc st [.int .i64 0, .int .i64 0, .str [], .sl 0 true []] fun v6 st =>
 qb (q_lit 4 0 0 [] []) fun v10 =>
 qb (q_fa 3 v3) fun v11 =>
 qb (q_load st false 1 v11) fun v12 =>
 qb (q_len v12) fun v13 =>
 hJ (fun ls st =>
  qb (q_fa 3 v3) fun v31 =>
  e_store st 1 v31 (ls.getD 0 .junk) fun st =>
  qb (q_fa 0 v3) fun v32 =>
  qb (q_load st false 1 v32) fun v33 =>
  qb (q_bin .eql v33 (.int .i64 5)) fun v34 =>
  cb v34 fun b => br b
   (qb (q_load st true 4 v3) fun v36 =>
   e_call prog st a2 [v36, a1] (fun v38 st =>
   e_store st 4 v6 v38 fun st =>
   qb (q_load st true 4 v6) fun r => retR R r st) (panR R))
   (qb (q_load st true 4 v3) fun v39 =>
   e_store st 4 v6 v39 fun st =>
   qb (q_load st true 4 v6) fun r_1 => retR R r_1 st))
  (fun k =>
 hFix (fun ls_1 st X =>
  qb (q_bin .lss (ls_1.getD 1 .junk) v13) fun v15 =>
  cb v15 fun b_1 => br b_1
   (qb (q_ia 4 v12 (ls_1.getD 1 .junk)) fun v17 =>
   qb (q_load st true 4 v17) fun v18 =>
   e_alloc st [.int .i64 0, .int .i64 0, .str [], .sl 0 true []] fun v9 st =>
   e_store st 4 v9 v18 fun st =>
   qb (q_load st true 4 v9) fun v20 =>
   callK prog n_impl_Tree_under [v3, (ls_1.getD 1 .junk)] st (fun v23 st =>
   q_load st true 4 v9 = some v20 ∧ (qb (q_bin .add a1 v23) fun v24 =>
   callK prog n_impl_turned [v20, v24, a2] st (fun v26 st =>
   qb (q_lit 4 1 0 [] [(0, v26)]) fun v27 =>
   e_append st 4 56 (ls_1.getD 0 .junk) v27 (fun v28 st =>
   qb (q_bin .add (ls_1.getD 1 .junk) (.int .i64 1)) fun v29 =>
   X [v28, v29] st)) (panR R))) (panR R))
   (k [(ls_1.getD 0 .junk)] st))
  [v10, (.int .i64 0)] st)
theorem e_impl_turned : Enters prog n_impl_turned := ⟨Go.Proofs.Tryd.f110, by kernel_rfl, by kernel_rfl, by kernel_rfl⟩
theorem c_impl_turned {a0 a1 a2 : PV} {st : St} {R : Res → St → Prop} (h : b_impl_turned a0 a1 a2 st R) : HCalls prog n_impl_turned [a0, a1, a2] st R :=
 hcalls_of_func tyOK mixed (fn := Go.Proofs.Tryd.f110) (by kernel_rfl) (by kernel_rfl) (by kernel_rfl) (ann := [(12, [7, 14]), (3, [7])])
  (show hFunc prog TT [(12, [7, 14]), (3, [7])] Go.Proofs.Tryd.f110 [a0, a1, a2] st R from (show hFunc prog TT [(12, [7, 14]), (3, [7])] Go.Proofs.Tryd.f110 [a0, a1, a2] st R = b_impl_turned a0 a1 a2 st R by kernel_rfl) ▸ h)
def b_impl_lift_1 (a0 a1 a2 a3 : PV) (st : St) (R : Res → St → Prop) : Prop :=
 e_box st a0 fun v4 st =>
 e_alloc st [.int .i64 0, .int .i64 0, .str [], .sl 0 true []] fun v6 st =>
 qb (q_fa 1 v4) fun v7 =>
 qb (q_load st false 1 v7) fun v8 =>
 qb (q_load st false 1 a2) fun v9 =>
 qb (q_bin .add v9 a1) fun v11 =>
 qb (q_bin .geq v8 v11) fun v12 =>
 cb v12 fun b => br b
  (qb (q_fa 1 v4) fun v13 =>
  qb (q_load st false 1 v13) fun v14 =>
  qb (q_load st false 1 a3) fun v15 =>
  qb (q_bin .add v14 v15) fun v16 =>
  qb (q_fa 1 v4) fun v17 =>
  e_store st 1 v17 v16 fun st =>
  qb (q_load st true 4 v4) fun v18 =>
  e_store st 4 v6 v18 fun st =>
  qb (q_load st true 4 v6) fun r => retR R r st)
  (qb (q_load st true 4 v4) fun v18_1 =>
  e_store st 4 v6 v18_1 fun st =>
  qb (q_load st true 4 v6) fun r_1 => retR R r_1 st)
theorem e_impl_lift_1 : Enters prog n_impl_lift_1 := ⟨Go.Proofs.Tryd.f111, by kernel_rfl, by kernel_rfl, by kernel_rfl⟩
theorem c_impl_lift_1 {a0 a1 a2 a3 : PV} {st : St} {R : Res → St → Prop} (h : b_impl_lift_1 a0 a1 a2 a3 st R) : HCalls prog n_impl_lift_1 [a0, a1, a2, a3] st R :=
 hcalls_of_func tyOK mixed (fn := Go.Proofs.Tryd.f111) (by kernel_rfl) (by kernel_rfl) (by kernel_rfl) (ann := [])
  (show hFunc prog TT [] Go.Proofs.Tryd.f111 [a0, a1, a2, a3] st R from (show hFunc prog TT [] Go.Proofs.Tryd.f111 [a0, a1, a2, a3] st R = b_impl_lift_1 a0 a1 a2 a3 st R by kernel_rfl) ▸ h)
def b_unicode_utf8_RuneStart (a0 : PV) (st : St) (R : Res → St → Prop) : Prop :=
 qb (q_bin .and a0 (.int .u8 192)) fun v4 =>
 qb (q_bin .neq v4 (.int .u8 128)) fun v5 =>
 retR R v5 st
theorem e_unicode_utf8_RuneStart : Enters prog n_unicode_utf8_RuneStart := ⟨Go.Proofs.Tryd.f115, by kernel_rfl, by kernel_rfl, by kernel_rfl⟩
theorem c_unicode_utf8_RuneStart {a0 : PV} {st : St} {R : Res → St → Prop} (h : b_unicode_utf8_RuneStart a0 st R) : HCalls prog n_unicode_utf8_RuneStart [a0] st R :=
 hcalls_of_func tyOK mixed (fn := Go.Proofs.Tryd.f115) (by kernel_rfl) (by kernel_rfl) (by kernel_rfl) (ann := [])
  (show hFunc prog TT [] Go.Proofs.Tryd.f115 [a0] st R from (show hFunc prog TT [] Go.Proofs.Tryd.f115 [a0] st R = b_unicode_utf8_RuneStart a0 st R by kernel_rfl) ▸ h)
def b_spec_l01Binds (a0 a1 : PV) (st : St) (R : Res → St → Prop) : Prop :=
 e_box st a0 fun v2 st =>
 qb (q_fa 0 v2) fun v5 =>
 qb (q_load st false 1 v5) fun v6 =>
 qb (q_bin .eql v6 (.int .i64 4)) fun v7 =>
 cb v7 fun b => br b
  (retR R (.bool true) st)
  (qb (q_fa 0 v2) fun v9 =>
  qb (q_load st false 1 v9) fun v10 =>
  qb (q_bin .eql v10 (.int .i64 2)) fun v11 =>
  cb v11 fun b_1 => br b_1
   (qb (q_bin .eql a1 (.int .i64 1)) fun v14 =>
   retR R v14 st)
   (retR R (.bool false) st))
theorem e_spec_l01Binds : Enters prog n_spec_l01Binds := ⟨Go.Proofs.Tryd.f116, by kernel_rfl, by kernel_rfl, by kernel_rfl⟩
theorem c_spec_l01Binds {a0 a1 : PV} {st : St} {R : Res → St → Prop} (h : b_spec_l01Binds a0 a1 st R) : HCalls prog n_spec_l01Binds [a0, a1] st R :=
 hcalls_of_func tyOK mixed (fn := Go.Proofs.Tryd.f116) (by kernel_rfl) (by kernel_rfl) (by kernel_rfl) (ann := [])
  (show hFunc prog TT [] Go.Proofs.Tryd.f116 [a0, a1] st R from (show hFunc prog TT [] Go.Proofs.Tryd.f116 [a0, a1] st R = b_spec_l01Binds a0 a1 st R by kernel_rfl) ▸ h)
def b_unicode_utf8_ValidRune (a0 : PV) (st : St) (R : Res → St → Prop) : Prop :=
 hJ (fun ls st =>
  cb (ls.getD 0 .junk) fun b => br b
   (retR R (.bool true) st)
   (qb (q_bin .lss (.int .i32 57343) a0) fun v12 =>
   cb v12 fun b_1 => br b_1
    (qb (q_bin .leq a0 (.int .i32 1114111)) fun v15 =>
    cb v15 fun b_2 => br b_2
     (retR R (.bool true) st)
     (retR R (.bool false) st))
    (retR R (.bool false) st)))
  (fun k =>
 qb (q_bin .leq (.int .i32 0) a0) fun v5 =>
 cb v5 fun b_3 => br b_3
  (qb (q_bin .lss a0 (.int .i32 55296)) fun v8 =>
  k [v8] st)
  (k [(.bool false)] st))
theorem e_unicode_utf8_ValidRune : Enters prog n_unicode_utf8_ValidRune := ⟨Go.Proofs.Tryd.f117, by kernel_rfl, by kernel_rfl, by kernel_rfl⟩
theorem c_unicode_utf8_ValidRune {a0 : PV} {st : St} {R : Res → St → Prop} (h : b_unicode_utf8_ValidRune a0 st R) : HCalls prog n_unicode_utf8_ValidRune [a0] st R :=
 hcalls_of_func tyOK mixed (fn := Go.Proofs.Tryd.f117) (by kernel_rfl) (by kernel_rfl) (by kernel_rfl) (ann := [(5, [3])])
  (show hFunc prog TT [(5, [3])] Go.Proofs.Tryd.f117 [a0] st R from (show hFunc prog TT [(5, [3])] Go.Proofs.Tryd.f117 [a0] st R = b_unicode_utf8_ValidRune a0 st R by kernel_rfl) ▸ h)
def b_internal_bytealg_Cutover (a0 : PV) (st : St) (R : Res → St → Prop) : Prop :=
 qb (q_bin .add a0 (.int .i64 16)) fun v4 =>
 qb (q_bin .quo v4 (.int .i64 8)) fun v5 =>
 retR R v5 st
theorem e_internal_bytealg_Cutover : Enters prog n_internal_bytealg_Cutover := ⟨Go.Proofs.Tryd.f118, by kernel_rfl, by kernel_rfl, by kernel_rfl⟩
theorem c_internal_bytealg_Cutover {a0 : PV} {st : St} {R : Res → St → Prop} (h : b_internal_bytealg_Cutover a0 st R) : HCalls prog n_internal_bytealg_Cutover [a0] st R :=
 hcalls_of_func tyOK mixed (fn := Go.Proofs.Tryd.f118) (by kernel_rfl) (by kernel_rfl) (by kernel_rfl) (ann := [])
  (show hFunc prog TT [] Go.Proofs.Tryd.f118 [a0] st R from (show hFunc prog TT [] Go.Proofs.Tryd.f118 [a0] st R = b_internal_bytealg_Cutover a0 st R by kernel_rfl) ▸ h)
end Go.H.Tryd
