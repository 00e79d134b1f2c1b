/- Part of a proof that the program answers as the reference does: ZDS8. -/
import Derived.Test.YtmfdgpjmdbdhcaaGreatDoorHT
/- MADE BY PROGRAM (hgen.py): what the functions compute, over pure values. -/
set_option linter.unusedVariables false
set_option maxRecDepth 100000
namespace Go.H.Tryz
open Go Go.H
def b_strings_trimLeftByte (a0 a1 : PV) (st : St) (R : Res → St → Prop) : Prop :=
 hFix (fun ls st X =>
  qb (q_lenS (ls.getD 0 .junk)) fun v6 =>
  qb (q_bin .gtr v6 (.int .i64 0)) fun v7 =>
  cb v7 fun b => br b
   (qb (q_ix (ls.getD 0 .junk) (.int .i64 0)) fun v10 =>
   qb (q_bin .eql v10 a1) fun v12 =>
   cb v12 fun b_1 => br b_1
    (qb (q_sliceS (ls.getD 0 .junk) (some (.int .i64 1)) none none) fun v15 =>
    X [v15] st)
    (retR R (ls.getD 0 .junk) st))
   (retR R (ls.getD 0 .junk) st))
  [a0] st
theorem e_strings_trimLeftByte : Enters prog n_strings_trimLeftByte := ⟨Go.Proofs.Tryz.f164, by kernel_rfl, by kernel_rfl, by kernel_rfl⟩
theorem c_strings_trimLeftByte {a0 a1 : PV} {st : St} {R : Res → St → Prop} (h : b_strings_trimLeftByte a0 a1 st R) : HCalls prog n_strings_trimLeftByte [a0, a1] st R :=
 hcalls_of_func tyOK mixed (fn := Go.Proofs.Tryz.f164) (by kernel_rfl) (by kernel_rfl) (by kernel_rfl) (ann := [(4, [0])])
  (show hFunc prog TT [(4, [0])] Go.Proofs.Tryz.f164 [a0, a1] st R from (show hFunc prog TT [(4, [0])] Go.Proofs.Tryz.f164 [a0, a1] st R = b_strings_trimLeftByte a0 a1 st R by kernel_rfl) ▸ h)
def b_strings_trimRightByte (a0 a1 : PV) (st : St) (R : Res → St → Prop) : Prop :=
 hFix (fun ls st X =>
  hJ (fun ls_1 st =>
   cb (ls_1.getD 0 .junk) fun b => br b
    (qb (q_lenS (ls.getD 0 .junk)) fun v19 =>
    qb (q_bin .sub v19 (.int .i64 1)) fun v20 =>
    qb (q_sliceS (ls.getD 0 .junk) none (some v20) none) fun v21 =>
    X [v21] st)
    (retR R (ls.getD 0 .junk) st))
   (fun k =>
  qb (q_lenS (ls.getD 0 .junk)) fun v6 =>
  qb (q_bin .gtr v6 (.int .i64 0)) fun v7 =>
  cb v7 fun b_1 => br b_1
   (qb (q_lenS (ls.getD 0 .junk)) fun v11 =>
   qb (q_bin .sub v11 (.int .i64 1)) fun v12 =>
   qb (q_ix (ls.getD 0 .junk) v12) fun v13 =>
   qb (q_bin .eql v13 a1) fun v15 =>
   k [v15] st)
   (k [(.bool false)] st)))
  [a0] st
theorem e_strings_trimRightByte : Enters prog n_strings_trimRightByte := ⟨Go.Proofs.Tryz.f165, by kernel_rfl, by kernel_rfl, by kernel_rfl⟩
theorem c_strings_trimRightByte {a0 a1 : PV} {st : St} {R : Res → St → Prop} (h : b_strings_trimRightByte a0 a1 st R) : HCalls prog n_strings_trimRightByte [a0, a1] st R :=
 hcalls_of_func tyOK mixed (fn := Go.Proofs.Tryz.f165) (by kernel_rfl) (by kernel_rfl) (by kernel_rfl) (ann := [(4, [0]), (5, [16])])
  (show hFunc prog TT [(4, [0]), (5, [16])] Go.Proofs.Tryz.f165 [a0, a1] st R from (show hFunc prog TT [(4, [0]), (5, [16])] Go.Proofs.Tryz.f165 [a0, a1] st R = b_strings_trimRightByte a0 a1 st R by kernel_rfl) ▸ h)
def b_strings_trimLeftASCII (a0 a1 : PV) (st : St) (R : Res → St → Prop) : Prop :=
 hFix (fun ls st X =>
  qb (q_lenS (ls.getD 0 .junk)) fun v6 =>
  qb (q_bin .gtr v6 (.int .i64 0)) fun v7 =>
  cb v7 fun b => br b
   (qb (q_ix (ls.getD 0 .junk) (.int .i64 0)) fun v10 =>
   callK prog n_strings_asciiSet_contains [a1, v10] st (fun v11 st =>
   qb (q_un .not v11) fun v12 =>
   cb v12 fun b_1 => br b_1
    (retR R (ls.getD 0 .junk) st)
    (qb (q_sliceS (ls.getD 0 .junk) (some (.int .i64 1)) none none) fun v14 =>
    X [v14] st)) (panR R))
   (retR R (ls.getD 0 .junk) st))
  [a0] st
theorem e_strings_trimLeftASCII : Enters prog n_strings_trimLeftASCII := ⟨Go.Proofs.Tryz.f167, by kernel_rfl, by kernel_rfl, by kernel_rfl⟩
theorem c_strings_trimLeftASCII {a0 a1 : PV} {st : St} {R : Res → St → Prop} (h : b_strings_trimLeftASCII a0 a1 st R) : HCalls prog n_strings_trimLeftASCII [a0, a1] st R :=
 hcalls_of_func tyOK mixed (fn := Go.Proofs.Tryz.f167) (by kernel_rfl) (by kernel_rfl) (by kernel_rfl) (ann := [(4, [0])])
  (show hFunc prog TT [(4, [0])] Go.Proofs.Tryz.f167 [a0, a1] st R from (show hFunc prog TT [(4, [0])] Go.Proofs.Tryz.f167 [a0, a1] st R = b_strings_trimLeftASCII a0 a1 st R by kernel_rfl) ▸ h)
def b_strings_trimRightASCII (a0 a1 : PV) (st : St) (R : Res → St → Prop) : Prop :=
 hFix (fun ls st X =>
  qb (q_lenS (ls.getD 0 .junk)) fun v6 =>
  qb (q_bin .gtr v6 (.int .i64 0)) fun v7 =>
  cb v7 fun b => br b
   (qb (q_lenS (ls.getD 0 .junk)) fun v11 =>
   qb (q_bin .sub v11 (.int .i64 1)) fun v12 =>
   qb (q_ix (ls.getD 0 .junk) v12) fun v13 =>
   callK prog n_strings_asciiSet_contains [a1, v13] st (fun v14 st =>
   qb (q_un .not v14) fun v15 =>
   cb v15 fun b_1 => br b_1
    (retR R (ls.getD 0 .junk) st)
    (qb (q_lenS (ls.getD 0 .junk)) fun v18 =>
    qb (q_bin .sub v18 (.int .i64 1)) fun v19 =>
    qb (q_sliceS (ls.getD 0 .junk) none (some v19) none) fun v20 =>
    X [v20] st)) (panR R))
   (retR R (ls.getD 0 .junk) st))
  [a0] st
theorem e_strings_trimRightASCII : Enters prog n_strings_trimRightASCII := ⟨Go.Proofs.Tryz.f168, by kernel_rfl, by kernel_rfl, by kernel_rfl⟩
theorem c_strings_trimRightASCII {a0 a1 : PV} {st : St} {R : Res → St → Prop} (h : b_strings_trimRightASCII a0 a1 st R) : HCalls prog n_strings_trimRightASCII [a0, a1] st R :=
 hcalls_of_func tyOK mixed (fn := Go.Proofs.Tryz.f168) (by kernel_rfl) (by kernel_rfl) (by kernel_rfl) (ann := [(4, [0])])
  (show hFunc prog TT [(4, [0])] Go.Proofs.Tryz.f168 [a0, a1] st R from (show hFunc prog TT [(4, [0])] Go.Proofs.Tryz.f168 [a0, a1] st R = b_strings_trimRightASCII a0 a1 st R by kernel_rfl) ▸ h)
def b_strings_trimLeftUnicode (a0 a1 : PV) (st : St) (R : Res → St → Prop) : Prop :=
 hFix (fun ls st X =>
  qb (q_lenS (ls.getD 0 .junk)) fun v8 =>
  qb (q_bin .gtr v8 (.int .i64 0)) fun v9 =>
  cb v9 fun b => br b
   (callK prog n_unicode_utf8_DecodeRuneInString [(ls.getD 0 .junk)] st (fun v12 st =>
   qb (q_ex v12 0) fun v13 =>
   qb (q_ex v12 1) fun v14 =>
   callK prog n_strings_ContainsRune [a1, v13] st (fun v17 st =>
   qb (q_un .not v17) fun v18 =>
   cb v18 fun b_1 => br b_1
    (retR R (ls.getD 0 .junk) st)
    (qb (q_sliceS (ls.getD 0 .junk) (some v14) none none) fun v21 =>
    X [v21] st)) (panR R)) (panR R))
   (retR R (ls.getD 0 .junk) st))
  [a0] st
theorem e_strings_trimLeftUnicode : Enters prog n_strings_trimLeftUnicode := ⟨Go.Proofs.Tryz.f169, by kernel_rfl, by kernel_rfl, by kernel_rfl⟩
theorem c_strings_trimLeftUnicode {a0 a1 : PV} {st : St} {R : Res → St → Prop} (h : b_strings_trimLeftUnicode a0 a1 st R) : HCalls prog n_strings_trimLeftUnicode [a0, a1] st R :=
 hcalls_of_func tyOK mixed (fn := Go.Proofs.Tryz.f169) (by kernel_rfl) (by kernel_rfl) (by kernel_rfl) (ann := [(4, [0])])
  (show hFunc prog TT [(4, [0])] Go.Proofs.Tryz.f169 [a0, a1] st R from (show hFunc prog TT [(4, [0])] Go.Proofs.Tryz.f169 [a0, a1] st R = b_strings_trimLeftUnicode a0 a1 st R by kernel_rfl) ▸ h)
def b_strings_trimRightUnicode (a0 a1 : PV) (st : St) (R : Res → St → Prop) : Prop :=
 hFix (fun ls st X =>
  qb (q_lenS (ls.getD 0 .junk)) fun v8 =>
  qb (q_bin .gtr v8 (.int .i64 0)) fun v9 =>
  cb v9 fun b => br b
   (qb (q_lenS (ls.getD 0 .junk)) fun v12 =>
   qb (q_bin .sub v12 (.int .i64 1)) fun v13 =>
   qb (q_ix (ls.getD 0 .junk) v13) fun v14 =>
   qb (q_conv .i32 v14) fun v15 =>
   qb (q_bin .geq v15 (.int .i32 128)) fun v17 =>
   hJ (fun ls_1 st =>
    callK prog n_strings_ContainsRune [a1, (ls_1.getD 0 .junk)] st (fun v25 st =>
    qb (q_un .not v25) fun v26 =>
    cb v26 fun b_2 => br b_2
     (retR R (ls.getD 0 .junk) st)
     (qb (q_lenS (ls.getD 0 .junk)) fun v29 =>
     qb (q_bin .sub v29 (ls_1.getD 1 .junk)) fun v31 =>
     qb (q_sliceS (ls.getD 0 .junk) none (some v31) none) fun v32 =>
     X [v32] st)) (panR R))
    (fun k =>
   cb v17 fun b_1 => br b_1
    (callK prog n_unicode_utf8_DecodeLastRuneInString [(ls.getD 0 .junk)] st (fun v20 st =>
    qb (q_ex v20 0) fun v21 =>
    qb (q_ex v20 1) fun v22 =>
    k [v21, v22] st) (panR R))
    (k [v15, (.int .i64 1)] st)))
   (retR R (ls.getD 0 .junk) st))
  [a0] st
theorem e_strings_trimRightUnicode : Enters prog n_strings_trimRightUnicode := ⟨Go.Proofs.Tryz.f170, by kernel_rfl, by kernel_rfl, by kernel_rfl⟩
theorem c_strings_trimRightUnicode {a0 a1 : PV} {st : St} {R : Res → St → Prop} (h : b_strings_trimRightUnicode a0 a1 st R) : HCalls prog n_strings_trimRightUnicode [a0, a1] st R :=
 hcalls_of_func tyOK mixed (fn := Go.Proofs.Tryz.f170) (by kernel_rfl) (by kernel_rfl) (by kernel_rfl) (ann := [(4, [0]), (18, [5, 6])])
  (show hFunc prog TT [(4, [0]), (18, [5, 6])] Go.Proofs.Tryz.f170 [a0, a1] st R from (show hFunc prog TT [(4, [0]), (18, [5, 6])] Go.Proofs.Tryz.f170 [a0, a1] st R = b_strings_trimRightUnicode a0 a1 st R by kernel_rfl) ▸ h)
def b_slices_ContainsFunc_impl_Decl_impl_Decl (a0 a1 : PV) (st : St) (R : Res → St → Prop) : Prop :=
 callK prog n_slices_IndexFunc_impl_Decl_impl_Decl [a0, a1] st (fun v7 st =>
 qb (q_bin .geq v7 (.int .i64 0)) fun v8 =>
 retR R v8 st) (panR R)
theorem e_slices_ContainsFunc_impl_Decl_impl_Decl : Enters prog n_slices_ContainsFunc_impl_Decl_impl_Decl := ⟨Go.Proofs.Tryz.f171, by kernel_rfl, by kernel_rfl, by kernel_rfl⟩
theorem c_slices_ContainsFunc_impl_Decl_impl_Decl {a0 a1 : PV} {st : St} {R : Res → St → Prop} (h : b_slices_ContainsFunc_impl_Decl_impl_Decl a0 a1 st R) : HCalls prog n_slices_ContainsFunc_impl_Decl_impl_Decl [a0, a1] st R :=
 hcalls_of_func tyOK mixed (fn := Go.Proofs.Tryz.f171) (by kernel_rfl) (by kernel_rfl) (by kernel_rfl) (ann := [])
  (show hFunc prog TT [] Go.Proofs.Tryz.f171 [a0, a1] st R from (show hFunc prog TT [] Go.Proofs.Tryz.f171 [a0, a1] st R = b_slices_ContainsFunc_impl_Decl_impl_Decl a0 a1 st R by kernel_rfl) ▸ h)
def b_impl_has_1 (a0 a1 : PV) (st : St) (R : Res → St → Prop) : Prop :=
 e_box st a0 fun v2 st =>
 qb (q_fa 0 v2) fun v4 =>
 qb (q_load st false 1 v4) fun v5 =>
 qb (q_load st false 1 a1) fun v6 =>
 qb (q_bin .eql v5 v6) fun v7 =>
 retR R v7 st
theorem e_impl_has_1 : Enters prog n_impl_has_1 := ⟨Go.Proofs.Tryz.f172, by kernel_rfl, by kernel_rfl, by kernel_rfl⟩
theorem c_impl_has_1 {a0 a1 : PV} {st : St} {R : Res → St → Prop} (h : b_impl_has_1 a0 a1 st R) : HCalls prog n_impl_has_1 [a0, a1] st R :=
 hcalls_of_func tyOK mixed (fn := Go.Proofs.Tryz.f172) (by kernel_rfl) (by kernel_rfl) (by kernel_rfl) (ann := [])
  (show hFunc prog TT [] Go.Proofs.Tryz.f172 [a0, a1] st R from (show hFunc prog TT [] Go.Proofs.Tryz.f172 [a0, a1] st R = b_impl_has_1 a0 a1 st R by kernel_rfl) ▸ h)
def b_impl_declFault_1 (a0 a1 : PV) (st : St) (R : Res → St → Prop) : Prop :=
 qb (q_load st false 1 a0) fun v2 =>
 qb (q_struct [.int .i64 0, .sl 0 true []] [(1, 1, v2)]) fun v3 =>
 e_box st v3 fun v4 st =>
 qb (q_fa 2 a1) fun v5 =>
 qb (q_load st true 4 v5) fun v6 =>
 callK prog n_impl_checker_family [v4, (.sl 0 true []), v6, (.int .i64 0)] st (fun v7 st =>
 retR R (.tup []) st) (panR R)
theorem e_impl_declFault_1 : Enters prog n_impl_declFault_1 := ⟨Go.Proofs.Tryz.f173, by kernel_rfl, by kernel_rfl, by kernel_rfl⟩
theorem c_impl_declFault_1 {a0 a1 : PV} {st : St} {R : Res → St → Prop} (h : b_impl_declFault_1 a0 a1 st R) : HCalls prog n_impl_declFault_1 [a0, a1] st R :=
 hcalls_of_func tyOK mixed (fn := Go.Proofs.Tryz.f173) (by kernel_rfl) (by kernel_rfl) (by kernel_rfl) (ann := [])
  (show hFunc prog TT [] Go.Proofs.Tryz.f173 [a0, a1] st R from (show hFunc prog TT [] Go.Proofs.Tryz.f173 [a0, a1] st R = b_impl_declFault_1 a0 a1 st R by kernel_rfl) ▸ h)
def b_slices_IndexFunc_impl_Decl_impl_Decl (a0 a1 : PV) (st : St) (R : Res → St → Prop) : Prop :=
 qb (q_len a0) fun v7 =>
 hFix (fun ls st X =>
  qb (q_bin .lss (ls.getD 0 .junk) v7) fun v9 =>
  cb v9 fun b => br b
   (qb (q_ia 6 a0 (ls.getD 0 .junk)) fun v14 =>
   qb (q_load st true 6 v14) fun v15 =>
   e_call prog st a1 [v15] (fun v16 st =>
   cb v16 fun b_1 => br b_1
    (retR R (ls.getD 0 .junk) st)
    (qb (q_bin .add (ls.getD 0 .junk) (.int .i64 1)) fun v18 =>
    X [v18] st)) (panR R))
   (retR R (.int .i64 (-1)) st))
  [(.int .i64 0)] st
theorem e_slices_IndexFunc_impl_Decl_impl_Decl : Enters prog n_slices_IndexFunc_impl_Decl_impl_Decl := ⟨Go.Proofs.Tryz.f174, by kernel_rfl, by kernel_rfl, by kernel_rfl⟩
theorem c_slices_IndexFunc_impl_Decl_impl_Decl {a0 a1 : PV} {st : St} {R : Res → St → Prop} (h : b_slices_IndexFunc_impl_Decl_impl_Decl a0 a1 st R) : HCalls prog n_slices_IndexFunc_impl_Decl_impl_Decl [a0, a1] st R :=
 hcalls_of_func tyOK mixed (fn := Go.Proofs.Tryz.f174) (by kernel_rfl) (by kernel_rfl) (by kernel_rfl) (ann := [(8, [8])])
  (show hFunc prog TT [(8, [8])] Go.Proofs.Tryz.f174 [a0, a1] st R from (show hFunc prog TT [(8, [8])] Go.Proofs.Tryz.f174 [a0, a1] st R = b_slices_IndexFunc_impl_Decl_impl_Decl a0 a1 st R by kernel_rfl) ▸ h)
def b_impl_checker_declared_1 (a0 a1 a2 : PV) (st : St) (R : Res → St → Prop) : Prop :=
 e_box st a0 fun v3 st =>
 qb (q_fa 0 v3) fun v5 =>
 qb (q_load st false 1 v5) fun v6 =>
 qb (q_load st false 1 a1) fun v7 =>
 qb (q_bin .eql v6 v7) fun v8 =>
 cb v8 fun b => br b
  (qb (q_fa 1 v3) fun v10 =>
  qb (q_load st false 1 v10) fun v11 =>
  qb (q_load st false 1 a2) fun v12 =>
  qb (q_beq .eql v11 v12) fun v13 =>
  retR R v13 st)
  (retR R (.bool false) st)
theorem e_impl_checker_declared_1 : Enters prog n_impl_checker_declared_1 := ⟨Go.Proofs.Tryz.f175, by kernel_rfl, by kernel_rfl, by kernel_rfl⟩
theorem c_impl_checker_declared_1 {a0 a1 a2 : PV} {st : St} {R : Res → St → Prop} (h : b_impl_checker_declared_1 a0 a1 a2 st R) : HCalls prog n_impl_checker_declared_1 [a0, a1, a2] st R :=
 hcalls_of_func tyOK mixed (fn := Go.Proofs.Tryz.f175) (by kernel_rfl) (by kernel_rfl) (by kernel_rfl) (ann := [])
  (show hFunc prog TT [] Go.Proofs.Tryz.f175 [a0, a1, a2] st R from (show hFunc prog TT [] Go.Proofs.Tryz.f175 [a0, a1, a2] st R = b_impl_checker_declared_1 a0 a1 a2 st R by kernel_rfl) ▸ h)
def b_impl_at (a0 a1 : PV) (st : St) (R : Res → St → Prop) : Prop :=
 callK prog n_impl_caught [a1] st (fun v6 st =>
 e_alloc st [.int .i64 0, .int .i64 0] fun v4 st =>
 e_store st 2 v4 v6 fun st =>
 qb (q_fa 0 v4) fun v7 =>
 qb (q_load st false 1 v7) fun v8 =>
 qb (q_bin .neq v8 (.int .i64 0)) fun v9 =>
 cb v9 fun b => br b
  (qb (q_fa 0 v4) fun v10 =>
  qb (q_load st false 1 v10) fun v11 =>
  callK prog n_impl_stop [v11, a0] st (fun v13 st =>
  retR R (.tup []) st) (panR R))
  (retR R (.tup []) st)) (panR R)
theorem e_impl_at : Enters prog n_impl_at := ⟨Go.Proofs.Tryz.f176, by kernel_rfl, by kernel_rfl, by kernel_rfl⟩
theorem c_impl_at {a0 a1 : PV} {st : St} {R : Res → St → Prop} (h : b_impl_at a0 a1 st R) : HCalls prog n_impl_at [a0, a1] st R :=
 hcalls_of_func tyOK mixed (fn := Go.Proofs.Tryz.f176) (by kernel_rfl) (by kernel_rfl) (by kernel_rfl) (ann := [])
  (show hFunc prog TT [] Go.Proofs.Tryz.f176 [a0, a1] st R from (show hFunc prog TT [] Go.Proofs.Tryz.f176 [a0, a1] st R = b_impl_at a0 a1 st R by kernel_rfl) ▸ h)
def b_impl_checker_left_1 (a0 a1 a2 a3 : PV) (st : St) (R : Res → St → Prop) : Prop :=
 qb (q_load st false 1 a0) fun v4 =>
 qb (q_nil v4) fun v5 =>
 qb (q_fa 0 v5) fun v6 =>
 qb (q_load st true 4 a1) fun v7 =>
 qb (q_fa 3 a2) fun v8 =>
 qb (q_load st false 1 v8) fun v9 =>
 qb (q_ia 4 v9 (.int .i64 0)) fun v10 =>
 qb (q_load st true 4 v10) fun v11 =>
 qb (q_fa 3 a2) fun v13 =>
 qb (q_load st false 1 v13) fun v14 =>
 qb (q_ia 4 v14 (.int .i64 1)) fun v15 =>
 qb (q_load st true 4 v15) fun v16 =>
 callK prog n_impl_erase [v11] st (fun v12 st =>
 q_load st true 4 v15 = some v16 ∧ q_load st false 1 v13 = some v14 ∧ q_load st true 4 a1 = some v7 ∧ q_load st false 1 a0 = some v4 ∧ (callK prog n_impl_work_put [v6, v7, v12, (.int .i64 0), v16] st (fun v17 st =>
 e_store st 4 a3 v17 fun st =>
 retR R (.tup []) st) (panR R))) (panR R)
theorem e_impl_checker_left_1 : Enters prog n_impl_checker_left_1 := ⟨Go.Proofs.Tryz.f177, by kernel_rfl, by kernel_rfl, by kernel_rfl⟩
theorem c_impl_checker_left_1 {a0 a1 a2 a3 : PV} {st : St} {R : Res → St → Prop} (h : b_impl_checker_left_1 a0 a1 a2 a3 st R) : HCalls prog n_impl_checker_left_1 [a0, a1, a2, a3] st R :=
 hcalls_of_func tyOK mixed (fn := Go.Proofs.Tryz.f177) (by kernel_rfl) (by kernel_rfl) (by kernel_rfl) (ann := [])
  (show hFunc prog TT [] Go.Proofs.Tryz.f177 [a0, a1, a2, a3] st R from (show hFunc prog TT [] Go.Proofs.Tryz.f177 [a0, a1, a2, a3] st R = b_impl_checker_left_1 a0 a1 a2 a3 st R by kernel_rfl) ▸ h)
def b_internal_stringslite_IndexByte (a0 a1 : PV) (st : St) (R : Res → St → Prop) : Prop :=
 callK prog n_internal_bytealg_IndexByteString [a0, a1] st (fun v7 st =>
 retR R v7 st) (panR R)
theorem e_internal_stringslite_IndexByte : Enters prog n_internal_stringslite_IndexByte := ⟨Go.Proofs.Tryz.f178, by kernel_rfl, by kernel_rfl, by kernel_rfl⟩
theorem c_internal_stringslite_IndexByte {a0 a1 : PV} {st : St} {R : Res → St → Prop} (h : b_internal_stringslite_IndexByte a0 a1 st R) : HCalls prog n_internal_stringslite_IndexByte [a0, a1] st R :=
 hcalls_of_func tyOK mixed (fn := Go.Proofs.Tryz.f178) (by kernel_rfl) (by kernel_rfl) (by kernel_rfl) (ann := [])
  (show hFunc prog TT [] Go.Proofs.Tryz.f178 [a0, a1] st R from (show hFunc prog TT [] Go.Proofs.Tryz.f178 [a0, a1] st R = b_internal_stringslite_IndexByte a0 a1 st R by kernel_rfl) ▸ h)
def b_unicode_utf8_DecodeRuneInString (a0 : PV) (st : St) (R : Res → St → Prop) : Prop :=
 hJ (fun ls st =>
  cb (ls.getD 0 .junk) fun b => br b
   (qb (q_ix a0 (.int .i64 0)) fun v12 =>
   qb (q_conv .i32 v12) fun v13 =>
   retR R (.tup [v13, (.int .i64 1)]) st)
   (callK prog n_unicode_utf8_decodeRuneInStringSlow [a0] st (fun v16 st =>
   qb (q_ex v16 0) fun v17 =>
   qb (q_ex v16 1) fun v18 =>
   retR R (.tup [v17, v18]) st) (panR R)))
  (fun k =>
 qb (q_bin .neq a0 (.str [])) fun v5 =>
 cb v5 fun b_1 => br b_1
  (qb (q_ix a0 (.int .i64 0)) fun v8 =>
  qb (q_bin .lss v8 (.int .u8 128)) fun v9 =>
  k [v9] st)
  (k [(.bool false)] st))
theorem e_unicode_utf8_DecodeRuneInString : Enters prog n_unicode_utf8_DecodeRuneInString := ⟨Go.Proofs.Tryz.f180, by kernel_rfl, by kernel_rfl, by kernel_rfl⟩
theorem c_unicode_utf8_DecodeRuneInString {a0 : PV} {st : St} {R : Res → St → Prop} (h : b_unicode_utf8_DecodeRuneInString a0 st R) : HCalls prog n_unicode_utf8_DecodeRuneInString [a0] st R :=
 hcalls_of_func tyOK mixed (fn := Go.Proofs.Tryz.f180) (by kernel_rfl) (by kernel_rfl) (by kernel_rfl) (ann := [(5, [10])])
  (show hFunc prog TT [(5, [10])] Go.Proofs.Tryz.f180 [a0] st R from (show hFunc prog TT [(5, [10])] Go.Proofs.Tryz.f180 [a0] st R = b_unicode_utf8_DecodeRuneInString a0 st R by kernel_rfl) ▸ h)
def b_strings_ContainsRune (a0 a1 : PV) (st : St) (R : Res → St → Prop) : Prop :=
 callK prog n_strings_IndexRune [a0, a1] st (fun v7 st =>
 qb (q_bin .geq v7 (.int .i64 0)) fun v8 =>
 retR R v8 st) (panR R)
theorem e_strings_ContainsRune : Enters prog n_strings_ContainsRune := ⟨Go.Proofs.Tryz.f181, by kernel_rfl, by kernel_rfl, by kernel_rfl⟩
theorem c_strings_ContainsRune {a0 a1 : PV} {st : St} {R : Res → St → Prop} (h : b_strings_ContainsRune a0 a1 st R) : HCalls prog n_strings_ContainsRune [a0, a1] st R :=
 hcalls_of_func tyOK mixed (fn := Go.Proofs.Tryz.f181) (by kernel_rfl) (by kernel_rfl) (by kernel_rfl) (ann := [])
  (show hFunc prog TT [] Go.Proofs.Tryz.f181 [a0, a1] st R from (show hFunc prog TT [] Go.Proofs.Tryz.f181 [a0, a1] st R = b_strings_ContainsRune a0 a1 st R by kernel_rfl) ▸ h)
def b_unicode_utf8_DecodeLastRuneInString (a0 : PV) (st : St) (R : Res → St → Prop) : Prop :=
 qb (q_lenS a0) fun v8 =>
 qb (q_bin .eql v8 (.int .i64 0)) fun v10 =>
 cb v10 fun b => br b
  (retR R (.tup [(.int .i32 65533), (.int .i64 0)]) st)
  (qb (q_bin .sub v8 (.int .i64 1)) fun v12 =>
  qb (q_ix a0 v12) fun v15 =>
  qb (q_conv .i32 v15) fun v16 =>
  qb (q_bin .lss v16 (.int .i32 128)) fun v18 =>
  cb v18 fun b_1 => br b_1
   (retR R (.tup [v16, (.int .i64 1)]) st)
   (qb (q_bin .sub v8 (.int .i64 4)) fun v21 =>
   qb (q_max v21 (.int .i64 0)) fun v22 =>
   qb (q_bin .sub v12 (.int .i64 1)) fun v24 =>
   hJ (fun ls st =>
    qb (q_bin .lss (ls.getD 0 .junk) (.int .i64 0)) fun v35 =>
    hJ (fun ls_1 st =>
     qb (q_sliceS a0 (some (ls_1.getD 0 .junk)) (some v8) none) fun v40 =>
     callK prog n_unicode_utf8_DecodeRuneInString [v40] st (fun v41 st =>
     qb (q_ex v41 0) fun v42 =>
     qb (q_ex v41 1) fun v43 =>
     qb (q_bin .add (ls_1.getD 0 .junk) v43) fun v46 =>
     qb (q_bin .neq v46 v8) fun v48 =>
     cb v48 fun b_3 => br b_3
      (retR R (.tup [(.int .i32 65533), (.int .i64 1)]) st)
      (retR R (.tup [v42, v43]) st)) (panR R))
     (fun k_1 =>
    cb v35 fun b_2 => br b_2
     (k_1 [(.int .i64 0)] st)
     (k_1 [(ls.getD 0 .junk)] st)))
    (fun k =>
   hFix (fun ls_2 st X =>
    qb (q_bin .geq (ls_2.getD 0 .junk) v22) fun v27 =>
    cb v27 fun b_4 => br b_4
     (qb (q_ix a0 (ls_2.getD 0 .junk)) fun v32 =>
     callK prog n_unicode_utf8_RuneStart [v32] st (fun v33 st =>
     cb v33 fun b_5 => br b_5
      (k [(ls_2.getD 0 .junk)] st)
      (qb (q_bin .sub (ls_2.getD 0 .junk) (.int .i64 1)) fun v29 =>
      X [v29] st)) (panR R))
     (k [(ls_2.getD 0 .junk)] st))
    [v24] st)))
theorem e_unicode_utf8_DecodeLastRuneInString : Enters prog n_unicode_utf8_DecodeLastRuneInString := ⟨Go.Proofs.Tryz.f182, by kernel_rfl, by kernel_rfl, by kernel_rfl⟩
theorem c_unicode_utf8_DecodeLastRuneInString {a0 : PV} {st : St} {R : Res → St → Prop} (h : b_unicode_utf8_DecodeLastRuneInString a0 st R) : HCalls prog n_unicode_utf8_DecodeLastRuneInString [a0] st R :=
 hcalls_of_func tyOK mixed (fn := Go.Proofs.Tryz.f182) (by kernel_rfl) (by kernel_rfl) (by kernel_rfl) (ann := [(40, [5]), (3, [5]), (58, [5])])
  (show hFunc prog TT [(40, [5]), (3, [5]), (58, [5])] Go.Proofs.Tryz.f182 [a0] st R from (show hFunc prog TT [(40, [5]), (3, [5]), (58, [5])] Go.Proofs.Tryz.f182 [a0] st R = b_unicode_utf8_DecodeLastRuneInString a0 st R by kernel_rfl) ▸ h)
def b_unicode_utf8_RuneStart (a0 : PV) (st : St) (R : Res → St → Prop) : Prop :=
 qb (q_bin .and a0 (.int .u8 192)) fun v4 =>
 qb (q_bin .neq v4 (.int .u8 128)) fun v5 =>
 retR R v5 st
theorem e_unicode_utf8_RuneStart : Enters prog n_unicode_utf8_RuneStart := ⟨Go.Proofs.Tryz.f186, by kernel_rfl, by kernel_rfl, by kernel_rfl⟩
theorem c_unicode_utf8_RuneStart {a0 : PV} {st : St} {R : Res → St → Prop} (h : b_unicode_utf8_RuneStart a0 st R) : HCalls prog n_unicode_utf8_RuneStart [a0] st R :=
 hcalls_of_func tyOK mixed (fn := Go.Proofs.Tryz.f186) (by kernel_rfl) (by kernel_rfl) (by kernel_rfl) (ann := [])
  (show hFunc prog TT [] Go.Proofs.Tryz.f186 [a0] st R from (show hFunc prog TT [] Go.Proofs.Tryz.f186 [a0] st R = b_unicode_utf8_RuneStart a0 st R by kernel_rfl) ▸ h)
def b_unicode_utf8_ValidRune (a0 : PV) (st : St) (R : Res → St → Prop) : Prop :=
 hJ (fun ls st =>
  cb (ls.getD 0 .junk) fun b => br b
   (retR R (.bool true) st)
   (qb (q_bin .lss (.int .i32 57343) a0) fun v12 =>
   cb v12 fun b_1 => br b_1
    (qb (q_bin .leq a0 (.int .i32 1114111)) fun v15 =>
    cb v15 fun b_2 => br b_2
     (retR R (.bool true) st)
     (retR R (.bool false) st))
    (retR R (.bool false) st)))
  (fun k =>
 qb (q_bin .leq (.int .i32 0) a0) fun v5 =>
 cb v5 fun b_3 => br b_3
  (qb (q_bin .lss a0 (.int .i32 55296)) fun v8 =>
  k [v8] st)
  (k [(.bool false)] st))
theorem e_unicode_utf8_ValidRune : Enters prog n_unicode_utf8_ValidRune := ⟨Go.Proofs.Tryz.f187, by kernel_rfl, by kernel_rfl, by kernel_rfl⟩
theorem c_unicode_utf8_ValidRune {a0 : PV} {st : St} {R : Res → St → Prop} (h : b_unicode_utf8_ValidRune a0 st R) : HCalls prog n_unicode_utf8_ValidRune [a0] st R :=
 hcalls_of_func tyOK mixed (fn := Go.Proofs.Tryz.f187) (by kernel_rfl) (by kernel_rfl) (by kernel_rfl) (ann := [(5, [3])])
  (show hFunc prog TT [(5, [3])] Go.Proofs.Tryz.f187 [a0] st R from (show hFunc prog TT [(5, [3])] Go.Proofs.Tryz.f187 [a0] st R = b_unicode_utf8_ValidRune a0 st R by kernel_rfl) ▸ h)
def b_internal_bytealg_Cutover (a0 : PV) (st : St) (R : Res → St → Prop) : Prop :=
 qb (q_bin .add a0 (.int .i64 16)) fun v4 =>
 qb (q_bin .quo v4 (.int .i64 8)) fun v5 =>
 retR R v5 st
theorem e_internal_bytealg_Cutover : Enters prog n_internal_bytealg_Cutover := ⟨Go.Proofs.Tryz.f188, by kernel_rfl, by kernel_rfl, by kernel_rfl⟩
theorem c_internal_bytealg_Cutover {a0 : PV} {st : St} {R : Res → St → Prop} (h : b_internal_bytealg_Cutover a0 st R) : HCalls prog n_internal_bytealg_Cutover [a0] st R :=
 hcalls_of_func tyOK mixed (fn := Go.Proofs.Tryz.f188) (by kernel_rfl) (by kernel_rfl) (by kernel_rfl) (ann := [])
  (show hFunc prog TT [] Go.Proofs.Tryz.f188 [a0] st R from (show hFunc prog TT [] Go.Proofs.Tryz.f188 [a0] st R = b_internal_bytealg_Cutover a0 st R by kernel_rfl) ▸ h)
end Go.H.Tryz
