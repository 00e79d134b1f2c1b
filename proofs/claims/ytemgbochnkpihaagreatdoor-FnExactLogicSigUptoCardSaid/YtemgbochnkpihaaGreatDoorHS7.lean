/- Part of a proof that the program answers as the reference does: FS7. -/
import Derived.Test.YtemgbochnkpihaaGreatDoorHT
/- MADE BY PROGRAM (hgen.py): what the functions compute, over pure values. -/
set_option linter.unusedVariables false
set_option maxRecDepth 100000
namespace Go.H.Tryz
open Go Go.H
def b_strings_Lines_1 (a0 a1 : PV) (st : St) (R : Res → St → Prop) : Prop :=
 hFix (fun ls st X =>
  qb (q_load st false 1 a1) fun v5 =>
  qb (q_lenS v5) fun v6 =>
  qb (q_bin .gtr v6 (.int .i64 0)) fun v7 =>
  cb v7 fun b => br b
   (qb (q_load st false 1 a1) fun v8 =>
   callK prog n_strings_IndexByte [v8, (.int .u8 10)] st (fun v9 st =>
   qb (q_bin .geq v9 (.int .i64 0)) fun v11 =>
   cb v11 fun b_1 => br b_1
    (qb (q_load st false 1 a1) fun v12 =>
    qb (q_bin .add v9 (.int .i64 1)) fun v14 =>
    qb (q_sliceS v12 none (some v14) none) fun v15 =>
    qb (q_load st false 1 a1) fun v16 =>
    qb (q_bin .add v9 (.int .i64 1)) fun v18 =>
    qb (q_sliceS v16 (some v18) none none) fun v19 =>
    e_store st 1 a1 v19 fun st =>
    e_call prog st a0 [v15] (fun v23 st =>
    qb (q_un .not v23) fun v24 =>
    cb v24 fun b_2 => br b_2
     (retR R (.tup []) st)
     (X [] st)) (panR R))
    (qb (q_load st false 1 a1) fun v20 =>
    e_store st 1 a1 (.str []) fun st =>
    e_call prog st a0 [v20] (fun v23_1 st =>
    qb (q_un .not v23_1) fun v24_1 =>
    cb v24_1 fun b_3 => br b_3
     (retR R (.tup []) st)
     (X [] st)) (panR R))) (panR R))
   (retR R (.tup []) st))
  [] st
theorem c_strings_Lines_1 {a0 a1 : PV} {st : St} {R : Res → St → Prop} (h : b_strings_Lines_1 a0 a1 st R) : HCalls prog n_strings_Lines_1 [a0, a1] st R :=
 hcalls_of_func tyOK mixed (fn := Go.Proofs.Tryz.f145) (by kernel_rfl) (by kernel_rfl) (by kernel_rfl) (ann := [(0, [])])
  (show hFunc prog TT [(0, [])] Go.Proofs.Tryz.f145 [a0, a1] st R from (show hFunc prog TT [(0, [])] Go.Proofs.Tryz.f145 [a0, a1] st R = b_strings_Lines_1 a0 a1 st R by kernel_rfl) ▸ h)
theorem e_strings_IndexByte : Enters prog n_strings_IndexByte := ⟨Go.Proofs.Tryz.f146, by kernel_rfl, by kernel_rfl, by kernel_rfl⟩
def b_internal_stringslite_TrimSuffix (a0 a1 : PV) (st : St) (R : Res → St → Prop) : Prop :=
 callK prog n_internal_stringslite_HasSuffix [a0, a1] st (fun v7 st =>
 cb v7 fun b => br b
  (qb (q_lenS a0) fun v10 =>
  qb (q_lenS a1) fun v12 =>
  qb (q_bin .sub v10 v12) fun v13 =>
  qb (q_sliceS a0 none (some v13) none) fun v14 =>
  retR R v14 st)
  (retR R a0 st)) (panR R)
theorem c_internal_stringslite_TrimSuffix {a0 a1 : PV} {st : St} {R : Res → St → Prop} (h : b_internal_stringslite_TrimSuffix a0 a1 st R) : HCalls prog n_internal_stringslite_TrimSuffix [a0, a1] st R :=
 hcalls_of_func tyOK mixed (fn := Go.Proofs.Tryz.f147) (by kernel_rfl) (by kernel_rfl) (by kernel_rfl) (ann := [])
  (show hFunc prog TT [] Go.Proofs.Tryz.f147 [a0, a1] st R from (show hFunc prog TT [] Go.Proofs.Tryz.f147 [a0, a1] st R = b_internal_stringslite_TrimSuffix a0 a1 st R by kernel_rfl) ▸ h)
def b_impl_blankEnd (a0 a1 : PV) (st : St) (R : Res → St → Prop) : Prop :=
 hFix (fun ls st X =>
  qb (q_lenS a0) fun v7 =>
  qb (q_bin .lss (ls.getD 0 .junk) v7) fun v8 =>
  cb v8 fun b => br b
   (qb (q_ix a0 (ls.getD 0 .junk)) fun v12 =>
   callK prog n_strings_IndexByte [(.str [32, 9, 13]), v12] st (fun v13 st =>
   qb (q_bin .geq v13 (.int .i64 0)) fun v14 =>
   cb v14 fun b_1 => br b_1
    (qb (q_bin .add (ls.getD 0 .junk) (.int .i64 1)) fun v17 =>
    X [v17] st)
    (retR R (ls.getD 0 .junk) st)) (panR R))
   (retR R (ls.getD 0 .junk) st))
  [a1] st
theorem c_impl_blankEnd {a0 a1 : PV} {st : St} {R : Res → St → Prop} (h : b_impl_blankEnd a0 a1 st R) : HCalls prog n_impl_blankEnd [a0, a1] st R :=
 hcalls_of_func tyOK mixed (fn := Go.Proofs.Tryz.f148) (by kernel_rfl) (by kernel_rfl) (by kernel_rfl) (ann := [(4, [1])])
  (show hFunc prog TT [(4, [1])] Go.Proofs.Tryz.f148 [a0, a1] st R from (show hFunc prog TT [(4, [1])] Go.Proofs.Tryz.f148 [a0, a1] st R = b_impl_blankEnd a0 a1 st R by kernel_rfl) ▸ h)
def b_impl_readDecl (a0 : PV) (st : St) (R : Res → St → Prop) : Prop :=
 e_alloc st [.str [], .bool false, .int .i64 0, .int .i64 0, .str [], .sl 0 true []] fun v2 st =>
 callK prog n_impl_blankEnd [a0, (.int .i64 0)] st (fun v10 st =>
 hJ (fun ls st =>
  qb (q_sliceS a0 (some v10) (some (ls.getD 0 .junk)) none) fun v28 =>
  callK prog n_impl_NameOK [v28] st (fun v29 st =>
  qb (q_un .not v29) fun v30 =>
  hJ (fun ls_1 st =>
   callK prog n_impl_blankEnd [a0, (ls.getD 0 .junk)] st (fun v35 st =>
   hJ (fun ls_2 st =>
    cb (ls_2.getD 0 .junk) fun b_1 => br b_1
     (callK prog n_impl_stop [(.int .i64 4), v35] st (fun v47 st =>
     qb (q_bin .add v35 (.int .i64 1)) fun v51 =>
     qb (q_sliceS a0 (some v51) none none) fun v52 =>
     callK prog n_impl_ParseFamily [v52, (.int .i64 0)] st (fun v53 st =>
     qb (q_ex v53 0) fun v54 =>
     qb (q_ex v53 1) fun v55 =>
     qb (q_ex v53 2) fun v56 =>
     e_alloc st [.int .i64 0, .int .i64 0, .str [], .sl 0 true []] fun v6 st =>
     e_store st 4 v6 v54 fun st =>
     qb (q_bin .neq v55 (.int .i64 0)) fun v58 =>
     hJ (fun ls_3 st =>
      qb (q_sliceS a0 (some v10) (some (ls.getD 0 .junk)) none) fun v75 =>
      qb (q_load st true 4 v6) fun v76 =>
      qb (q_load st true 4 v6) fun v78 =>
      callK prog n_impl_isKind [v76] st (fun v77 st =>
      q_load st true 4 v6 = some v78 ∧ (qb (q_struct [.str [], .bool false, .int .i64 0, .int .i64 0, .str [], .sl 0 true []] [(0, 1, v75), (1, 1, v77), (2, 4, v78)]) fun v79 =>
      e_store st 6 v2 v79 fun st =>
      qb (q_load st true 6 v2) fun r => retR R r st)) (panR R))
      (fun k_3 =>
     cb v58 fun b_2 => br b_2
      (qb (q_bin .neq v55 (.int .i64 11)) fun v60 =>
      cb v60 fun b_3 => br b_3
       (qb (q_bin .add v35 (.int .i64 1)) fun v67 =>
       qb (q_bin .add v56 v67) fun v68 =>
       callK prog n_impl_stop [v55, v68] st (fun v71 st =>
       k_3 [] st) (panR R))
       (qb (q_bin .gtr v56 (.int .i64 0)) fun v63 =>
       cb v63 fun b_4 => br b_4
        (qb (q_bin .add v35 (.int .i64 1)) fun v67_1 =>
        qb (q_bin .add v56 v67_1) fun v68_1 =>
        callK prog n_impl_stop [v55, v68_1] st (fun v71_1 st =>
        k_3 [] st) (panR R))
        (callK prog n_impl_stop [v55, v56] st (fun v71_2 st =>
        k_3 [] st) (panR R))))
      (k_3 [] st))) (panR R)) (panR R))
     (qb (q_bin .add v35 (.int .i64 1)) fun v51_1 =>
     qb (q_sliceS a0 (some v51_1) none none) fun v52_1 =>
     callK prog n_impl_ParseFamily [v52_1, (.int .i64 0)] st (fun v53_1 st =>
     qb (q_ex v53_1 0) fun v54_1 =>
     qb (q_ex v53_1 1) fun v55_1 =>
     qb (q_ex v53_1 2) fun v56_1 =>
     e_alloc st [.int .i64 0, .int .i64 0, .str [], .sl 0 true []] fun v6_1 st =>
     e_store st 4 v6_1 v54_1 fun st =>
     qb (q_bin .neq v55_1 (.int .i64 0)) fun v58_1 =>
     hJ (fun ls_4 st =>
      qb (q_sliceS a0 (some v10) (some (ls.getD 0 .junk)) none) fun v75_1 =>
      qb (q_load st true 4 v6_1) fun v76_1 =>
      qb (q_load st true 4 v6_1) fun v78_1 =>
      callK prog n_impl_isKind [v76_1] st (fun v77_1 st =>
      q_load st true 4 v6_1 = some v78_1 ∧ (qb (q_struct [.str [], .bool false, .int .i64 0, .int .i64 0, .str [], .sl 0 true []] [(0, 1, v75_1), (1, 1, v77_1), (2, 4, v78_1)]) fun v79_1 =>
      e_store st 6 v2 v79_1 fun st =>
      qb (q_load st true 6 v2) fun r_1 => retR R r_1 st)) (panR R))
      (fun k_4 =>
     cb v58_1 fun b_5 => br b_5
      (qb (q_bin .neq v55_1 (.int .i64 11)) fun v60_1 =>
      cb v60_1 fun b_6 => br b_6
       (qb (q_bin .add v35 (.int .i64 1)) fun v67_2 =>
       qb (q_bin .add v56_1 v67_2) fun v68_2 =>
       callK prog n_impl_stop [v55_1, v68_2] st (fun v71_3 st =>
       k_4 [] st) (panR R))
       (qb (q_bin .gtr v56_1 (.int .i64 0)) fun v63_1 =>
       cb v63_1 fun b_7 => br b_7
        (qb (q_bin .add v35 (.int .i64 1)) fun v67_3 =>
        qb (q_bin .add v56_1 v67_3) fun v68_3 =>
        callK prog n_impl_stop [v55_1, v68_3] st (fun v71_4 st =>
        k_4 [] st) (panR R))
        (callK prog n_impl_stop [v55_1, v56_1] st (fun v71_5 st =>
        k_4 [] st) (panR R))))
      (k_4 [] st))) (panR R)))
    (fun k_2 =>
   qb (q_lenS a0) fun v38 =>
   qb (q_bin .eql v35 v38) fun v39 =>
   cb v39 fun b_8 => br b_8
    (k_2 [(.bool true)] st)
    (qb (q_ix a0 v35) fun v43 =>
    qb (q_bin .neq v43 (.int .u8 58)) fun v44 =>
    k_2 [v44] st))) (panR R))
   (fun k_1 =>
  cb v30 fun b => br b
   (callK prog n_impl_stop [(.int .i64 4), v10] st (fun v32 st =>
   k_1 [] st) (panR R))
   (k_1 [] st))) (panR R))
  (fun k =>
 hFix (fun ls_5 st X =>
  qb (q_lenS a0) fun v14 =>
  qb (q_bin .lss (ls_5.getD 0 .junk) v14) fun v15 =>
  cb v15 fun b_9 => br b_9
   (qb (q_ix a0 (ls_5.getD 0 .junk)) fun v19 =>
   callK prog n_strings_IndexByte [(.str [97, 98, 99, 100, 101, 102, 103, 104, 105, 106, 107, 108, 109, 110, 111, 112, 113, 114, 115, 116, 117, 118, 119, 120, 121, 122, 65, 66, 67, 68, 69, 70, 71, 72, 73, 74, 75, 76, 77, 78, 79, 80, 81, 82, 83, 84, 85, 86, 87, 88, 89, 90, 95, 48, 49, 50, 51, 52, 53, 54, 55, 56, 57]), v19] st (fun v20 st =>
   qb (q_bin .geq v20 (.int .i64 0)) fun v21 =>
   cb v21 fun b_10 => br b_10
    (qb (q_bin .add (ls_5.getD 0 .junk) (.int .i64 1)) fun v24 =>
    X [v24] st)
    (k [(ls_5.getD 0 .junk)] st)) (panR R))
   (k [(ls_5.getD 0 .junk)] st))
  [v10] st)) (panR R)
theorem c_impl_readDecl {a0 : PV} {st : St} {R : Res → St → Prop} (h : b_impl_readDecl a0 st R) : HCalls prog n_impl_readDecl [a0] st R :=
 hcalls_of_func tyOK mixed (fn := Go.Proofs.Tryz.f150) (by kernel_rfl) (by kernel_rfl) (by kernel_rfl) (ann := [(12, [4]), (3, [4]), (26, []), (33, [45]), (50, [])])
  (show hFunc prog TT [(12, [4]), (3, [4]), (26, []), (33, [45]), (50, [])] Go.Proofs.Tryz.f150 [a0] st R from (show hFunc prog TT [(12, [4]), (3, [4]), (26, []), (33, [45]), (50, [])] Go.Proofs.Tryz.f150 [a0] st R = b_impl_readDecl a0 st R by kernel_rfl) ▸ h)
def b_impl_addFault (a0 a1 : PV) (st : St) (R : Res → St → Prop) : Prop :=
 e_box st a1 fun v3 st =>
 e_alloc st [.int .i64 0, .int .i64 0] fun v4 st =>
 qb (q_load st true 6 v3) fun v7 =>
 callK prog n_impl_declForm [v7] st (fun v8 st =>
 qb (q_un .not v8) fun v9 =>
 cb v9 fun b => br b
  (qb (q_struct [.int .i64 0, .int .i64 0] [(0, 1, (.int .i64 1))]) fun v10 =>
  e_store st 2 v4 v10 fun st =>
  qb (q_load st true 2 v4) fun r => retR R r st)
  (qb (q_fa 0 v3) fun v13 =>
  qb (q_load st false 1 v13) fun v14 =>
  callK prog n_impl_has [a0, v14] st (fun v15 st =>
  cb v15 fun b_1 => br b_1
   (qb (q_struct [.int .i64 0, .int .i64 0] [(0, 1, (.int .i64 6))]) fun v16 =>
   e_store st 2 v4 v16 fun st =>
   qb (q_load st true 2 v4) fun r_1 => retR R r_1 st)
   (qb (q_load st true 6 v3) fun v18 =>
   callK prog n_impl_declFault [a0, v18] st (fun v19 st =>
   e_alloc st [.int .i64 0, .int .i64 0] fun v5 st =>
   e_store st 2 v5 v19 fun st =>
   qb (q_fa 0 v5) fun v20 =>
   qb (q_load st false 1 v20) fun v21 =>
   qb (q_bin .neq v21 (.int .i64 0)) fun v22 =>
   cb v22 fun b_2 => br b_2
    (qb (q_load st true 2 v5) fun v23 =>
    e_store st 2 v4 v23 fun st =>
    qb (q_load st true 2 v4) fun r_2 => retR R r_2 st)
    (qb (q_len a0) fun v25 =>
    qb (q_bin .geq v25 (.int .i64 40)) fun v26 =>
    cb v26 fun b_3 => br b_3
     (qb (q_struct [.int .i64 0, .int .i64 0] [(0, 1, (.int .i64 17))]) fun v27 =>
     e_store st 2 v4 v27 fun st =>
     qb (q_load st true 2 v4) fun r_3 => retR R r_3 st)
     (qb (q_struct [.int .i64 0, .int .i64 0] []) fun v28 =>
     e_store st 2 v4 v28 fun st =>
     qb (q_load st true 2 v4) fun r_4 => retR R r_4 st))) (panR R))) (panR R))) (panR R)
theorem c_impl_addFault {a0 a1 : PV} {st : St} {R : Res → St → Prop} (h : b_impl_addFault a0 a1 st R) : HCalls prog n_impl_addFault [a0, a1] st R :=
 hcalls_of_func tyOK mixed (fn := Go.Proofs.Tryz.f151) (by kernel_rfl) (by kernel_rfl) (by kernel_rfl) (ann := [])
  (show hFunc prog TT [] Go.Proofs.Tryz.f151 [a0, a1] st R from (show hFunc prog TT [] Go.Proofs.Tryz.f151 [a0, a1] st R = b_impl_addFault a0 a1 st R by kernel_rfl) ▸ h)
def b_impl_NameOK (a0 : PV) (st : St) (R : Res → St → Prop) : Prop :=
 callK prog n_impl_wordOK [a0] st (fun v6 st =>
 qb (q_un .not v6) fun v7 =>
 cb v7 fun b => br b
  (retR R (.bool false) st)
  (qb (q_bin .eql a0 (.str [116, 121, 112, 101])) fun v10 =>
  cb v10 fun b_1 => br b_1
   (retR R (.bool false) st)
   (qb (q_bin .eql a0 (.str [95])) fun v14 =>
   cb v14 fun b_2 => br b_2
    (retR R (.bool false) st)
    (callK prog n_strings_CutPrefix [a0, (.str [120])] st (fun v18 st =>
    qb (q_ex v18 0) fun v19 =>
    qb (q_ex v18 1) fun v20 =>
    qb (q_un .not v20) fun v22 =>
    cb v22 fun b_3 => br b_3
     (retR R (.bool true) st)
     (qb (q_bin .eql v19 (.str [])) fun v25 =>
     cb v25 fun b_4 => br b_4
      (retR R (.bool true) st)
      (callK prog n_impl_over [v19, (.str [48, 49, 50, 51, 52, 53, 54, 55, 56, 57])] st (fun v29 st =>
      qb (q_un .not v29) fun v30 =>
      retR R v30 st) (panR R)))) (panR R))))) (panR R)
theorem c_impl_NameOK {a0 : PV} {st : St} {R : Res → St → Prop} (h : b_impl_NameOK a0 st R) : HCalls prog n_impl_NameOK [a0] st R :=
 hcalls_of_func tyOK mixed (fn := Go.Proofs.Tryz.f156) (by kernel_rfl) (by kernel_rfl) (by kernel_rfl) (ann := [])
  (show hFunc prog TT [] Go.Proofs.Tryz.f156 [a0] st R from (show hFunc prog TT [] Go.Proofs.Tryz.f156 [a0] st R = b_impl_NameOK a0 st R by kernel_rfl) ▸ h)
def b_impl_KindOK (a0 : PV) (st : St) (R : Res → St → Prop) : Prop :=
 e_box st a0 fun v1 st =>
 qb (q_load st true 4 v1) fun v4 =>
 callK prog n_impl_fresh [] st (fun v3 st =>
 q_load st true 4 v1 = some v4 ∧ (callK prog n_impl_looker_family [v3, v4, (.bool true)] st (fun v5 st =>
 retR R v5 st) (panR R))) (panR R)
theorem c_impl_KindOK {a0 : PV} {st : St} {R : Res → St → Prop} (h : b_impl_KindOK a0 st R) : HCalls prog n_impl_KindOK [a0] st R :=
 hcalls_of_func tyOK mixed (fn := Go.Proofs.Tryz.f157) (by kernel_rfl) (by kernel_rfl) (by kernel_rfl) (ann := [])
  (show hFunc prog TT [] Go.Proofs.Tryz.f157 [a0] st R from (show hFunc prog TT [] Go.Proofs.Tryz.f157 [a0] st R = b_impl_KindOK a0 st R by kernel_rfl) ▸ h)
def b_impl_FamilyOK (a0 : PV) (st : St) (R : Res → St → Prop) : Prop :=
 e_box st a0 fun v1 st =>
 qb (q_load st true 4 v1) fun v4 =>
 callK prog n_impl_fresh [] st (fun v3 st =>
 q_load st true 4 v1 = some v4 ∧ (callK prog n_impl_looker_family [v3, v4, (.bool false)] st (fun v5 st =>
 retR R v5 st) (panR R))) (panR R)
theorem c_impl_FamilyOK {a0 : PV} {st : St} {R : Res → St → Prop} (h : b_impl_FamilyOK a0 st R) : HCalls prog n_impl_FamilyOK [a0] st R :=
 hcalls_of_func tyOK mixed (fn := Go.Proofs.Tryz.f158) (by kernel_rfl) (by kernel_rfl) (by kernel_rfl) (ann := [])
  (show hFunc prog TT [] Go.Proofs.Tryz.f158 [a0] st R from (show hFunc prog TT [] Go.Proofs.Tryz.f158 [a0] st R = b_impl_FamilyOK a0 st R by kernel_rfl) ▸ h)
def b_impl_declFault_1 (a0 a1 : PV) (st : St) (R : Res → St → Prop) : Prop :=
 qb (q_load st false 1 a0) fun v2 =>
 qb (q_struct [.int .i64 0, .sl 0 true []] [(1, 1, v2)]) fun v3 =>
 e_box st v3 fun v4 st =>
 qb (q_fa 2 a1) fun v5 =>
 qb (q_load st true 4 v5) fun v6 =>
 callK prog n_impl_checker_family [v4, (.sl 0 true []), v6, (.int .i64 0)] st (fun v7 st =>
 retR R (.tup []) st) (panR R)
theorem c_impl_declFault_1 {a0 a1 : PV} {st : St} {R : Res → St → Prop} (h : b_impl_declFault_1 a0 a1 st R) : HCalls prog n_impl_declFault_1 [a0, a1] st R :=
 hcalls_of_func tyOK mixed (fn := Go.Proofs.Tryz.f159) (by kernel_rfl) (by kernel_rfl) (by kernel_rfl) (ann := [])
  (show hFunc prog TT [] Go.Proofs.Tryz.f159 [a0, a1] st R from (show hFunc prog TT [] Go.Proofs.Tryz.f159 [a0, a1] st R = b_impl_declFault_1 a0 a1 st R by kernel_rfl) ▸ h)
def b_impl_checker_family (a0 a1 a2 a3 : PV) (st : St) (R : Res → St → Prop) : Prop :=
 e_box st a2 fun v6 st =>
 qb (q_fa 0 v6) fun v11 =>
 qb (q_load st false 1 v11) fun v12 =>
 qb (q_bin .eql v12 (.int .i64 2)) fun v14 =>
 cb v14 fun b => br b
  (qb (q_fa 3 v6) fun v17 =>
  qb (q_load st false 1 v17) fun v18 =>
  qb (q_ia 4 v18 (.int .i64 0)) fun v19 =>
  qb (q_load st true 4 v19) fun v20 =>
  qb (q_bin .add a3 (.int .i64 1)) fun v22 =>
  callK prog n_impl_checker_family [a0, a1, v20, v22] st (fun v23 st =>
  qb (q_fa 3 v6) fun v26 =>
  qb (q_load st false 1 v26) fun v27 =>
  qb (q_ia 4 v27 (.int .i64 0)) fun v28 =>
  qb (q_load st true 4 v28) fun v29 =>
  qb (q_fa 3 v6) fun v31 =>
  qb (q_load st false 1 v31) fun v32 =>
  qb (q_ia 4 v32 (.int .i64 1)) fun v33 =>
  qb (q_load st true 4 v33) fun v34 =>
  qb (q_bin .add a3 (.int .i64 1)) fun v36 =>
  qb (q_fa 3 v6) fun v37 =>
  qb (q_load st false 1 v37) fun v38 =>
  qb (q_ia 4 v38 (.int .i64 0)) fun v39 =>
  qb (q_load st true 4 v39) fun v40 =>
  callK prog n_impl_behind [a1, v29] st (fun v30 st =>
  q_load st true 4 v39 = some v40 ∧ q_load st false 1 v37 = some v38 ∧ q_load st true 4 v33 = some v34 ∧ q_load st false 1 v31 = some v32 ∧ (callK prog n_impl_Size [v40] st (fun v41 st =>
  q_load st true 4 v33 = some v34 ∧ q_load st false 1 v31 = some v32 ∧ (qb (q_bin .add v36 v41) fun v42 =>
  callK prog n_impl_checker_family [a0, v30, v34, v42] st (fun v43 st =>
  retR R (.tup []) st) (panR R))) (panR R))) (panR R)) (panR R))
  (qb (q_bin .eql v12 (.int .i64 3)) fun v45 =>
  cb v45 fun b_1 => br b_1
   (qb (q_fa 2 v6) fun v48 =>
   qb (q_load st false 1 v48) fun v49 =>
   callK prog n_impl_checker_declared [a0, v49, (.bool true)] st (fun v50 st =>
   qb (q_ex v50 0) fun v51 =>
   qb (q_ex v50 1) fun v52 =>
   e_alloc st [.int .i64 0, .int .i64 0, .str [], .sl 0 true []] fun v8 st =>
   e_store st 4 v8 v51 fun st =>
   qb (q_un .not v52) fun v54 =>
   hJ (fun ls st =>
    qb (q_fa 3 v6) fun v59 =>
    qb (q_load st false 1 v59) fun v60 =>
    qb (q_load st true 4 v8) fun v61 =>
    qb (q_bin .add a3 (.int .i64 1)) fun v63 =>
    callK prog n_impl_checker_args [a0, a1, v60, v61, v63] st (fun v64 st =>
    e_alloc st [.int .i64 0, .int .i64 0, .str [], .sl 0 true []] fun v10 st =>
    e_store st 4 v10 v64 fun st =>
    qb (q_fa 0 v10) fun v65 =>
    qb (q_load st false 1 v65) fun v66 =>
    qb (q_bin .neq v66 (.int .i64 1)) fun v67 =>
    cb v67 fun b_3 => br b_3
     (callK prog n_impl_stop [(.int .i64 8), a3] st (fun v69 st =>
     retR R (.tup []) st) (panR R))
     (retR R (.tup []) st)) (panR R))
    (fun k =>
   cb v54 fun b_2 => br b_2
    (callK prog n_impl_stop [(.int .i64 5), a3] st (fun v56 st =>
    k [] st) (panR R))
    (k [] st))) (panR R))
   (retR R (.tup []) st))
theorem c_impl_checker_family {a0 a1 a2 a3 : PV} {st : St} {R : Res → St → Prop} (h : b_impl_checker_family a0 a1 a2 a3 st R) : HCalls prog n_impl_checker_family [a0, a1, a2, a3] st R :=
 hcalls_of_func tyOK mixed (fn := Go.Proofs.Tryz.f160) (by kernel_rfl) (by kernel_rfl) (by kernel_rfl) (ann := [(34, [])])
  (show hFunc prog TT [(34, [])] Go.Proofs.Tryz.f160 [a0, a1, a2, a3] st R from (show hFunc prog TT [(34, [])] Go.Proofs.Tryz.f160 [a0, a1, a2, a3] st R = b_impl_checker_family a0 a1 a2 a3 st R by kernel_rfl) ▸ h)
def b_impl_Tree_each (a0 a1 a2 : PV) (st : St) (R : Res → St → Prop) : Prop :=
 e_call prog st a2 [a0, a1] (fun v11 st =>
 cb v11 fun b => br b
  (retR R (.bool true) st)
  (qb (q_nil a0) fun v13 =>
  qb (q_fa 3 v13) fun v14 =>
  qb (q_load st false 1 v14) fun v15 =>
  qb (q_len v15) fun v16 =>
  hFix (fun ls st X =>
   qb (q_bin .lss (ls.getD 0 .junk) v16) fun v18 =>
   cb v18 fun b_1 => br b_1
    (qb (q_nil a0) fun v21 =>
    qb (q_fa 3 v21) fun v22 =>
    qb (q_load st false 1 v22) fun v23 =>
    qb (q_ia 4 v23 (ls.getD 0 .junk)) fun v25 =>
    callK prog n_impl_Tree_under [a0, (ls.getD 0 .junk)] st (fun v29 st =>
    q_load st false 1 v22 = some v23 ∧ (qb (q_bin .add a1 v29) fun v30 =>
    callK prog n_impl_Tree_each [v25, v30, a2] st (fun v32 st =>
    cb v32 fun b_2 => br b_2
     (retR R (.bool true) st)
     (qb (q_bin .add (ls.getD 0 .junk) (.int .i64 1)) fun v33 =>
     X [v33] st)) (panR R))) (panR R))
    (retR R (.bool false) st))
   [(.int .i64 0)] st)) (panR R)
theorem c_impl_Tree_each {a0 a1 a2 : PV} {st : St} {R : Res → St → Prop} (h : b_impl_Tree_each a0 a1 a2 st R) : HCalls prog n_impl_Tree_each [a0, a1, a2] st R :=
 hcalls_of_func tyOK mixed (fn := Go.Proofs.Tryz.f161) (by kernel_rfl) (by kernel_rfl) (by kernel_rfl) (ann := [(16, [17])])
  (show hFunc prog TT [(16, [17])] Go.Proofs.Tryz.f161 [a0, a1, a2] st R from (show hFunc prog TT [(16, [17])] Go.Proofs.Tryz.f161 [a0, a1, a2] st R = b_impl_Tree_each a0 a1 a2 st R by kernel_rfl) ▸ h)
end Go.H.Tryz
