/- Part of a proof that the program answers as the reference does: EDS0. -/
import Derived.Test.YtcgobhgnoobifaaGreatDoorHT
/- MADE BY PROGRAM (hgen.py): what the functions compute, over pure values. -/
set_option linter.unusedVariables false
set_option maxRecDepth 100000
namespace Go.H.Tryz
open Go Go.H
def b_gosem_cut_init (st : St) (R : Res → St → Prop) : Prop :=
 callK prog n_gosem_cut [] st (fun v0 st =>
 retR R (.tup []) st) (panR R)
theorem e_gosem_cut_init : Enters prog n_gosem_cut_init := ⟨Go.Proofs.Tryz.f2, by kernel_rfl, by kernel_rfl, by kernel_rfl⟩
theorem c_gosem_cut_init {st : St} {R : Res → St → Prop} (h : b_gosem_cut_init  st R) : HCalls prog n_gosem_cut_init [] st R :=
 hcalls_of_func tyOK mixed (fn := Go.Proofs.Tryz.f2) (by kernel_rfl) (by kernel_rfl) (by kernel_rfl) (ann := [])
  (show hFunc prog TT [] Go.Proofs.Tryz.f2 [] st R from (show hFunc prog TT [] Go.Proofs.Tryz.f2 [] st R = b_gosem_cut_init  st R by kernel_rfl) ▸ h)
def b_laws_FnExactSynth (a0 a1 a2 : PV) (st : St) (R : Res → St → Prop) : Prop :=
 e_box st a2 fun v5 st =>
 callK prog n_laws_szDeclS [a0, (.int .i64 1048576)] st (fun v25 st =>
 qb (q_bin .lss v25 (.int .i64 0)) fun v27 =>
 cb v27 fun b => br b
  (retR R (.bool true) st)
  (callK prog n_laws_szTreeS [a1, v25] st (fun v30 st =>
  qb (q_bin .lss v30 (.int .i64 0)) fun v32 =>
  cb v32 fun b_1 => br b_1
   (retR R (.bool true) st)
   (qb (q_load st true 4 v5) fun v33 =>
   callK prog n_laws_szTree [v33, v30] st (fun v35 st =>
   qb (q_bin .lss v35 (.int .i64 0)) fun v37 =>
   cb v37 fun b_2 => br b_2
    (retR R (.bool true) st)
    (hJ (fun ls st =>
     callK prog n_laws_toDeclS [a0] st (fun v50 st =>
     callK prog n_laws_toTreeS [a1] st (fun v52 st =>
     qb (q_load st true 4 v5) fun v53 =>
     callK prog n_laws_toTree [v53] st (fun v54 st =>
     e_alloc st [.int .i64 0, .int .i64 0, .str [], .sl 0 true []] fun v13 st =>
     e_store st 4 v13 v54 fun st =>
     qb (q_load st true 4 v13) fun v58 =>
     callK prog n_impl_Synth [v50, v52, v58] st (fun v59 st =>
     qb (q_ex v59 0) fun v60 =>
     qb (q_ex v59 1) fun v61 =>
     qb (q_ex v59 2) fun v62 =>
     e_alloc st [.int .i64 0, .int .i64 0, .str [], .sl 0 true []] fun v14 st =>
     e_store st 4 v14 v60 fun st =>
     qb (q_load st true 4 v14) fun v63 =>
     qb (q_load st true 4 (ls.getD 0 .junk)) fun v64 =>
     callK prog n_laws_eqTree [v63, v64] st (fun v65 st =>
     qb (q_un .not v65) fun v66 =>
     cb v66 fun b_3 => br b_3
      (retR R (.bool false) st)
      (qb (q_bin .neq v61 (ls.getD 1 .junk)) fun v70 =>
      cb v70 fun b_4 => br b_4
       (retR R (.bool false) st)
       (qb (q_bin .neq v62 (ls.getD 2 .junk)) fun v75 =>
       cb v75 fun b_5 => br b_5
        (retR R (.bool false) st)
        (callK prog n_laws_toDeclS [a0] st (fun v79 st =>
        callK prog n_laws_eqDeclS [v50, v79] st (fun v80 st =>
        qb (q_un .not v80) fun v81 =>
        cb v81 fun b_6 => br b_6
         (retR R (.bool false) st)
         (callK prog n_laws_toTreeS [a1] st (fun v84 st =>
         callK prog n_laws_eqTreeS [v52, v84] st (fun v85 st =>
         qb (q_un .not v85) fun v86 =>
         cb v86 fun b_7 => br b_7
          (retR R (.bool false) st)
          (qb (q_load st true 4 v13) fun v87 =>
          qb (q_load st true 4 v5) fun v88 =>
          callK prog n_laws_toTree [v88] st (fun v89 st =>
          q_load st true 4 v13 = some v87 ∧ (callK prog n_laws_eqTree [v87, v89] st (fun v90 st =>
          qb (q_un .not v90) fun v91 =>
          cb v91 fun b_8 => br b_8
           (retR R (.bool false) st)
           (callK prog n_laws_markDeclS [v50, (.int .i64 1)] st (fun v94 st =>
           callK prog n_laws_markTreeS [v52, v94] st (fun v97 st =>
           qb (q_load st true 4 v13) fun v98 =>
           callK prog n_laws_markTree [v98, v97] st (fun v100 st =>
           qb (q_bin .lss v100 (.int .i64 0)) fun v102 =>
           cb v102 fun b_9 => br b_9
            (retR R (.bool false) st)
            (qb (q_load st true 4 v14) fun v104 =>
            qb (q_load st true 4 (ls.getD 0 .junk)) fun v105 =>
            callK prog n_laws_eqTree [v104, v105] st (fun v106 st =>
            qb (q_un .not v106) fun v107 =>
            cb v107 fun b_10 => br b_10
             (retR R (.bool false) st)
             (qb (q_bin .neq v61 (ls.getD 1 .junk)) fun v112 =>
             cb v112 fun b_11 => br b_11
              (retR R (.bool false) st)
              (qb (q_bin .neq v62 (ls.getD 2 .junk)) fun v117 =>
              cb v117 fun b_12 => br b_12
               (retR R (.bool false) st)
               (qb (q_load st true 4 v14) fun v119 =>
               callK prog n_laws_markTree [v119, (.int .i64 1)] st (fun v121 st =>
               qb (q_load st true 4 v14) fun v122 =>
               callK prog n_laws_heldTree [v122, (.int .i64 1)] st (fun v124 st =>
               qb (q_bin .lss v124 (.int .i64 0)) fun v126 =>
               cb v126 fun b_13 => br b_13
                (retR R (.bool false) st)
                (qb (q_bin .neq v124 v121) fun v129 =>
                cb v129 fun b_14 => br b_14
                 (retR R (.bool false) st)
                 (hJ (fun ls_1 st =>
                  qb (q_load st true 4 (ls_1.getD 0 .junk)) fun v141 =>
                  qb (q_load st true 4 (ls.getD 0 .junk)) fun v142 =>
                  callK prog n_laws_eqTree [v141, v142] st (fun v143 st =>
                  qb (q_un .not v143) fun v144 =>
                  cb v144 fun b_15 => br b_15
                   (retR R (.bool false) st)
                   (qb (q_bin .neq (ls_1.getD 1 .junk) (ls.getD 1 .junk)) fun v148 =>
                   cb v148 fun b_16 => br b_16
                    (retR R (.bool false) st)
                    (qb (q_bin .neq (ls_1.getD 2 .junk) (ls.getD 2 .junk)) fun v153 =>
                    cb v153 fun b_17 => br b_17
                     (retR R (.bool false) st)
                     (qb (q_load st true 4 v14) fun v155 =>
                     callK prog n_laws_heldTree [v155, (.int .i64 1)] st (fun v157 st =>
                     qb (q_bin .lss v157 (.int .i64 0)) fun v159 =>
                     cb v159 fun b_18 => br b_18
                      (retR R (.bool false) st)
                      (qb (q_bin .neq v157 v121) fun v162 =>
                      cb v162 fun b_19 => br b_19
                       (retR R (.bool false) st)
                       (retR R (.bool true) st))) (panR R))))) (panR R))
                  (fun k_1 =>
                 qb (q_load st true 4 v5) fun v135 =>
                 (callK prog n_laws_toDeclS [a0] st (fun v132 st =>
                 q_load st true 4 v5 = some v135 ∧ ((callK prog n_laws_toTreeS [a1] st (fun v134 st =>
                 q_load st true 4 v5 = some v135 ∧ ((callK prog n_laws_toTree [v135] st (fun v136 st =>
                 (callK prog n_impl_Synth [v132, v134, v136] st (fun v137 st =>
                 qb (q_ex v137 0) fun v138 =>
                 qb (q_ex v137 1) fun v139 =>
                 qb (q_ex v137 2) fun v140 =>
                 e_alloc st [.int .i64 0, .int .i64 0, .str [], .sl 0 true []] fun v20 st =>
                 q_load st true 4 v5 = some v135 ∧ (e_store st 4 v20 v138 fun st =>
                 k_1 [v20, v139, v140] st)) (panR R)) ∧
                 (e_alloc st [.int .i64 0, .int .i64 0, .str [], .sl 0 true []] fun v20_1 st =>
                 q_load st true 4 v5 = some v135 ∧ (callK prog n_impl_Synth [v132, v134, v136] st (fun v137_1 st =>
                 qb (q_ex v137_1 0) fun v138_1 =>
                 qb (q_ex v137_1 1) fun v139_1 =>
                 qb (q_ex v137_1 2) fun v140_1 =>
                 e_store st 4 v20_1 v138_1 fun st =>
                 k_1 [v20_1, v139_1, v140_1] st) (panR R)))) (panR R)) ∧
                 (e_alloc st [.int .i64 0, .int .i64 0, .str [], .sl 0 true []] fun v20_2 st =>
                 q_load st true 4 v5 = some v135 ∧ (callK prog n_laws_toTree [v135] st (fun v136_1 st =>
                 callK prog n_impl_Synth [v132, v134, v136_1] st (fun v137_2 st =>
                 qb (q_ex v137_2 0) fun v138_2 =>
                 qb (q_ex v137_2 1) fun v139_2 =>
                 qb (q_ex v137_2 2) fun v140_2 =>
                 e_store st 4 v20_2 v138_2 fun st =>
                 k_1 [v20_2, v139_2, v140_2] st) (panR R)) (panR R))))) (panR R)) ∧
                 (e_alloc st [.int .i64 0, .int .i64 0, .str [], .sl 0 true []] fun v20_3 st =>
                 q_load st true 4 v5 = some v135 ∧ (callK prog n_laws_toTreeS [a1] st (fun v134_1 st =>
                 q_load st true 4 v5 = some v135 ∧ (callK prog n_laws_toTree [v135] st (fun v136_2 st =>
                 callK prog n_impl_Synth [v132, v134_1, v136_2] st (fun v137_3 st =>
                 qb (q_ex v137_3 0) fun v138_3 =>
                 qb (q_ex v137_3 1) fun v139_3 =>
                 qb (q_ex v137_3 2) fun v140_3 =>
                 e_store st 4 v20_3 v138_3 fun st =>
                 k_1 [v20_3, v139_3, v140_3] st) (panR R)) (panR R))) (panR R))))) (panR R)) ∧
                 (e_alloc st [.int .i64 0, .int .i64 0, .str [], .sl 0 true []] fun v20_4 st =>
                 q_load st true 4 v5 = some v135 ∧ (callK prog n_laws_toDeclS [a0] st (fun v132_1 st =>
                 q_load st true 4 v5 = some v135 ∧ (callK prog n_laws_toTreeS [a1] st (fun v134_2 st =>
                 q_load st true 4 v5 = some v135 ∧ (callK prog n_laws_toTree [v135] st (fun v136_3 st =>
                 callK prog n_impl_Synth [v132_1, v134_2, v136_3] st (fun v137_4 st =>
                 qb (q_ex v137_4 0) fun v138_4 =>
                 qb (q_ex v137_4 1) fun v139_4 =>
                 qb (q_ex v137_4 2) fun v140_4 =>
                 e_store st 4 v20_4 v138_4 fun st =>
                 k_1 [v20_4, v139_4, v140_4] st) (panR R)) (panR R))) (panR R))) (panR R))))))) (panR R)) (panR R))))) (panR R))) (panR R)) (panR R)) (panR R))) (panR R))) (panR R))) (panR R)) (panR R))) (panR R)) (panR R))))) (panR R)) (panR R)) (panR R)) (panR R)) (panR R))
     (fun k =>
    qb (q_load st true 4 v5) fun v43 =>
    (callK prog n_laws_toDeclS [a0] st (fun v40 st =>
    q_load st true 4 v5 = some v43 ∧ ((callK prog n_laws_toTreeS [a1] st (fun v42 st =>
    q_load st true 4 v5 = some v43 ∧ ((callK prog n_laws_toTree [v43] st (fun v44 st =>
    (callK prog n_spec_Synth [v40, v42, v44] st (fun v45 st =>
    qb (q_ex v45 0) fun v46 =>
    qb (q_ex v45 1) fun v47 =>
    qb (q_ex v45 2) fun v48 =>
    e_alloc st [.int .i64 0, .int .i64 0, .str [], .sl 0 true []] fun v8 st =>
    q_load st true 4 v5 = some v43 ∧ (e_store st 4 v8 v46 fun st =>
    k [v8, v47, v48] st)) (panR R)) ∧
    (e_alloc st [.int .i64 0, .int .i64 0, .str [], .sl 0 true []] fun v8_1 st =>
    q_load st true 4 v5 = some v43 ∧ (callK prog n_spec_Synth [v40, v42, v44] st (fun v45_1 st =>
    qb (q_ex v45_1 0) fun v46_1 =>
    qb (q_ex v45_1 1) fun v47_1 =>
    qb (q_ex v45_1 2) fun v48_1 =>
    e_store st 4 v8_1 v46_1 fun st =>
    k [v8_1, v47_1, v48_1] st) (panR R)))) (panR R)) ∧
    (e_alloc st [.int .i64 0, .int .i64 0, .str [], .sl 0 true []] fun v8_2 st =>
    q_load st true 4 v5 = some v43 ∧ (callK prog n_laws_toTree [v43] st (fun v44_1 st =>
    callK prog n_spec_Synth [v40, v42, v44_1] st (fun v45_2 st =>
    qb (q_ex v45_2 0) fun v46_2 =>
    qb (q_ex v45_2 1) fun v47_2 =>
    qb (q_ex v45_2 2) fun v48_2 =>
    e_store st 4 v8_2 v46_2 fun st =>
    k [v8_2, v47_2, v48_2] st) (panR R)) (panR R))))) (panR R)) ∧
    (e_alloc st [.int .i64 0, .int .i64 0, .str [], .sl 0 true []] fun v8_3 st =>
    q_load st true 4 v5 = some v43 ∧ (callK prog n_laws_toTreeS [a1] st (fun v42_1 st =>
    q_load st true 4 v5 = some v43 ∧ (callK prog n_laws_toTree [v43] st (fun v44_2 st =>
    callK prog n_spec_Synth [v40, v42_1, v44_2] st (fun v45_3 st =>
    qb (q_ex v45_3 0) fun v46_3 =>
    qb (q_ex v45_3 1) fun v47_3 =>
    qb (q_ex v45_3 2) fun v48_3 =>
    e_store st 4 v8_3 v46_3 fun st =>
    k [v8_3, v47_3, v48_3] st) (panR R)) (panR R))) (panR R))))) (panR R)) ∧
    (e_alloc st [.int .i64 0, .int .i64 0, .str [], .sl 0 true []] fun v8_4 st =>
    q_load st true 4 v5 = some v43 ∧ (callK prog n_laws_toDeclS [a0] st (fun v40_1 st =>
    q_load st true 4 v5 = some v43 ∧ (callK prog n_laws_toTreeS [a1] st (fun v42_2 st =>
    q_load st true 4 v5 = some v43 ∧ (callK prog n_laws_toTree [v43] st (fun v44_3 st =>
    callK prog n_spec_Synth [v40_1, v42_2, v44_3] st (fun v45_4 st =>
    qb (q_ex v45_4 0) fun v46_4 =>
    qb (q_ex v45_4 1) fun v47_4 =>
    qb (q_ex v45_4 2) fun v48_4 =>
    e_store st 4 v8_4 v46_4 fun st =>
    k [v8_4, v47_4, v48_4] st) (panR R)) (panR R))) (panR R))) (panR R)))))) (panR R))) (panR R))) (panR R)
theorem e_laws_FnExactSynth : Enters prog n_laws_FnExactSynth := ⟨Go.Proofs.Tryz.f11, by kernel_rfl, by kernel_rfl, by kernel_rfl⟩
theorem c_laws_FnExactSynth {a0 a1 a2 : PV} {st : St} {R : Res → St → Prop} (h : b_laws_FnExactSynth a0 a1 a2 st R) : HCalls prog n_laws_FnExactSynth [a0, a1, a2] st R :=
 hcalls_of_func tyOK mixed (fn := Go.Proofs.Tryz.f11) (by kernel_rfl) (by kernel_rfl) (by kernel_rfl) (ann := [(45, [8, 9, 10]), (153, [20, 21, 22])])
  (show hFunc prog TT [(45, [8, 9, 10]), (153, [20, 21, 22])] Go.Proofs.Tryz.f11 [a0, a1, a2] st R from (show hFunc prog TT [(45, [8, 9, 10]), (153, [20, 21, 22])] Go.Proofs.Tryz.f11 [a0, a1, a2] st R = b_laws_FnExactSynth a0 a1 a2 st R by kernel_rfl) ▸ h)
def b_laws_szDeclS (a0 a1 : PV) (st : St) (R : Res → St → Prop) : Prop :=
 qb (q_len a0) fun v8 =>
 qb (q_bin .sub a1 v8) fun v9 =>
 qb (q_bin .lss v9 (.int .i64 0)) fun v11 =>
 cb v11 fun b => br b
  (retR R (.int .i64 (-1)) st)
  (hFix (fun ls st X =>
   qb (q_len a0) fun v14 =>
   qb (q_bin .lss (ls.getD 1 .junk) v14) fun v15 =>
   cb v15 fun b_1 => br b_1
    (qb (q_ia 6 a0 (ls.getD 1 .junk)) fun v20 =>
    qb (q_load st true 6 v20) fun v21 =>
    callK prog n_laws_szDecl [v21, (ls.getD 0 .junk)] st (fun v23 st =>
    qb (q_bin .lss v23 (.int .i64 0)) fun v25 =>
    cb v25 fun b_2 => br b_2
     (retR R (.int .i64 (-1)) st)
     (qb (q_bin .add (ls.getD 1 .junk) (.int .i64 1)) fun v17 =>
     X [v23, v17] st)) (panR R))
    (retR R (ls.getD 0 .junk) st))
   [v9, (.int .i64 0)] st)
theorem e_laws_szDeclS : Enters prog n_laws_szDeclS := ⟨Go.Proofs.Tryz.f15, by kernel_rfl, by kernel_rfl, by kernel_rfl⟩
theorem c_laws_szDeclS {a0 a1 : PV} {st : St} {R : Res → St → Prop} (h : b_laws_szDeclS a0 a1 st R) : HCalls prog n_laws_szDeclS [a0, a1] st R :=
 hcalls_of_func tyOK mixed (fn := Go.Proofs.Tryz.f15) (by kernel_rfl) (by kernel_rfl) (by kernel_rfl) (ann := [(20, [1, 5])])
  (show hFunc prog TT [(20, [1, 5])] Go.Proofs.Tryz.f15 [a0, a1] st R from (show hFunc prog TT [(20, [1, 5])] Go.Proofs.Tryz.f15 [a0, a1] st R = b_laws_szDeclS a0 a1 st R by kernel_rfl) ▸ h)
def b_spec_SigOK (a0 : PV) (st : St) (R : Res → St → Prop) : Prop :=
 qb (q_len a0) fun v7 =>
 qb (q_bin .gtr v7 (.int .i64 40)) fun v8 =>
 cb v8 fun b => br b
  (retR R (.bool false) st)
  (hFix (fun ls st X =>
   qb (q_len a0) fun v11 =>
   qb (q_bin .lss (ls.getD 0 .junk) v11) fun v12 =>
   cb v12 fun b_1 => br b_1
    (qb (q_sliceE 6 a0 none (some (ls.getD 0 .junk)) none) fun v18 =>
    qb (q_ia 6 a0 (ls.getD 0 .junk)) fun v21 =>
    qb (q_load st true 6 v21) fun v22 =>
    callK prog n_spec_l04Decl [v18, v22] st (fun v23 st =>
    qb (q_ex v23 0) fun v24 =>
    qb (q_ex v23 1) fun v25 =>
    qb (q_bin .neq v24 (.int .i64 0)) fun v27 =>
    cb v27 fun b_2 => br b_2
     (retR R (.bool false) st)
     (qb (q_bin .add (ls.getD 0 .junk) (.int .i64 1)) fun v14 =>
     X [v14] st)) (panR R))
    (retR R (.bool true) st))
   [(.int .i64 0)] st)
theorem e_spec_SigOK : Enters prog n_spec_SigOK := ⟨Go.Proofs.Tryz.f16, by kernel_rfl, by kernel_rfl, by kernel_rfl⟩
theorem c_spec_SigOK {a0 : PV} {st : St} {R : Res → St → Prop} (h : b_spec_SigOK a0 st R) : HCalls prog n_spec_SigOK [a0] st R :=
 hcalls_of_func tyOK mixed (fn := Go.Proofs.Tryz.f16) (by kernel_rfl) (by kernel_rfl) (by kernel_rfl) (ann := [(16, [3])])
  (show hFunc prog TT [(16, [3])] Go.Proofs.Tryz.f16 [a0] st R from (show hFunc prog TT [(16, [3])] Go.Proofs.Tryz.f16 [a0] st R = b_spec_SigOK a0 st R by kernel_rfl) ▸ h)
def b_laws_toDeclS (a0 : PV) (st : St) (R : Res → St → Prop) : Prop :=
 qb (q_len a0) fun v6 =>
 e_make st 6 80 (.agg [.str [], .bool false, .int .i64 0, .int .i64 0, .str [], .sl 0 true []]) v6 v6 fun v7 st =>
 hFix (fun ls st X =>
  qb (q_len a0) fun v10 =>
  qb (q_bin .lss (ls.getD 0 .junk) v10) fun v11 =>
  cb v11 fun b => br b
   (qb (q_ia 6 a0 (ls.getD 0 .junk)) fun v18 =>
   qb (q_load st true 6 v18) fun v19 =>
   callK prog n_laws_toDecl [v19] st (fun v20 st =>
   qb (q_ia 6 v7 (ls.getD 0 .junk)) fun v21 =>
   e_store st 6 v21 v20 fun st =>
   qb (q_bin .add (ls.getD 0 .junk) (.int .i64 1)) fun v13 =>
   X [v13] st) (panR R))
   (retR R v7 st))
  [(.int .i64 0)] st
theorem e_laws_toDeclS : Enters prog n_laws_toDeclS := ⟨Go.Proofs.Tryz.f17, by kernel_rfl, by kernel_rfl, by kernel_rfl⟩
theorem c_laws_toDeclS {a0 : PV} {st : St} {R : Res → St → Prop} (h : b_laws_toDeclS a0 st R) : HCalls prog n_laws_toDeclS [a0] st R :=
 hcalls_of_func tyOK mixed (fn := Go.Proofs.Tryz.f17) (by kernel_rfl) (by kernel_rfl) (by kernel_rfl) (ann := [(12, [4])])
  (show hFunc prog TT [(12, [4])] Go.Proofs.Tryz.f17 [a0] st R from (show hFunc prog TT [(12, [4])] Go.Proofs.Tryz.f17 [a0] st R = b_laws_toDeclS a0 st R by kernel_rfl) ▸ h)
def b_impl_SigOK (a0 : PV) (st : St) (R : Res → St → Prop) : Prop :=
 qb (q_len a0) fun v6 =>
 qb (q_bin .gtr v6 (.int .i64 40)) fun v7 =>
 cb v7 fun b => br b
  (retR R (.bool false) st)
  (qb (q_len a0) fun v9 =>
  hFix (fun ls st X =>
   qb (q_bin .lss (ls.getD 0 .junk) v9) fun v11 =>
   cb v11 fun b_1 => br b_1
    (qb (q_ia 6 a0 (ls.getD 0 .junk)) fun v13 =>
    qb (q_load st true 6 v13) fun v14 =>
    e_alloc st [.str [], .bool false, .int .i64 0, .int .i64 0, .str [], .sl 0 true []] fun v4 st =>
    e_store st 6 v4 v14 fun st =>
    qb (q_load st true 6 v4) fun v15 =>
    callK prog n_impl_declForm [v15] st (fun v16 st =>
    qb (q_un .not v16) fun v17 =>
    cb v17 fun b_2 => br b_2
     (retR R (.bool false) st)
     (qb (q_sliceE 6 a0 none (some (ls.getD 0 .junk)) none) fun v21 =>
     qb (q_fa 0 v4) fun v22 =>
     qb (q_load st false 1 v22) fun v23 =>
     callK prog n_impl_has [v21, v23] st (fun v24 st =>
     cb v24 fun b_3 => br b_3
      (retR R (.bool false) st)
      (qb (q_sliceE 6 a0 none (some (ls.getD 0 .junk)) none) fun v29 =>
      qb (q_load st true 6 v4) fun v30 =>
      callK prog n_impl_declFault [v29, v30] st (fun v31 st =>
      qb (q_field false 1 0 v31) fun v32 =>
      qb (q_bin .neq v32 (.int .i64 0)) fun v33 =>
      cb v33 fun b_4 => br b_4
       (retR R (.bool false) st)
       (qb (q_bin .add (ls.getD 0 .junk) (.int .i64 1)) fun v35 =>
       X [v35] st)) (panR R))) (panR R))) (panR R))
    (retR R (.bool true) st))
   [(.int .i64 0)] st)
theorem e_impl_SigOK : Enters prog n_impl_SigOK := ⟨Go.Proofs.Tryz.f18, by kernel_rfl, by kernel_rfl, by kernel_rfl⟩
theorem c_impl_SigOK {a0 : PV} {st : St} {R : Res → St → Prop} (h : b_impl_SigOK a0 st R) : HCalls prog n_impl_SigOK [a0] st R :=
 hcalls_of_func tyOK mixed (fn := Go.Proofs.Tryz.f18) (by kernel_rfl) (by kernel_rfl) (by kernel_rfl) (ann := [(16, [10])])
  (show hFunc prog TT [(16, [10])] Go.Proofs.Tryz.f18 [a0] st R from (show hFunc prog TT [(16, [10])] Go.Proofs.Tryz.f18 [a0] st R = b_impl_SigOK a0 st R by kernel_rfl) ▸ h)
def b_laws_eqDeclS (a0 a1 : PV) (st : St) (R : Res → St → Prop) : Prop :=
 qb (q_len a0) fun v7 =>
 qb (q_len a1) fun v9 =>
 qb (q_bin .neq v7 v9) fun v10 =>
 cb v10 fun b => br b
  (retR R (.bool false) st)
  (hFix (fun ls st X =>
   qb (q_len a0) fun v13 =>
   qb (q_bin .lss (ls.getD 0 .junk) v13) fun v14 =>
   cb v14 fun b_1 => br b_1
    (qb (q_ia 6 a0 (ls.getD 0 .junk)) fun v19 =>
    qb (q_load st true 6 v19) fun v20 =>
    qb (q_ia 6 a1 (ls.getD 0 .junk)) fun v23 =>
    qb (q_load st true 6 v23) fun v24 =>
    callK prog n_laws_eqDecl [v20, v24] st (fun v25 st =>
    qb (q_un .not v25) fun v26 =>
    cb v26 fun b_2 => br b_2
     (retR R (.bool false) st)
     (qb (q_bin .add (ls.getD 0 .junk) (.int .i64 1)) fun v16 =>
     X [v16] st)) (panR R))
    (retR R (.bool true) st))
   [(.int .i64 0)] st)
theorem e_laws_eqDeclS : Enters prog n_laws_eqDeclS := ⟨Go.Proofs.Tryz.f19, by kernel_rfl, by kernel_rfl, by kernel_rfl⟩
theorem c_laws_eqDeclS {a0 a1 : PV} {st : St} {R : Res → St → Prop} (h : b_laws_eqDeclS a0 a1 st R) : HCalls prog n_laws_eqDeclS [a0, a1] st R :=
 hcalls_of_func tyOK mixed (fn := Go.Proofs.Tryz.f19) (by kernel_rfl) (by kernel_rfl) (by kernel_rfl) (ann := [(16, [5])])
  (show hFunc prog TT [(16, [5])] Go.Proofs.Tryz.f19 [a0, a1] st R from (show hFunc prog TT [(16, [5])] Go.Proofs.Tryz.f19 [a0, a1] st R = b_laws_eqDeclS a0 a1 st R by kernel_rfl) ▸ h)
def b_laws_szTreeS (a0 a1 : PV) (st : St) (R : Res → St → Prop) : Prop :=
 qb (q_len a0) fun v8 =>
 qb (q_bin .sub a1 v8) fun v9 =>
 qb (q_bin .lss v9 (.int .i64 0)) fun v11 =>
 cb v11 fun b => br b
  (retR R (.int .i64 (-1)) st)
  (hFix (fun ls st X =>
   qb (q_len a0) fun v14 =>
   qb (q_bin .lss (ls.getD 1 .junk) v14) fun v15 =>
   cb v15 fun b_1 => br b_1
    (qb (q_ia 4 a0 (ls.getD 1 .junk)) fun v20 =>
    qb (q_load st true 4 v20) fun v21 =>
    callK prog n_laws_szTree [v21, (ls.getD 0 .junk)] st (fun v23 st =>
    qb (q_bin .lss v23 (.int .i64 0)) fun v25 =>
    cb v25 fun b_2 => br b_2
     (retR R (.int .i64 (-1)) st)
     (qb (q_bin .add (ls.getD 1 .junk) (.int .i64 1)) fun v17 =>
     X [v23, v17] st)) (panR R))
    (retR R (ls.getD 0 .junk) st))
   [v9, (.int .i64 0)] st)
theorem e_laws_szTreeS : Enters prog n_laws_szTreeS := ⟨Go.Proofs.Tryz.f20, by kernel_rfl, by kernel_rfl, by kernel_rfl⟩
theorem c_laws_szTreeS {a0 a1 : PV} {st : St} {R : Res → St → Prop} (h : b_laws_szTreeS a0 a1 st R) : HCalls prog n_laws_szTreeS [a0, a1] st R :=
 hcalls_of_func tyOK mixed (fn := Go.Proofs.Tryz.f20) (by kernel_rfl) (by kernel_rfl) (by kernel_rfl) (ann := [(20, [1, 5])])
  (show hFunc prog TT [(20, [1, 5])] Go.Proofs.Tryz.f20 [a0, a1] st R from (show hFunc prog TT [(20, [1, 5])] Go.Proofs.Tryz.f20 [a0, a1] st R = b_laws_szTreeS a0 a1 st R by kernel_rfl) ▸ h)
def b_spec_CtxOK (a0 a1 : PV) (st : St) (R : Res → St → Prop) : Prop :=
 callK prog n_spec_SigOK [a0] st (fun v6 st =>
 cb v6 fun b => br b
  (callK prog n_spec_l04Ctx [a0, a1] st (fun v10 st =>
  retR R v10 st) (panR R))
  (retR R (.bool false) st)) (panR R)
theorem e_spec_CtxOK : Enters prog n_spec_CtxOK := ⟨Go.Proofs.Tryz.f21, by kernel_rfl, by kernel_rfl, by kernel_rfl⟩
theorem c_spec_CtxOK {a0 a1 : PV} {st : St} {R : Res → St → Prop} (h : b_spec_CtxOK a0 a1 st R) : HCalls prog n_spec_CtxOK [a0, a1] st R :=
 hcalls_of_func tyOK mixed (fn := Go.Proofs.Tryz.f21) (by kernel_rfl) (by kernel_rfl) (by kernel_rfl) (ann := [])
  (show hFunc prog TT [] Go.Proofs.Tryz.f21 [a0, a1] st R from (show hFunc prog TT [] Go.Proofs.Tryz.f21 [a0, a1] st R = b_spec_CtxOK a0 a1 st R by kernel_rfl) ▸ h)
end Go.H.Tryz
