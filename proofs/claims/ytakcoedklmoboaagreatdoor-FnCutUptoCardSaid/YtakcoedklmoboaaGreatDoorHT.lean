/- Part of a proof that the program answers as the reference does: ZFB. -/
import Derived.Test.YtakcoedklmoboaaGreatDoorProg
import Derived.Test.YtakcoedklmoboaaGreatDoorHD
/- MADE BY PROGRAM (hgen.py): types and names. -/
set_option linter.unusedVariables false
set_option maxRecDepth 100000
namespace Go.H.Tryz
open Go Go.H
noncomputable abbrev prog : Program := Go.Proofs.Tryz.prog
def tab : List (Nat × TD) := [(2, ⟨1, 8, .int .i64, [.int .i64 0]⟩),
 (3, ⟨1, 8, .int .i64, [.int .i64 0]⟩),
 (4, ⟨1, 1, .bool, [.bool false]⟩),
 (5, ⟨1, 1, .int .u8, [.int .u8 0]⟩),
 (9, ⟨1, 16, .string, [.str []]⟩),
 (21, ⟨1, 4, .int .i32, [.int .i32 0]⟩),
 (22, ⟨1, 24, .slice 5, [.sl 0 true []]⟩),
 (23, ⟨1, 24, .slice 25, [.sl 0 true []]⟩),
 (25, ⟨3, 40, .struct [(0, 3), (1, 3), (2, 23)], [.int .i64 0, .int .i64 0, .sl 0 true []]⟩),
 (27, ⟨1, 24, .slice 29, [.sl 0 true []]⟩),
 (29, ⟨4, 56, .struct [(0, 3), (1, 3), (2, 9), (3, 27)], [.int .i64 0, .int .i64 0, .str [], .sl 0 true []]⟩),
 (36, ⟨1, 24, .slice 154, [.sl 0 true []]⟩),
 (41, ⟨1, 24, .slice 43, [.sl 0 true []]⟩),
 (43, ⟨4, 64, .struct [(0, 3), (1, 3), (2, 23), (3, 41)], [.int .i64 0, .int .i64 0, .sl 0 true [], .sl 0 true []]⟩),
 (62, ⟨1, 8, .func, [.nilfn]⟩),
 (65, ⟨2, 16, .struct [(0, 3), (1, 3)], [.int .i64 0, .int .i64 0]⟩),
 (71, ⟨1, 8, .pointer, [.nilp]⟩),
 (73, ⟨1, 8, .func, [.nilfn]⟩),
 (84, ⟨1, 8, .func, [.nilfn]⟩),
 (94, ⟨1, 8, .struct [(0, 3)], [.int .i64 0]⟩),
 (97, ⟨3, 40, .struct [(0, 22), (1, 3), (2, 3)], [.sl 0 true [], .int .i64 0, .int .i64 0]⟩),
 (108, ⟨2, 32, .struct [(0, 94), (1, 36)], [.int .i64 0, .sl 0 true []]⟩),
 (116, ⟨1, 24, .slice 3, [.sl 0 true []]⟩),
 (119, ⟨1, 8, .func, [.nilfn]⟩),
 (121, ⟨5, 48, .struct [(0, 3), (1, 3), (2, 9), (3, 84), (4, 119)], [.int .i64 0, .int .i64 0, .str [], .nilfn, .nilfn]⟩),
 (134, ⟨2, 16, .struct [(0, 3), (1, 4)], [.int .i64 0, .bool false]⟩),
 (154, ⟨6, 80, .struct [(0, 9), (1, 4), (2, 29)], [.str [], .bool false, .int .i64 0, .int .i64 0, .str [], .sl 0 true []]⟩),
 (170, ⟨1, 24, .slice 27, [.sl 0 true []]⟩),
 (177, ⟨256, 256, .array 256 4, [.bool false, .bool false, .bool false, .bool false, .bool false, .bool false, .bool false, .bool false, .bool false, .bool false, .bool false, .bool false, .bool false, .bool false, .bool false, .bool false, .bool false, .bool false, .bool false, .bool false, .bool false, .bool false, .bool false, .bool false, .bool false, .bool false, .bool false, .bool false, .bool false, .bool false, .bool false, .bool false, .bool false, .bool false, .bool false, .bool false, .bool false, .bool false, .bool false, .bool false, .bool false, .bool false, .bool false, .bool false, .bool false, .bool false, .bool false, .bool false, .bool false, .bool false, .bool false, .bool false, .bool false, .bool false, .bool false, .bool false, .bool false, .bool false, .bool false, .bool false, .bool false, .bool false, .bool false, .bool false, .bool false, .bool false, .bool false, .bool false, .bool false, .bool false, .bool false, .bool false, .bool false, .bool false, .bool false, .bool false, .bool false, .bool false, .bool false, .bool false, .bool false, .bool false, .bool false, .bool false, .bool false, .bool false, .bool false, .bool false, .bool false, .bool false, .bool false, .bool false, .bool false, .bool false, .bool false, .bool false, .bool false, .bool false, .bool false, .bool false, .bool false, .bool false, .bool false, .bool false, .bool false, .bool false, .bool false, .bool false, .bool false, .bool false, .bool false, .bool false, .bool false, .bool false, .bool false, .bool false, .bool false, .bool false, .bool false, .bool false, .bool false, .bool false, .bool false, .bool false, .bool false, .bool false, .bool false, .bool false, .bool false, .bool false, .bool false, .bool false, .bool false, .bool false, .bool false, .bool false, .bool false, .bool false, .bool false, .bool false, .bool false, .bool false, .bool false, .bool false, .bool false, .bool false, .bool false, .bool false, .bool false, .bool false, .bool false, .bool false, .bool false, .bool false, .bool false, .bool false, .bool false, .bool false, .bool false, .bool false, .bool false, .bool false, .bool false, .bool false, .bool false, .bool false, .bool false, .bool false, .bool false, .bool false, .bool false, .bool false, .bool false, .bool false, .bool false, .bool false, .bool false, .bool false, .bool false, .bool false, .bool false, .bool false, .bool false, .bool false, .bool false, .bool false, .bool false, .bool false, .bool false, .bool false, .bool false, .bool false, .bool false, .bool false, .bool false, .bool false, .bool false, .bool false, .bool false, .bool false, .bool false, .bool false, .bool false, .bool false, .bool false, .bool false, .bool false, .bool false, .bool false, .bool false, .bool false, .bool false, .bool false, .bool false, .bool false, .bool false, .bool false, .bool false, .bool false, .bool false, .bool false, .bool false, .bool false, .bool false, .bool false, .bool false, .bool false, .bool false, .bool false, .bool false, .bool false, .bool false, .bool false, .bool false, .bool false, .bool false, .bool false, .bool false, .bool false, .bool false, .bool false, .bool false, .bool false, .bool false, .bool false, .bool false, .bool false, .bool false, .bool false, .bool false, .bool false, .bool false, .bool false, .bool false, .bool false, .bool false]⟩),
 (183, ⟨1, 8, .func, [.nilfn]⟩),
 (184, ⟨1, 8, .pointer, [.nilp]⟩),
 (190, ⟨1, 24, .slice 9, [.sl 0 true []]⟩),
 (192, ⟨5, 64, .struct [(0, 9), (1, 3), (2, 190), (3, 3), (4, 4)], [.str [], .int .i64 0, .sl 0 true [], .int .i64 0, .bool false]⟩),
 (201, ⟨256, 256, .array 256 5, [.int .u8 0, .int .u8 0, .int .u8 0, .int .u8 0, .int .u8 0, .int .u8 0, .int .u8 0, .int .u8 0, .int .u8 0, .int .u8 0, .int .u8 0, .int .u8 0, .int .u8 0, .int .u8 0, .int .u8 0, .int .u8 0, .int .u8 0, .int .u8 0, .int .u8 0, .int .u8 0, .int .u8 0, .int .u8 0, .int .u8 0, .int .u8 0, .int .u8 0, .int .u8 0, .int .u8 0, .int .u8 0, .int .u8 0, .int .u8 0, .int .u8 0, .int .u8 0, .int .u8 0, .int .u8 0, .int .u8 0, .int .u8 0, .int .u8 0, .int .u8 0, .int .u8 0, .int .u8 0, .int .u8 0, .int .u8 0, .int .u8 0, .int .u8 0, .int .u8 0, .int .u8 0, .int .u8 0, .int .u8 0, .int .u8 0, .int .u8 0, .int .u8 0, .int .u8 0, .int .u8 0, .int .u8 0, .int .u8 0, .int .u8 0, .int .u8 0, .int .u8 0, .int .u8 0, .int .u8 0, .int .u8 0, .int .u8 0, .int .u8 0, .int .u8 0, .int .u8 0, .int .u8 0, .int .u8 0, .int .u8 0, .int .u8 0, .int .u8 0, .int .u8 0, .int .u8 0, .int .u8 0, .int .u8 0, .int .u8 0, .int .u8 0, .int .u8 0, .int .u8 0, .int .u8 0, .int .u8 0, .int .u8 0, .int .u8 0, .int .u8 0, .int .u8 0, .int .u8 0, .int .u8 0, .int .u8 0, .int .u8 0, .int .u8 0, .int .u8 0, .int .u8 0, .int .u8 0, .int .u8 0, .int .u8 0, .int .u8 0, .int .u8 0, .int .u8 0, .int .u8 0, .int .u8 0, .int .u8 0, .int .u8 0, .int .u8 0, .int .u8 0, .int .u8 0, .int .u8 0, .int .u8 0, .int .u8 0, .int .u8 0, .int .u8 0, .int .u8 0, .int .u8 0, .int .u8 0, .int .u8 0, .int .u8 0, .int .u8 0, .int .u8 0, .int .u8 0, .int .u8 0, .int .u8 0, .int .u8 0, .int .u8 0, .int .u8 0, .int .u8 0, .int .u8 0, .int .u8 0, .int .u8 0, .int .u8 0, .int .u8 0, .int .u8 0, .int .u8 0, .int .u8 0, .int .u8 0, .int .u8 0, .int .u8 0, .int .u8 0, .int .u8 0, .int .u8 0, .int .u8 0, .int .u8 0, .int .u8 0, .int .u8 0, .int .u8 0, .int .u8 0, .int .u8 0, .int .u8 0, .int .u8 0, .int .u8 0, .int .u8 0, .int .u8 0, .int .u8 0, .int .u8 0, .int .u8 0, .int .u8 0, .int .u8 0, .int .u8 0, .int .u8 0, .int .u8 0, .int .u8 0, .int .u8 0, .int .u8 0, .int .u8 0, .int .u8 0, .int .u8 0, .int .u8 0, .int .u8 0, .int .u8 0, .int .u8 0, .int .u8 0, .int .u8 0, .int .u8 0, .int .u8 0, .int .u8 0, .int .u8 0, .int .u8 0, .int .u8 0, .int .u8 0, .int .u8 0, .int .u8 0, .int .u8 0, .int .u8 0, .int .u8 0, .int .u8 0, .int .u8 0, .int .u8 0, .int .u8 0, .int .u8 0, .int .u8 0, .int .u8 0, .int .u8 0, .int .u8 0, .int .u8 0, .int .u8 0, .int .u8 0, .int .u8 0, .int .u8 0, .int .u8 0, .int .u8 0, .int .u8 0, .int .u8 0, .int .u8 0, .int .u8 0, .int .u8 0, .int .u8 0, .int .u8 0, .int .u8 0, .int .u8 0, .int .u8 0, .int .u8 0, .int .u8 0, .int .u8 0, .int .u8 0, .int .u8 0, .int .u8 0, .int .u8 0, .int .u8 0, .int .u8 0, .int .u8 0, .int .u8 0, .int .u8 0, .int .u8 0, .int .u8 0, .int .u8 0, .int .u8 0, .int .u8 0, .int .u8 0, .int .u8 0, .int .u8 0, .int .u8 0, .int .u8 0, .int .u8 0, .int .u8 0, .int .u8 0, .int .u8 0, .int .u8 0, .int .u8 0, .int .u8 0, .int .u8 0, .int .u8 0, .int .u8 0, .int .u8 0, .int .u8 0, .int .u8 0, .int .u8 0, .int .u8 0, .int .u8 0, .int .u8 0, .int .u8 0, .int .u8 0, .int .u8 0, .int .u8 0, .int .u8 0, .int .u8 0, .int .u8 0, .int .u8 0, .int .u8 0, .int .u8 0]⟩),
 (202, ⟨1, 8, .int .u64, [.int .u64 0]⟩),
 (210, ⟨24, 24, .array 24 5, [.int .u8 0, .int .u8 0, .int .u8 0, .int .u8 0, .int .u8 0, .int .u8 0, .int .u8 0, .int .u8 0, .int .u8 0, .int .u8 0, .int .u8 0, .int .u8 0, .int .u8 0, .int .u8 0, .int .u8 0, .int .u8 0, .int .u8 0, .int .u8 0, .int .u8 0, .int .u8 0, .int .u8 0, .int .u8 0, .int .u8 0, .int .u8 0]⟩),
 (211, ⟨1, 8, .int .u64, [.int .u64 0]⟩),
 (217, ⟨1, 16, .iface, [.niliface]⟩),
 (224, ⟨20, 160, .array 20 211, [.int .u64 0, .int .u64 0, .int .u64 0, .int .u64 0, .int .u64 0, .int .u64 0, .int .u64 0, .int .u64 0, .int .u64 0, .int .u64 0, .int .u64 0, .int .u64 0, .int .u64 0, .int .u64 0, .int .u64 0, .int .u64 0, .int .u64 0, .int .u64 0, .int .u64 0, .int .u64 0]⟩),
 (225, ⟨1, 4, .int .u32, [.int .u32 0]⟩),
 (226, ⟨65, 65, .array 65 5, [.int .u8 0, .int .u8 0, .int .u8 0, .int .u8 0, .int .u8 0, .int .u8 0, .int .u8 0, .int .u8 0, .int .u8 0, .int .u8 0, .int .u8 0, .int .u8 0, .int .u8 0, .int .u8 0, .int .u8 0, .int .u8 0, .int .u8 0, .int .u8 0, .int .u8 0, .int .u8 0, .int .u8 0, .int .u8 0, .int .u8 0, .int .u8 0, .int .u8 0, .int .u8 0, .int .u8 0, .int .u8 0, .int .u8 0, .int .u8 0, .int .u8 0, .int .u8 0, .int .u8 0, .int .u8 0, .int .u8 0, .int .u8 0, .int .u8 0, .int .u8 0, .int .u8 0, .int .u8 0, .int .u8 0, .int .u8 0, .int .u8 0, .int .u8 0, .int .u8 0, .int .u8 0, .int .u8 0, .int .u8 0, .int .u8 0, .int .u8 0, .int .u8 0, .int .u8 0, .int .u8 0, .int .u8 0, .int .u8 0, .int .u8 0, .int .u8 0, .int .u8 0, .int .u8 0, .int .u8 0, .int .u8 0, .int .u8 0, .int .u8 0, .int .u8 0, .int .u8 0]⟩),
 (231, ⟨1, 8, .int .i64, [.int .i64 0]⟩),
 (237, ⟨32, 32, .array 32 5, [.int .u8 0, .int .u8 0, .int .u8 0, .int .u8 0, .int .u8 0, .int .u8 0, .int .u8 0, .int .u8 0, .int .u8 0, .int .u8 0, .int .u8 0, .int .u8 0, .int .u8 0, .int .u8 0, .int .u8 0, .int .u8 0, .int .u8 0, .int .u8 0, .int .u8 0, .int .u8 0, .int .u8 0, .int .u8 0, .int .u8 0, .int .u8 0, .int .u8 0, .int .u8 0, .int .u8 0, .int .u8 0, .int .u8 0, .int .u8 0, .int .u8 0, .int .u8 0]⟩),
 (238, ⟨64, 64, .array 64 5, [.int .u8 0, .int .u8 0, .int .u8 0, .int .u8 0, .int .u8 0, .int .u8 0, .int .u8 0, .int .u8 0, .int .u8 0, .int .u8 0, .int .u8 0, .int .u8 0, .int .u8 0, .int .u8 0, .int .u8 0, .int .u8 0, .int .u8 0, .int .u8 0, .int .u8 0, .int .u8 0, .int .u8 0, .int .u8 0, .int .u8 0, .int .u8 0, .int .u8 0, .int .u8 0, .int .u8 0, .int .u8 0, .int .u8 0, .int .u8 0, .int .u8 0, .int .u8 0, .int .u8 0, .int .u8 0, .int .u8 0, .int .u8 0, .int .u8 0, .int .u8 0, .int .u8 0, .int .u8 0, .int .u8 0, .int .u8 0, .int .u8 0, .int .u8 0, .int .u8 0, .int .u8 0, .int .u8 0, .int .u8 0, .int .u8 0, .int .u8 0, .int .u8 0, .int .u8 0, .int .u8 0, .int .u8 0, .int .u8 0, .int .u8 0, .int .u8 0, .int .u8 0, .int .u8 0, .int .u8 0, .int .u8 0, .int .u8 0, .int .u8 0, .int .u8 0]⟩),
 (242, ⟨3, 48, .struct [(0, 9), (1, 9), (2, 217)], [.str [], .str [], .niliface]⟩),
 (246, ⟨1, 8, .pointer, [.nilp]⟩),
 (248, ⟨1, 16, .struct [(0, 9)], [.str []]⟩)]
abbrev TT : TypeId → Option TD := tyTab tab
theorem tyOK : TyOK prog TT := tyTab_ok (by kernel_rfl)
theorem mixed : prog.follows .mixedOrders = true := by kernel_rfl
abbrev ty_string : TypeId := 9
abbrev ty_impl_halt : TypeId := 65
abbrev ty_strconv_Error : TypeId := 231
abbrev ty_errors_errorString : TypeId := 246
abbrev n_main_main : FuncId := 0
abbrev n_gosem_cut : FuncId := 1
abbrev n_gosem_cut_init : FuncId := 2
abbrev n_laws_FnForms : FuncId := 3
abbrev n_laws_FnCut : FuncId := 4
abbrev n_spec_FormOf : FuncId := 5
abbrev n_impl_EncodeForm : FuncId := 6
abbrev n_impl_DecodeForm : FuncId := 7
abbrev n_impl_CheckTerm : FuncId := 8
abbrev n_impl_LogicSig : FuncId := 9
abbrev n_laws_sameForm : FuncId := 10
abbrev n_laws_full : FuncId := 11
abbrev n_spec_CutOf : FuncId := 12
abbrev n_spec_ProofOK : FuncId := 13
abbrev n_impl_Proves : FuncId := 14
abbrev n_impl_CutProof : FuncId := 15
abbrev n_spec_CutProof : FuncId := 16
abbrev n_laws_sameProof : FuncId := 17
abbrev n_impl_EncodeProof : FuncId := 18
abbrev n_impl_Subst : FuncId := 19
abbrev n_laws_same : FuncId := 20
abbrev n_spec_l00Source : FuncId := 21
abbrev n_spec_l00Src_form : FuncId := 22
abbrev n_spec_l00Src_next : FuncId := 23
abbrev n_impl_encoded : FuncId := 24
abbrev n_impl_FormOK : FuncId := 25
abbrev n_impl_EncodeForm_1 : FuncId := 26
abbrev n_impl_formTerm : FuncId := 27
abbrev n_impl_badTerm : FuncId := 28
abbrev n_impl_caught : FuncId := 29
abbrev n_impl_DecodeForm_1 : FuncId := 30
abbrev n_impl_readForm : FuncId := 31
abbrev n_impl_checked : FuncId := 32
abbrev n_impl_CheckTerm_1 : FuncId := 33
abbrev n_impl_TermOK : FuncId := 34
abbrev n_impl_due : FuncId := 35
abbrev n_impl_CheckTerm_2 : FuncId := 36
abbrev n_impl_checker_term : FuncId := 37
abbrev n_impl_builtIn : FuncId := 38
abbrev n_spec_l00Src_hyps : FuncId := 39
abbrev n_spec_l00Src_proof : FuncId := 40
abbrev n_spec_l08More : FuncId := 41
abbrev n_spec_l08Count : FuncId := 42
abbrev n_spec_l08Proof : FuncId := 43
abbrev n_impl_longLists : FuncId := 44
abbrev n_impl_hypsOK : FuncId := 45
abbrev n_impl_ProofOK : FuncId := 46
abbrev n_impl_Proves_1 : FuncId := 47
abbrev n_impl_proves : FuncId := 48
abbrev n_impl_cloneForm : FuncId := 49
abbrev n_impl_CutProof_1 : FuncId := 50
abbrev n_slices_Clip_impl_Form_impl_Form : FuncId := 51
abbrev n_impl_Proof_moved : FuncId := 52
abbrev n_impl_CutProof_2 : FuncId := 53
abbrev n_impl_Proof_lifted : FuncId := 54
abbrev n_spec_l08Hyps : FuncId := 55
abbrev n_spec_l08Proves : FuncId := 56
abbrev n_spec_l08Cut : FuncId := 57
abbrev n_impl_EncodeProof_1 : FuncId := 58
abbrev n_impl_proofTerm : FuncId := 59
abbrev n_impl_SimpleOK : FuncId := 60
abbrev n_impl_treeOK : FuncId := 61
abbrev n_impl_result : FuncId := 62
abbrev n_impl_Subst_1 : FuncId := 63
abbrev n_impl_work_put : FuncId := 64
abbrev n_spec_l00Src_chance : FuncId := 65
abbrev n_spec_l08Two : FuncId := 66
abbrev n_spec_l00Src_byte : FuncId := 67
abbrev n_impl_tooBig : FuncId := 68
abbrev n_impl_fresh : FuncId := 69
abbrev n_impl_looker_form : FuncId := 70
abbrev n_impl_constant : FuncId := 71
abbrev n_impl_caught_1 : FuncId := 72
abbrev n_impl_bottom : FuncId := 73
abbrev n_impl_stop : FuncId := 74
abbrev n_impl_and : FuncId := 75
abbrev n_impl_implies : FuncId := 76
abbrev n_impl_CtxOK : FuncId := 77
abbrev n_impl_checked_1 : FuncId := 78
abbrev n_impl_looker_term : FuncId := 79
abbrev n_impl_FamilyOK : FuncId := 80
abbrev n_impl_familyFault : FuncId := 81
abbrev n_impl_behind : FuncId := 82
abbrev n_impl_same : FuncId := 83
abbrev n_impl_checker_found : FuncId := 84
abbrev n_impl_ReadSig : FuncId := 85
abbrev n_spec_l08Same : FuncId := 86
abbrev n_spec_l08FormCount : FuncId := 87
abbrev n_spec_l08Shape : FuncId := 88
abbrev n_spec_l08Form : FuncId := 89
abbrev n_slices_Max_int_int : FuncId := 90
abbrev n_slices_ContainsFunc_impl_Form_impl_Form : FuncId := 91
abbrev n_impl_badForm : FuncId := 92
abbrev n_impl_looker_proof : FuncId := 93
abbrev n_impl_ruleOf : FuncId := 94
abbrev n_impl_sameForm : FuncId := 95
abbrev n_impl_Proof_size : FuncId := 96
abbrev n_impl_cloneForms : FuncId := 97
abbrev n_impl_Proof_lifted_1 : FuncId := 98
abbrev n_spec_FormOK : FuncId := 99
abbrev n_spec_l08Size : FuncId := 100
abbrev n_spec_l08Move : FuncId := 101
abbrev n_spec_l08Copy : FuncId := 102
abbrev n_impl_variable : FuncId := 103
abbrev n_impl_lam : FuncId := 104
abbrev n_impl_looker_simple : FuncId := 105
abbrev n_impl_KindOK : FuncId := 106
abbrev n_impl_result_1 : FuncId := 107
abbrev n_impl_clone : FuncId := 108
abbrev n_impl_Tree_under : FuncId := 109
abbrev n_impl_work_apply : FuncId := 110
abbrev n_impl_formed : FuncId := 111
abbrev n_impl_lift : FuncId := 112
abbrev n_impl_Tree_each : FuncId := 113
abbrev n_impl_tooBig_1 : FuncId := 114
abbrev n_impl_looker_node : FuncId := 115
abbrev n_impl_in : FuncId := 116
abbrev n_impl_SigOK : FuncId := 117
abbrev n_impl_Tree_bare : FuncId := 118
abbrev n_impl_looker_args : FuncId := 119
abbrev n_impl_NameOK : FuncId := 120
abbrev n_impl_looker_family : FuncId := 121
abbrev n_impl_familyFault_1 : FuncId := 122
abbrev n_impl_checker_family : FuncId := 123
abbrev n_slices_Clip_impl_Tree_impl_Tree : FuncId := 124
abbrev n_impl_checker_args : FuncId := 125
abbrev n_impl_checker_head : FuncId := 126
abbrev n_impl_longText : FuncId := 127
abbrev n_strings_Lines : FuncId := 128
abbrev n_strings_TrimSuffix : FuncId := 129
abbrev n_impl_says : FuncId := 130
abbrev n_impl_ReadSig_1 : FuncId := 131
abbrev n_impl_addLine : FuncId := 132
abbrev n_slices_IndexFunc_impl_Form_impl_Form : FuncId := 133
abbrev n_impl_ruleOf_1 : FuncId := 134
abbrev n_impl_ruleOf_2 : FuncId := 135
abbrev n_impl_ruleOf_3 : FuncId := 136
abbrev n_impl_ruleOf_4 : FuncId := 137
abbrev n_impl_ruleOf_5 : FuncId := 138
abbrev n_impl_ruleOf_6 : FuncId := 139
abbrev n_impl_ruleOf_7 : FuncId := 140
abbrev n_impl_ruleOf_8 : FuncId := 141
abbrev n_impl_ruleOf_9 : FuncId := 142
abbrev n_slices_EqualFunc_impl_Form_impl_Form_impl_Form_impl_Form : FuncId := 143
abbrev n_impl_cloneAll : FuncId := 144
abbrev n_impl_Tree_binds : FuncId := 145
abbrev n_impl_turned : FuncId := 146
abbrev n_impl_lift_1 : FuncId := 147
abbrev n_impl_declForm : FuncId := 148
abbrev n_impl_has : FuncId := 149
abbrev n_impl_declFault : FuncId := 150
abbrev n_impl_wordOK : FuncId := 151
abbrev n_strings_CutPrefix : FuncId := 152
abbrev n_impl_over : FuncId := 153
abbrev n_impl_Size : FuncId := 154
abbrev n_impl_checker_declared : FuncId := 155
abbrev n_impl_checker_left : FuncId := 156
abbrev n_strings_Lines_1 : FuncId := 157
abbrev n_strings_IndexByte : FuncId := 158
abbrev n_internal_stringslite_TrimSuffix : FuncId := 159
abbrev n_impl_blankEnd : FuncId := 160
abbrev n_impl_readDecl : FuncId := 161
abbrev n_impl_addFault : FuncId := 162
abbrev n_slices_ContainsFunc_impl_Decl_impl_Decl : FuncId := 163
abbrev n_impl_has_1 : FuncId := 164
abbrev n_impl_declFault_1 : FuncId := 165
abbrev n_impl_isHead : FuncId := 166
abbrev n_internal_stringslite_CutPrefix : FuncId := 167
abbrev n_strings_Trim : FuncId := 168
abbrev n_slices_IndexFunc_impl_Decl_impl_Decl : FuncId := 169
abbrev n_impl_checker_declared_1 : FuncId := 170
abbrev n_impl_at : FuncId := 171
abbrev n_impl_checker_left_1 : FuncId := 172
abbrev n_impl_erase : FuncId := 173
abbrev n_internal_stringslite_IndexByte : FuncId := 174
abbrev n_internal_stringslite_HasSuffix : FuncId := 175
abbrev n_impl_ParseFamily : FuncId := 176
abbrev n_impl_isKind : FuncId := 177
abbrev n_internal_stringslite_HasPrefix : FuncId := 178
abbrev n_strings_trimLeftByte : FuncId := 179
abbrev n_strings_trimRightByte : FuncId := 180
abbrev n_strings_makeASCIISet : FuncId := 181
abbrev n_strings_trimLeftASCII : FuncId := 182
abbrev n_strings_trimRightASCII : FuncId := 183
abbrev n_strings_trimLeftUnicode : FuncId := 184
abbrev n_strings_trimRightUnicode : FuncId := 185
abbrev n_internal_bytealg_IndexByteString : FuncId := 186
abbrev n_impl_parsed : FuncId := 187
abbrev n_impl_parser_family : FuncId := 188
abbrev n_strings_asciiSet_contains : FuncId := 189
abbrev n_unicode_utf8_DecodeRuneInString : FuncId := 190
abbrev n_strings_ContainsRune : FuncId := 191
abbrev n_unicode_utf8_DecodeLastRuneInString : FuncId := 192
abbrev n_impl_parsed_1 : FuncId := 193
abbrev n_impl_parserOf : FuncId := 194
abbrev n_impl_parser_end : FuncId := 195
abbrev n_impl_parser_next : FuncId := 196
abbrev n_impl_parser_node : FuncId := 197
abbrev n_impl_parser_binder : FuncId := 198
abbrev n_impl_parser_expect : FuncId := 199
abbrev n_impl_parser_due : FuncId := 200
abbrev n_impl_pi : FuncId := 201
abbrev n_impl_parser_under : FuncId := 202
abbrev n_impl_parser_first : FuncId := 203
abbrev n_impl_parser_byte : FuncId := 204
abbrev n_unicode_utf8_decodeRuneInStringSlow : FuncId := 205
abbrev n_strings_IndexRune : FuncId := 206
abbrev n_unicode_utf8_RuneStart : FuncId := 207
abbrev n_impl_binderName : FuncId := 208
abbrev n_impl_parser_end_1 : FuncId := 209
abbrev n_impl_parser_run : FuncId := 210
abbrev n_impl_parser_args : FuncId := 211
abbrev n_unicode_utf8_ValidRune : FuncId := 212
abbrev n_internal_bytealg_Cutover : FuncId := 213
abbrev n_internal_bytealg_IndexString : FuncId := 214
abbrev n_strconv_Itoa : FuncId := 215
abbrev n_impl_parser_term : FuncId := 216
abbrev n_impl_parser_argument : FuncId := 217
abbrev n_internal_strconv_Itoa : FuncId := 218
abbrev n_impl_parser_head : FuncId := 219
abbrev n_internal_strconv_FormatInt : FuncId := 220
abbrev n_impl_parser_hole : FuncId := 221
abbrev n_impl_parser_bound : FuncId := 222
abbrev n_internal_strconv_small : FuncId := 223
abbrev n_internal_strconv_numDigits : FuncId := 224
abbrev n_internal_strconv_formatBase10 : FuncId := 225
abbrev n_internal_strconv_formatBits : FuncId := 226
abbrev n_strconv_Atoi : FuncId := 227
abbrev n_slices_Backward_string_string : FuncId := 228
abbrev n_internal_strconv_log10Pow2 : FuncId := 229
abbrev n_math_bits_Len64 : FuncId := 230
abbrev n_internal_strconv_bool2_int : FuncId := 231
abbrev n_internal_strconv_isPowerOfTwo : FuncId := 232
abbrev n_math_bits_TrailingZeros : FuncId := 233
abbrev n_internal_strconv_Atoi : FuncId := 234
abbrev n_strconv_toError : FuncId := 235
abbrev n_slices_Backward_string_string_1 : FuncId := 236
abbrev n_math_bits_TrailingZeros32 : FuncId := 237
abbrev n_math_bits_TrailingZeros64 : FuncId := 238
abbrev n_internal_strconv_ParseInt : FuncId := 239
abbrev n_strconv_syntaxError : FuncId := 240
abbrev n_strconv_rangeError : FuncId := 241
abbrev n_strconv_baseError : FuncId := 242
abbrev n_strconv_bitSizeError : FuncId := 243
abbrev n_internal_strconv_ParseUint : FuncId := 244
abbrev n_internal_stringslite_Clone : FuncId := 245
abbrev n_errors_New : FuncId := 246
abbrev n_internal_strconv_lower : FuncId := 247
abbrev n_internal_strconv_underscoreOK : FuncId := 248
abbrev n_runtime_boundsError_Error : FuncId := 249
abbrev n_runtime_boundsError_RuntimeError : FuncId := 250
abbrev n_runtime_errorString_Error : FuncId := 251
abbrev n_runtime_errorString_RuntimeError : FuncId := 252
abbrev n_runtime_plainError_Error : FuncId := 253
abbrev n_runtime_plainError_RuntimeError : FuncId := 254
abbrev n_runtime_errorAddressString_Error : FuncId := 255
abbrev n_runtime_errorAddressString_RuntimeError : FuncId := 256
abbrev n_runtime_TypeAssertionError_Error : FuncId := 257
abbrev n_runtime_TypeAssertionError_RuntimeError : FuncId := 258
abbrev n_runtime_PanicNilError_Error : FuncId := 259
abbrev n_runtime_PanicNilError_RuntimeError : FuncId := 260
abbrev n_internal_abi_Type_Align : FuncId := 261
abbrev n_internal_runtime_maps_unhashableTypeError_Error : FuncId := 262
abbrev n_internal_runtime_maps_unhashableTypeError_RuntimeError : FuncId := 263
abbrev n_impl_work_fill : FuncId := 264
abbrev n_internal_strconv_Error_Error : FuncId := 265
abbrev n_strconv_NumError_Error : FuncId := 266
abbrev n_errors_errorString_Error : FuncId := 267
abbrev n_internal_abi_Kind_String : FuncId := 268
abbrev n_var_s_door_gosem_cut_vars_holds_initialisers_alone_see_the_manifest_s_row_cutvarsword_look_11_test_files_too : FuncId := 269
abbrev n_var_s_door_internal_strconv_uint64pow10_is_laid_by_its_own_initialiser_plain_data_look_11 : FuncId := 270
abbrev n_var_s_door_math_bits_deBruijn32tab_is_laid_by_its_own_initialiser_plain_data_look_11 : FuncId := 271
abbrev n_var_s_door_math_bits_deBruijn64tab_is_laid_by_its_own_initialiser_plain_data_look_11 : FuncId := 272
abbrev n_var_s_door_strconv_ErrRange_is_laid_by_its_own_call_of_errors_New_on_one_literal_look_11 : FuncId := 273
abbrev n_var_s_door_strconv_ErrSyntax_is_laid_by_its_own_call_of_errors_New_on_one_literal_look_11 : FuncId := 274
abbrev n_var_s_door_the_look_of_gosem_cut_vars_went_over_the_folder_that_the_caller_named_as_the_repository_s_root_look_11 : FuncId := 275
abbrev n_var_s_door_unicode_utf8_acceptRanges_is_laid_by_its_own_initialiser_plain_data_look_11 : FuncId := 276
abbrev n_var_s_door_unicode_utf8_first_is_laid_by_its_text_alone_pinned_1 : FuncId := 277
abbrev n_gosem_cut_vars : FuncId := 278
end Go.H.Tryz
