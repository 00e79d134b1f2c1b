/- Part of a proof that the program answers as the reference does: ZHB. -/
import Derived.Test.YtmjpemdbkenebaaGreatDoorProg
import Derived.Test.YtmjpemdbkenebaaGreatDoorHD
set_option linter.unusedVariables false
set_option maxRecDepth 100000
namespace Go.H.Tryz
open Go Go.H
noncomputable abbrev prog : Program := Go.Proofs.Tryz.prog
def tab : List (Nat × TD) := [(2, ⟨1, 8, .int .i64, [.int .i64 0]⟩),
 (3, ⟨1, 8, .int .i64, [.int .i64 0]⟩),
 (4, ⟨1, 1, .bool, [.bool false]⟩),
 (5, ⟨1, 1, .int .u8, [.int .u8 0]⟩),
 (9, ⟨1, 16, .string, [.str []]⟩),
 (21, ⟨1, 4, .int .i32, [.int .i32 0]⟩),
 (22, ⟨1, 24, .slice 5, [.sl 0 true []]⟩),
 (23, ⟨1, 24, .slice 28, [.sl 0 true []]⟩),
 (24, ⟨1, 24, .slice 26, [.sl 0 true []]⟩),
 (26, ⟨4, 64, .struct [(0, 3), (1, 3), (2, 23), (3, 24)], [.int .i64 0, .int .i64 0, .sl 0 true [], .sl 0 true []]⟩),
 (28, ⟨3, 40, .struct [(0, 3), (1, 3), (2, 23)], [.int .i64 0, .int .i64 0, .sl 0 true []]⟩),
 (35, ⟨1, 24, .slice 37, [.sl 0 true []]⟩),
 (37, ⟨4, 56, .struct [(0, 3), (1, 3), (2, 9), (3, 35)], [.int .i64 0, .int .i64 0, .str [], .sl 0 true []]⟩),
 (48, ⟨1, 24, .slice 142, [.sl 0 true []]⟩),
 (62, ⟨2, 16, .struct [(0, 3), (1, 3)], [.int .i64 0, .int .i64 0]⟩),
 (78, ⟨1, 8, .pointer, [.nilp]⟩),
 (80, ⟨1, 8, .func, [.nilfn]⟩),
 (83, ⟨3, 40, .struct [(0, 22), (1, 3), (2, 3)], [.sl 0 true [], .int .i64 0, .int .i64 0]⟩),
 (90, ⟨1, 24, .slice 3, [.sl 0 true []]⟩),
 (96, ⟨1, 8, .func, [.nilfn]⟩),
 (97, ⟨1, 8, .func, [.nilfn]⟩),
 (99, ⟨5, 48, .struct [(0, 3), (1, 3), (2, 9), (3, 96), (4, 97)], [.int .i64 0, .int .i64 0, .str [], .nilfn, .nilfn]⟩),
 (113, ⟨1, 8, .struct [(0, 3)], [.int .i64 0]⟩),
 (115, ⟨2, 32, .struct [(0, 113), (1, 48)], [.int .i64 0, .sl 0 true []]⟩),
 (124, ⟨2, 16, .struct [(0, 3), (1, 4)], [.int .i64 0, .bool false]⟩),
 (142, ⟨6, 80, .struct [(0, 9), (1, 4), (2, 37)], [.str [], .bool false, .int .i64 0, .int .i64 0, .str [], .sl 0 true []]⟩),
 (159, ⟨1, 24, .slice 35, [.sl 0 true []]⟩),
 (169, ⟨256, 256, .array 256 4, [.bool false, .bool false, .bool false, .bool false, .bool false, .bool false, .bool false, .bool false, .bool false, .bool false, .bool false, .bool false, .bool false, .bool false, .bool false, .bool false, .bool false, .bool false, .bool false, .bool false, .bool false, .bool false, .bool false, .bool false, .bool false, .bool false, .bool false, .bool false, .bool false, .bool false, .bool false, .bool false, .bool false, .bool false, .bool false, .bool false, .bool false, .bool false, .bool false, .bool false, .bool false, .bool false, .bool false, .bool false, .bool false, .bool false, .bool false, .bool false, .bool false, .bool false, .bool false, .bool false, .bool false, .bool false, .bool false, .bool false, .bool false, .bool false, .bool false, .bool false, .bool false, .bool false, .bool false, .bool false, .bool false, .bool false, .bool false, .bool false, .bool false, .bool false, .bool false, .bool false, .bool false, .bool false, .bool false, .bool false, .bool false, .bool false, .bool false, .bool false, .bool false, .bool false, .bool false, .bool false, .bool false, .bool false, .bool false, .bool false, .bool false, .bool false, .bool false, .bool false, .bool false, .bool false, .bool false, .bool false, .bool false, .bool false, .bool false, .bool false, .bool false, .bool false, .bool false, .bool false, .bool false, .bool false, .bool false, .bool false, .bool false, .bool false, .bool false, .bool false, .bool false, .bool false, .bool false, .bool false, .bool false, .bool false, .bool false, .bool false, .bool false, .bool false, .bool false, .bool false, .bool false, .bool false, .bool false, .bool false, .bool false, .bool false, .bool false, .bool false, .bool false, .bool false, .bool false, .bool false, .bool false, .bool false, .bool false, .bool false, .bool false, .bool false, .bool false, .bool false, .bool false, .bool false, .bool false, .bool false, .bool false, .bool false, .bool false, .bool false, .bool false, .bool false, .bool false, .bool false, .bool false, .bool false, .bool false, .bool false, .bool false, .bool false, .bool false, .bool false, .bool false, .bool false, .bool false, .bool false, .bool false, .bool false, .bool false, .bool false, .bool false, .bool false, .bool false, .bool false, .bool false, .bool false, .bool false, .bool false, .bool false, .bool false, .bool false, .bool false, .bool false, .bool false, .bool false, .bool false, .bool false, .bool false, .bool false, .bool false, .bool false, .bool false, .bool false, .bool false, .bool false, .bool false, .bool false, .bool false, .bool false, .bool false, .bool false, .bool false, .bool false, .bool false, .bool false, .bool false, .bool false, .bool false, .bool false, .bool false, .bool false, .bool false, .bool false, .bool false, .bool false, .bool false, .bool false, .bool false, .bool false, .bool false, .bool false, .bool false, .bool false, .bool false, .bool false, .bool false, .bool false, .bool false, .bool false, .bool false, .bool false, .bool false, .bool false, .bool false, .bool false, .bool false, .bool false, .bool false, .bool false, .bool false, .bool false, .bool false, .bool false, .bool false, .bool false, .bool false, .bool false, .bool false, .bool false, .bool false, .bool false, .bool false, .bool false, .bool false]⟩),
 (177, ⟨1, 8, .func, [.nilfn]⟩),
 (178, ⟨1, 8, .pointer, [.nilp]⟩),
 (184, ⟨1, 24, .slice 9, [.sl 0 true []]⟩),
 (186, ⟨5, 64, .struct [(0, 9), (1, 3), (2, 184), (3, 3), (4, 4)], [.str [], .int .i64 0, .sl 0 true [], .int .i64 0, .bool false]⟩),
 (195, ⟨256, 256, .array 256 5, [.int .u8 0, .int .u8 0, .int .u8 0, .int .u8 0, .int .u8 0, .int .u8 0, .int .u8 0, .int .u8 0, .int .u8 0, .int .u8 0, .int .u8 0, .int .u8 0, .int .u8 0, .int .u8 0, .int .u8 0, .int .u8 0, .int .u8 0, .int .u8 0, .int .u8 0, .int .u8 0, .int .u8 0, .int .u8 0, .int .u8 0, .int .u8 0, .int .u8 0, .int .u8 0, .int .u8 0, .int .u8 0, .int .u8 0, .int .u8 0, .int .u8 0, .int .u8 0, .int .u8 0, .int .u8 0, .int .u8 0, .int .u8 0, .int .u8 0, .int .u8 0, .int .u8 0, .int .u8 0, .int .u8 0, .int .u8 0, .int .u8 0, .int .u8 0, .int .u8 0, .int .u8 0, .int .u8 0, .int .u8 0, .int .u8 0, .int .u8 0, .int .u8 0, .int .u8 0, .int .u8 0, .int .u8 0, .int .u8 0, .int .u8 0, .int .u8 0, .int .u8 0, .int .u8 0, .int .u8 0, .int .u8 0, .int .u8 0, .int .u8 0, .int .u8 0, .int .u8 0, .int .u8 0, .int .u8 0, .int .u8 0, .int .u8 0, .int .u8 0, .int .u8 0, .int .u8 0, .int .u8 0, .int .u8 0, .int .u8 0, .int .u8 0, .int .u8 0, .int .u8 0, .int .u8 0, .int .u8 0, .int .u8 0, .int .u8 0, .int .u8 0, .int .u8 0, .int .u8 0, .int .u8 0, .int .u8 0, .int .u8 0, .int .u8 0, .int .u8 0, .int .u8 0, .int .u8 0, .int .u8 0, .int .u8 0, .int .u8 0, .int .u8 0, .int .u8 0, .int .u8 0, .int .u8 0, .int .u8 0, .int .u8 0, .int .u8 0, .int .u8 0, .int .u8 0, .int .u8 0, .int .u8 0, .int .u8 0, .int .u8 0, .int .u8 0, .int .u8 0, .int .u8 0, .int .u8 0, .int .u8 0, .int .u8 0, .int .u8 0, .int .u8 0, .int .u8 0, .int .u8 0, .int .u8 0, .int .u8 0, .int .u8 0, .int .u8 0, .int .u8 0, .int .u8 0, .int .u8 0, .int .u8 0, .int .u8 0, .int .u8 0, .int .u8 0, .int .u8 0, .int .u8 0, .int .u8 0, .int .u8 0, .int .u8 0, .int .u8 0, .int .u8 0, .int .u8 0, .int .u8 0, .int .u8 0, .int .u8 0, .int .u8 0, .int .u8 0, .int .u8 0, .int .u8 0, .int .u8 0, .int .u8 0, .int .u8 0, .int .u8 0, .int .u8 0, .int .u8 0, .int .u8 0, .int .u8 0, .int .u8 0, .int .u8 0, .int .u8 0, .int .u8 0, .int .u8 0, .int .u8 0, .int .u8 0, .int .u8 0, .int .u8 0, .int .u8 0, .int .u8 0, .int .u8 0, .int .u8 0, .int .u8 0, .int .u8 0, .int .u8 0, .int .u8 0, .int .u8 0, .int .u8 0, .int .u8 0, .int .u8 0, .int .u8 0, .int .u8 0, .int .u8 0, .int .u8 0, .int .u8 0, .int .u8 0, .int .u8 0, .int .u8 0, .int .u8 0, .int .u8 0, .int .u8 0, .int .u8 0, .int .u8 0, .int .u8 0, .int .u8 0, .int .u8 0, .int .u8 0, .int .u8 0, .int .u8 0, .int .u8 0, .int .u8 0, .int .u8 0, .int .u8 0, .int .u8 0, .int .u8 0, .int .u8 0, .int .u8 0, .int .u8 0, .int .u8 0, .int .u8 0, .int .u8 0, .int .u8 0, .int .u8 0, .int .u8 0, .int .u8 0, .int .u8 0, .int .u8 0, .int .u8 0, .int .u8 0, .int .u8 0, .int .u8 0, .int .u8 0, .int .u8 0, .int .u8 0, .int .u8 0, .int .u8 0, .int .u8 0, .int .u8 0, .int .u8 0, .int .u8 0, .int .u8 0, .int .u8 0, .int .u8 0, .int .u8 0, .int .u8 0, .int .u8 0, .int .u8 0, .int .u8 0, .int .u8 0, .int .u8 0, .int .u8 0, .int .u8 0, .int .u8 0, .int .u8 0, .int .u8 0, .int .u8 0, .int .u8 0, .int .u8 0, .int .u8 0, .int .u8 0, .int .u8 0, .int .u8 0, .int .u8 0, .int .u8 0, .int .u8 0, .int .u8 0, .int .u8 0, .int .u8 0, .int .u8 0, .int .u8 0, .int .u8 0, .int .u8 0, .int .u8 0]⟩),
 (196, ⟨1, 8, .int .u64, [.int .u64 0]⟩),
 (204, ⟨24, 24, .array 24 5, [.int .u8 0, .int .u8 0, .int .u8 0, .int .u8 0, .int .u8 0, .int .u8 0, .int .u8 0, .int .u8 0, .int .u8 0, .int .u8 0, .int .u8 0, .int .u8 0, .int .u8 0, .int .u8 0, .int .u8 0, .int .u8 0, .int .u8 0, .int .u8 0, .int .u8 0, .int .u8 0, .int .u8 0, .int .u8 0, .int .u8 0, .int .u8 0]⟩),
 (205, ⟨1, 8, .int .u64, [.int .u64 0]⟩),
 (211, ⟨1, 16, .iface, [.niliface]⟩),
 (218, ⟨20, 160, .array 20 205, [.int .u64 0, .int .u64 0, .int .u64 0, .int .u64 0, .int .u64 0, .int .u64 0, .int .u64 0, .int .u64 0, .int .u64 0, .int .u64 0, .int .u64 0, .int .u64 0, .int .u64 0, .int .u64 0, .int .u64 0, .int .u64 0, .int .u64 0, .int .u64 0, .int .u64 0, .int .u64 0]⟩),
 (219, ⟨1, 4, .int .u32, [.int .u32 0]⟩),
 (220, ⟨65, 65, .array 65 5, [.int .u8 0, .int .u8 0, .int .u8 0, .int .u8 0, .int .u8 0, .int .u8 0, .int .u8 0, .int .u8 0, .int .u8 0, .int .u8 0, .int .u8 0, .int .u8 0, .int .u8 0, .int .u8 0, .int .u8 0, .int .u8 0, .int .u8 0, .int .u8 0, .int .u8 0, .int .u8 0, .int .u8 0, .int .u8 0, .int .u8 0, .int .u8 0, .int .u8 0, .int .u8 0, .int .u8 0, .int .u8 0, .int .u8 0, .int .u8 0, .int .u8 0, .int .u8 0, .int .u8 0, .int .u8 0, .int .u8 0, .int .u8 0, .int .u8 0, .int .u8 0, .int .u8 0, .int .u8 0, .int .u8 0, .int .u8 0, .int .u8 0, .int .u8 0, .int .u8 0, .int .u8 0, .int .u8 0, .int .u8 0, .int .u8 0, .int .u8 0, .int .u8 0, .int .u8 0, .int .u8 0, .int .u8 0, .int .u8 0, .int .u8 0, .int .u8 0, .int .u8 0, .int .u8 0, .int .u8 0, .int .u8 0, .int .u8 0, .int .u8 0, .int .u8 0, .int .u8 0]⟩),
 (225, ⟨1, 8, .int .i64, [.int .i64 0]⟩),
 (231, ⟨32, 32, .array 32 5, [.int .u8 0, .int .u8 0, .int .u8 0, .int .u8 0, .int .u8 0, .int .u8 0, .int .u8 0, .int .u8 0, .int .u8 0, .int .u8 0, .int .u8 0, .int .u8 0, .int .u8 0, .int .u8 0, .int .u8 0, .int .u8 0, .int .u8 0, .int .u8 0, .int .u8 0, .int .u8 0, .int .u8 0, .int .u8 0, .int .u8 0, .int .u8 0, .int .u8 0, .int .u8 0, .int .u8 0, .int .u8 0, .int .u8 0, .int .u8 0, .int .u8 0, .int .u8 0]⟩),
 (232, ⟨64, 64, .array 64 5, [.int .u8 0, .int .u8 0, .int .u8 0, .int .u8 0, .int .u8 0, .int .u8 0, .int .u8 0, .int .u8 0, .int .u8 0, .int .u8 0, .int .u8 0, .int .u8 0, .int .u8 0, .int .u8 0, .int .u8 0, .int .u8 0, .int .u8 0, .int .u8 0, .int .u8 0, .int .u8 0, .int .u8 0, .int .u8 0, .int .u8 0, .int .u8 0, .int .u8 0, .int .u8 0, .int .u8 0, .int .u8 0, .int .u8 0, .int .u8 0, .int .u8 0, .int .u8 0, .int .u8 0, .int .u8 0, .int .u8 0, .int .u8 0, .int .u8 0, .int .u8 0, .int .u8 0, .int .u8 0, .int .u8 0, .int .u8 0, .int .u8 0, .int .u8 0, .int .u8 0, .int .u8 0, .int .u8 0, .int .u8 0, .int .u8 0, .int .u8 0, .int .u8 0, .int .u8 0, .int .u8 0, .int .u8 0, .int .u8 0, .int .u8 0, .int .u8 0, .int .u8 0, .int .u8 0, .int .u8 0, .int .u8 0, .int .u8 0, .int .u8 0, .int .u8 0]⟩),
 (236, ⟨3, 48, .struct [(0, 9), (1, 9), (2, 211)], [.str [], .str [], .niliface]⟩),
 (240, ⟨1, 8, .pointer, [.nilp]⟩),
 (242, ⟨1, 16, .struct [(0, 9)], [.str []]⟩)]
abbrev TT : TypeId → Option TD := tyTab tab
theorem tyOK : TyOK prog TT := tyTab_ok (by kernel_rfl)
theorem mixed : prog.follows .mixedOrders = true := by kernel_rfl
abbrev ty_string : TypeId := 9
abbrev ty_impl_halt : TypeId := 62
abbrev ty_strconv_Error : TypeId := 225
abbrev ty_errors_errorString : TypeId := 240
abbrev n_main_main : FuncId := 0
abbrev n_gosem_cut : FuncId := 1
abbrev n_gosem_cut_init : FuncId := 2
abbrev n_laws_FnProofs : FuncId := 3
abbrev n_spec_ProofOf : FuncId := 4
abbrev n_spec_ProofOK : FuncId := 5
abbrev n_impl_Proves : FuncId := 6
abbrev n_laws_sameForm : FuncId := 7
abbrev n_impl_EncodeProof : FuncId := 8
abbrev n_impl_EncodeHyps : FuncId := 9
abbrev n_impl_Judgement : FuncId := 10
abbrev n_laws_full : FuncId := 11
abbrev n_impl_DecodeProof : FuncId := 12
abbrev n_impl_CheckTerm : FuncId := 13
abbrev n_impl_LogicSig : FuncId := 14
abbrev n_laws_sameProof : FuncId := 15
abbrev n_spec_l00Source : FuncId := 16
abbrev n_spec_l00Src_hyps : FuncId := 17
abbrev n_spec_l00Src_proof : FuncId := 18
abbrev n_spec_l00Src_next : FuncId := 19
abbrev n_spec_l08Count : FuncId := 20
abbrev n_spec_l08Proof : FuncId := 21
abbrev n_impl_longLists : FuncId := 22
abbrev n_impl_hypsOK : FuncId := 23
abbrev n_impl_ProofOK : FuncId := 24
abbrev n_impl_caught : FuncId := 25
abbrev n_impl_Proves_1 : FuncId := 26
abbrev n_impl_proves : FuncId := 27
abbrev n_impl_cloneForm : FuncId := 28
abbrev n_impl_encoded : FuncId := 29
abbrev n_impl_EncodeProof_1 : FuncId := 30
abbrev n_impl_proofTerm : FuncId := 31
abbrev n_impl_judgement : FuncId := 32
abbrev n_slices_ContainsFunc_impl_Tree_impl_Tree : FuncId := 33
abbrev n_impl_tooBig : FuncId := 34
abbrev n_impl_FormOK : FuncId := 35
abbrev n_impl_Judgement_1 : FuncId := 36
abbrev n_impl_badTerm : FuncId := 37
abbrev n_impl_in : FuncId := 38
abbrev n_impl_DecodeProof_1 : FuncId := 39
abbrev n_impl_readProof : FuncId := 40
abbrev n_impl_checked : FuncId := 41
abbrev n_impl_CheckTerm_1 : FuncId := 42
abbrev n_impl_TermOK : FuncId := 43
abbrev n_impl_due : FuncId := 44
abbrev n_impl_CheckTerm_2 : FuncId := 45
abbrev n_impl_checker_term : FuncId := 46
abbrev n_impl_builtIn : FuncId := 47
abbrev n_spec_l00Src_form : FuncId := 48
abbrev n_spec_l08Two : FuncId := 49
abbrev n_spec_l08Same : FuncId := 50
abbrev n_spec_l08More : FuncId := 51
abbrev n_spec_l00Src_byte : FuncId := 52
abbrev n_spec_l08FormCount : FuncId := 53
abbrev n_spec_l08Shape : FuncId := 54
abbrev n_spec_l08Form : FuncId := 55
abbrev n_slices_Max_int_int : FuncId := 56
abbrev n_slices_ContainsFunc_impl_Form_impl_Form : FuncId := 57
abbrev n_impl_badForm : FuncId := 58
abbrev n_impl_fresh : FuncId := 59
abbrev n_impl_looker_proof : FuncId := 60
abbrev n_impl_caught_1 : FuncId := 61
abbrev n_impl_stop : FuncId := 62
abbrev n_impl_ruleOf : FuncId := 63
abbrev n_slices_Clip_impl_Form_impl_Form : FuncId := 64
abbrev n_impl_sameForm : FuncId := 65
abbrev n_impl_Proof_size : FuncId := 66
abbrev n_impl_cloneForms : FuncId := 67
abbrev n_impl_variable : FuncId := 68
abbrev n_impl_constant : FuncId := 69
abbrev n_impl_formTerm : FuncId := 70
abbrev n_impl_lam : FuncId := 71
abbrev n_slices_IndexFunc_impl_Tree_impl_Tree : FuncId := 72
abbrev n_impl_Tree_each : FuncId := 73
abbrev n_impl_tooBig_1 : FuncId := 74
abbrev n_impl_looker_form : FuncId := 75
abbrev n_impl_readForm : FuncId := 76
abbrev n_impl_readKid : FuncId := 77
abbrev n_impl_CtxOK : FuncId := 78
abbrev n_impl_checked_1 : FuncId := 79
abbrev n_impl_looker_term : FuncId := 80
abbrev n_impl_FamilyOK : FuncId := 81
abbrev n_impl_familyFault : FuncId := 82
abbrev n_impl_behind : FuncId := 83
abbrev n_impl_same : FuncId := 84
abbrev n_impl_checker_found : FuncId := 85
abbrev n_impl_ReadSig : FuncId := 86
abbrev n_spec_l00Src_chance : FuncId := 87
abbrev n_slices_IndexFunc_impl_Form_impl_Form : FuncId := 88
abbrev n_impl_looker_node : FuncId := 89
abbrev n_impl_ruleOf_1 : FuncId := 90
abbrev n_impl_and : FuncId := 91
abbrev n_impl_ruleOf_2 : FuncId := 92
abbrev n_impl_ruleOf_3 : FuncId := 93
abbrev n_impl_ruleOf_4 : FuncId := 94
abbrev n_impl_ruleOf_5 : FuncId := 95
abbrev n_impl_ruleOf_6 : FuncId := 96
abbrev n_impl_ruleOf_7 : FuncId := 97
abbrev n_impl_implies : FuncId := 98
abbrev n_impl_ruleOf_8 : FuncId := 99
abbrev n_impl_ruleOf_9 : FuncId := 100
abbrev n_impl_bottom : FuncId := 101
abbrev n_slices_EqualFunc_impl_Form_impl_Form_impl_Form_impl_Form : FuncId := 102
abbrev n_impl_Tree_under : FuncId := 103
abbrev n_impl_SigOK : FuncId := 104
abbrev n_impl_Tree_bare : FuncId := 105
abbrev n_impl_looker_args : FuncId := 106
abbrev n_impl_NameOK : FuncId := 107
abbrev n_impl_looker_family : FuncId := 108
abbrev n_impl_familyFault_1 : FuncId := 109
abbrev n_impl_checker_family : FuncId := 110
abbrev n_slices_Clip_impl_Tree_impl_Tree : FuncId := 111
abbrev n_impl_checker_args : FuncId := 112
abbrev n_impl_checker_head : FuncId := 113
abbrev n_impl_longText : FuncId := 114
abbrev n_strings_Lines : FuncId := 115
abbrev n_strings_TrimSuffix : FuncId := 116
abbrev n_impl_says : FuncId := 117
abbrev n_impl_ReadSig_1 : FuncId := 118
abbrev n_impl_addLine : FuncId := 119
abbrev n_impl_Tree_binds : FuncId := 120
abbrev n_impl_declForm : FuncId := 121
abbrev n_impl_has : FuncId := 122
abbrev n_impl_declFault : FuncId := 123
abbrev n_impl_wordOK : FuncId := 124
abbrev n_strings_CutPrefix : FuncId := 125
abbrev n_impl_over : FuncId := 126
abbrev n_impl_Size : FuncId := 127
abbrev n_impl_checker_declared : FuncId := 128
abbrev n_impl_checker_left : FuncId := 129
abbrev n_impl_lift : FuncId := 130
abbrev n_strings_Lines_1 : FuncId := 131
abbrev n_strings_IndexByte : FuncId := 132
abbrev n_internal_stringslite_TrimSuffix : FuncId := 133
abbrev n_impl_blankEnd : FuncId := 134
abbrev n_impl_readDecl : FuncId := 135
abbrev n_impl_addFault : FuncId := 136
abbrev n_impl_KindOK : FuncId := 137
abbrev n_slices_ContainsFunc_impl_Decl_impl_Decl : FuncId := 138
abbrev n_impl_has_1 : FuncId := 139
abbrev n_impl_declFault_1 : FuncId := 140
abbrev n_impl_isHead : FuncId := 141
abbrev n_internal_stringslite_CutPrefix : FuncId := 142
abbrev n_strings_Trim : FuncId := 143
abbrev n_slices_IndexFunc_impl_Decl_impl_Decl : FuncId := 144
abbrev n_impl_checker_declared_1 : FuncId := 145
abbrev n_impl_at : FuncId := 146
abbrev n_impl_checker_left_1 : FuncId := 147
abbrev n_impl_work_put : FuncId := 148
abbrev n_impl_erase : FuncId := 149
abbrev n_impl_turned : FuncId := 150
abbrev n_impl_lift_1 : FuncId := 151
abbrev n_internal_stringslite_IndexByte : FuncId := 152
abbrev n_internal_stringslite_HasSuffix : FuncId := 153
abbrev n_impl_ParseFamily : FuncId := 154
abbrev n_impl_isKind : FuncId := 155
abbrev n_internal_stringslite_HasPrefix : FuncId := 156
abbrev n_strings_trimLeftByte : FuncId := 157
abbrev n_strings_trimRightByte : FuncId := 158
abbrev n_strings_makeASCIISet : FuncId := 159
abbrev n_strings_trimLeftASCII : FuncId := 160
abbrev n_strings_trimRightASCII : FuncId := 161
abbrev n_strings_trimLeftUnicode : FuncId := 162
abbrev n_strings_trimRightUnicode : FuncId := 163
abbrev n_impl_work_apply : FuncId := 164
abbrev n_impl_formed : FuncId := 165
abbrev n_internal_bytealg_IndexByteString : FuncId := 166
abbrev n_impl_parsed : FuncId := 167
abbrev n_impl_parser_family : FuncId := 168
abbrev n_strings_asciiSet_contains : FuncId := 169
abbrev n_unicode_utf8_DecodeRuneInString : FuncId := 170
abbrev n_strings_ContainsRune : FuncId := 171
abbrev n_unicode_utf8_DecodeLastRuneInString : FuncId := 172
abbrev n_impl_parsed_1 : FuncId := 173
abbrev n_impl_parserOf : FuncId := 174
abbrev n_impl_parser_end : FuncId := 175
abbrev n_impl_clone : FuncId := 176
abbrev n_impl_parser_next : FuncId := 177
abbrev n_impl_parser_node : FuncId := 178
abbrev n_impl_parser_binder : FuncId := 179
abbrev n_impl_parser_expect : FuncId := 180
abbrev n_impl_parser_due : FuncId := 181
abbrev n_impl_pi : FuncId := 182
abbrev n_impl_parser_under : FuncId := 183
abbrev n_impl_parser_first : FuncId := 184
abbrev n_impl_parser_byte : FuncId := 185
abbrev n_unicode_utf8_decodeRuneInStringSlow : FuncId := 186
abbrev n_strings_IndexRune : FuncId := 187
abbrev n_unicode_utf8_RuneStart : FuncId := 188
abbrev n_impl_binderName : FuncId := 189
abbrev n_impl_parser_end_1 : FuncId := 190
abbrev n_impl_cloneAll : FuncId := 191
abbrev n_impl_parser_run : FuncId := 192
abbrev n_impl_parser_args : FuncId := 193
abbrev n_unicode_utf8_ValidRune : FuncId := 194
abbrev n_internal_bytealg_Cutover : FuncId := 195
abbrev n_internal_bytealg_IndexString : FuncId := 196
abbrev n_strconv_Itoa : FuncId := 197
abbrev n_impl_parser_term : FuncId := 198
abbrev n_impl_parser_argument : FuncId := 199
abbrev n_internal_strconv_Itoa : FuncId := 200
abbrev n_impl_parser_head : FuncId := 201
abbrev n_internal_strconv_FormatInt : FuncId := 202
abbrev n_impl_parser_hole : FuncId := 203
abbrev n_impl_parser_bound : FuncId := 204
abbrev n_internal_strconv_small : FuncId := 205
abbrev n_internal_strconv_numDigits : FuncId := 206
abbrev n_internal_strconv_formatBase10 : FuncId := 207
abbrev n_internal_strconv_formatBits : FuncId := 208
abbrev n_strconv_Atoi : FuncId := 209
abbrev n_slices_Backward_string_string : FuncId := 210
abbrev n_internal_strconv_log10Pow2 : FuncId := 211
abbrev n_math_bits_Len64 : FuncId := 212
abbrev n_internal_strconv_bool2_int : FuncId := 213
abbrev n_internal_strconv_isPowerOfTwo : FuncId := 214
abbrev n_math_bits_TrailingZeros : FuncId := 215
abbrev n_internal_strconv_Atoi : FuncId := 216
abbrev n_strconv_toError : FuncId := 217
abbrev n_slices_Backward_string_string_1 : FuncId := 218
abbrev n_math_bits_TrailingZeros32 : FuncId := 219
abbrev n_math_bits_TrailingZeros64 : FuncId := 220
abbrev n_internal_strconv_ParseInt : FuncId := 221
abbrev n_strconv_syntaxError : FuncId := 222
abbrev n_strconv_rangeError : FuncId := 223
abbrev n_strconv_baseError : FuncId := 224
abbrev n_strconv_bitSizeError : FuncId := 225
abbrev n_internal_strconv_ParseUint : FuncId := 226
abbrev n_internal_stringslite_Clone : FuncId := 227
abbrev n_errors_New : FuncId := 228
abbrev n_internal_strconv_lower : FuncId := 229
abbrev n_internal_strconv_underscoreOK : FuncId := 230
abbrev n_runtime_boundsError_Error : FuncId := 231
abbrev n_runtime_boundsError_RuntimeError : FuncId := 232
abbrev n_runtime_errorString_Error : FuncId := 233
abbrev n_runtime_errorString_RuntimeError : FuncId := 234
abbrev n_runtime_plainError_Error : FuncId := 235
abbrev n_runtime_plainError_RuntimeError : FuncId := 236
abbrev n_runtime_errorAddressString_Error : FuncId := 237
abbrev n_runtime_errorAddressString_RuntimeError : FuncId := 238
abbrev n_runtime_TypeAssertionError_Error : FuncId := 239
abbrev n_runtime_TypeAssertionError_RuntimeError : FuncId := 240
abbrev n_runtime_PanicNilError_Error : FuncId := 241
abbrev n_runtime_PanicNilError_RuntimeError : FuncId := 242
abbrev n_internal_abi_Type_Align : FuncId := 243
abbrev n_internal_runtime_maps_unhashableTypeError_Error : FuncId := 244
abbrev n_internal_runtime_maps_unhashableTypeError_RuntimeError : FuncId := 245
abbrev n_impl_Proof_lifted : FuncId := 246
abbrev n_impl_work_fill : FuncId := 247
abbrev n_internal_strconv_Error_Error : FuncId := 248
abbrev n_strconv_NumError_Error : FuncId := 249
abbrev n_errors_errorString_Error : FuncId := 250
abbrev n_internal_abi_Kind_String : FuncId := 251
abbrev n_var_s_door_gosem_cut_vars_holds_initialisers_alone_see_the_manifest_s_row_cutvarsword_look_11_test_files_too : FuncId := 252
abbrev n_var_s_door_internal_strconv_uint64pow10_is_laid_by_its_own_initialiser_plain_data_look_11 : FuncId := 253
abbrev n_var_s_door_math_bits_deBruijn32tab_is_laid_by_its_own_initialiser_plain_data_look_11 : FuncId := 254
abbrev n_var_s_door_math_bits_deBruijn64tab_is_laid_by_its_own_initialiser_plain_data_look_11 : FuncId := 255
abbrev n_var_s_door_strconv_ErrRange_is_laid_by_its_own_call_of_errors_New_on_one_literal_look_11 : FuncId := 256
abbrev n_var_s_door_strconv_ErrSyntax_is_laid_by_its_own_call_of_errors_New_on_one_literal_look_11 : FuncId := 257
abbrev n_var_s_door_the_look_of_gosem_cut_vars_went_over_the_folder_that_the_caller_named_as_the_repository_s_root_look_11 : FuncId := 258
abbrev n_var_s_door_unicode_utf8_acceptRanges_is_laid_by_its_own_initialiser_plain_data_look_11 : FuncId := 259
abbrev n_var_s_door_unicode_utf8_first_is_laid_by_its_text_alone_pinned_1 : FuncId := 260
abbrev n_gosem_cut_vars : FuncId := 261
theorem hcc {g : FuncId} {fn : Func} {ann : List (Nat × List Nat)} {ag : List PV} {st : St} {R : Res → St → Prop} {B : Prop} (h1 : prog.funcs[g]? = some fn) (h2 : fn.body.isSome = true) (h3 : (fn.name == "runtime.NumGoroutine") = false) (he : hFunc prog TT ann fn ag st R = B) (h : B) : zq5 prog g ag st R :=
 zqlv tyOK mixed h1 h2 h3 (ann := ann) (he.symm ▸ h)
end Go.H.Tryz
