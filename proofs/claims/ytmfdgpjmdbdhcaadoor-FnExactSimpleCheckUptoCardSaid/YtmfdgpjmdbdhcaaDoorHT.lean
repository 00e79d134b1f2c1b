/- Part of a proof that the program answers as the reference does: DB. -/
import Derived.Test.YtmfdgpjmdbdhcaaDoorProg
import Derived.Test.YtmfdgpjmdbdhcaaDoorHD
/- MADE BY PROGRAM (hgen.py): types and names. -/
set_option linter.unusedVariables false
set_option maxRecDepth 100000
namespace Go.H.Tryd
open Go Go.H
noncomputable abbrev prog : Program := Go.Proofs.Tryd.prog
def tab : List (Nat × TD) := [(3, ⟨1, 8, .int .i64, [.int .i64 0]⟩),
 (4, ⟨1, 1, .bool, [.bool false]⟩),
 (5, ⟨1, 1, .int .u8, [.int .u8 0]⟩),
 (9, ⟨1, 16, .string, [.str []]⟩),
 (21, ⟨1, 4, .int .i32, [.int .i32 0]⟩),
 (22, ⟨1, 24, .slice 45, [.sl 0 true []]⟩),
 (23, ⟨1, 24, .slice 25, [.sl 0 true []]⟩),
 (25, ⟨4, 56, .struct [(0, 3), (1, 3), (2, 9), (3, 23)], [.int .i64 0, .int .i64 0, .str [], .sl 0 true []]⟩),
 (30, ⟨1, 24, .slice 50, [.sl 0 true []]⟩),
 (32, ⟨1, 24, .slice 35, [.sl 0 true []]⟩),
 (35, ⟨4, 56, .struct [(0, 3), (1, 3), (2, 9), (3, 32)], [.int .i64 0, .int .i64 0, .str [], .sl 0 true []]⟩),
 (45, ⟨5, 72, .struct [(0, 9), (1, 25)], [.str [], .int .i64 0, .int .i64 0, .str [], .sl 0 true []]⟩),
 (50, ⟨5, 72, .struct [(0, 9), (1, 35)], [.str [], .int .i64 0, .int .i64 0, .str [], .sl 0 true []]⟩),
 (53, ⟨1, 8, .pointer, [.nilp]⟩),
 (55, ⟨2, 48, .struct [(0, 30), (1, 32)], [.sl 0 true [], .sl 0 true []]⟩),
 (57, ⟨2, 16, .struct [(0, 3), (1, 3)], [.int .i64 0, .int .i64 0]⟩),
 (65, ⟨1, 24, .slice 3, [.sl 0 true []]⟩),
 (67, ⟨1, 8, .map 9 4, [.nilmap]⟩),
 (92, ⟨2, 16, .struct [(0, 3), (1, 4)], [.int .i64 0, .bool false]⟩),
 (110, ⟨256, 256, .array 256 4, [.bool false, .bool false, .bool false, .bool false, .bool false, .bool false, .bool false, .bool false, .bool false, .bool false, .bool false, .bool false, .bool false, .bool false, .bool false, .bool false, .bool false, .bool false, .bool false, .bool false, .bool false, .bool false, .bool false, .bool false, .bool false, .bool false, .bool false, .bool false, .bool false, .bool false, .bool false, .bool false, .bool false, .bool false, .bool false, .bool false, .bool false, .bool false, .bool false, .bool false, .bool false, .bool false, .bool false, .bool false, .bool false, .bool false, .bool false, .bool false, .bool false, .bool false, .bool false, .bool false, .bool false, .bool false, .bool false, .bool false, .bool false, .bool false, .bool false, .bool false, .bool false, .bool false, .bool false, .bool false, .bool false, .bool false, .bool false, .bool false, .bool false, .bool false, .bool false, .bool false, .bool false, .bool false, .bool false, .bool false, .bool false, .bool false, .bool false, .bool false, .bool false, .bool false, .bool false, .bool false, .bool false, .bool false, .bool false, .bool false, .bool false, .bool false, .bool false, .bool false, .bool false, .bool false, .bool false, .bool false, .bool false, .bool false, .bool false, .bool false, .bool false, .bool false, .bool false, .bool false, .bool false, .bool false, .bool false, .bool false, .bool false, .bool false, .bool false, .bool false, .bool false, .bool false, .bool false, .bool false, .bool false, .bool false, .bool false, .bool false, .bool false, .bool false, .bool false, .bool false, .bool false, .bool false, .bool false, .bool false, .bool false, .bool false, .bool false, .bool false, .bool false, .bool false, .bool false, .bool false, .bool false, .bool false, .bool false, .bool false, .bool false, .bool false, .bool false, .bool false, .bool false, .bool false, .bool false, .bool false, .bool false, .bool false, .bool false, .bool false, .bool false, .bool false, .bool false, .bool false, .bool false, .bool false, .bool false, .bool false, .bool false, .bool false, .bool false, .bool false, .bool false, .bool false, .bool false, .bool false, .bool false, .bool false, .bool false, .bool false, .bool false, .bool false, .bool false, .bool false, .bool false, .bool false, .bool false, .bool false, .bool false, .bool false, .bool false, .bool false, .bool false, .bool false, .bool false, .bool false, .bool false, .bool false, .bool false, .bool false, .bool false, .bool false, .bool false, .bool false, .bool false, .bool false, .bool false, .bool false, .bool false, .bool false, .bool false, .bool false, .bool false, .bool false, .bool false, .bool false, .bool false, .bool false, .bool false, .bool false, .bool false, .bool false, .bool false, .bool false, .bool false, .bool false, .bool false, .bool false, .bool false, .bool false, .bool false, .bool false, .bool false, .bool false, .bool false, .bool false, .bool false, .bool false, .bool false, .bool false, .bool false, .bool false, .bool false, .bool false, .bool false, .bool false, .bool false, .bool false, .bool false, .bool false, .bool false, .bool false, .bool false, .bool false, .bool false, .bool false, .bool false, .bool false, .bool false, .bool false, .bool false, .bool false, .bool false, .bool false]⟩),
 (125, ⟨256, 256, .array 256 5, [.int .u8 0, .int .u8 0, .int .u8 0, .int .u8 0, .int .u8 0, .int .u8 0, .int .u8 0, .int .u8 0, .int .u8 0, .int .u8 0, .int .u8 0, .int .u8 0, .int .u8 0, .int .u8 0, .int .u8 0, .int .u8 0, .int .u8 0, .int .u8 0, .int .u8 0, .int .u8 0, .int .u8 0, .int .u8 0, .int .u8 0, .int .u8 0, .int .u8 0, .int .u8 0, .int .u8 0, .int .u8 0, .int .u8 0, .int .u8 0, .int .u8 0, .int .u8 0, .int .u8 0, .int .u8 0, .int .u8 0, .int .u8 0, .int .u8 0, .int .u8 0, .int .u8 0, .int .u8 0, .int .u8 0, .int .u8 0, .int .u8 0, .int .u8 0, .int .u8 0, .int .u8 0, .int .u8 0, .int .u8 0, .int .u8 0, .int .u8 0, .int .u8 0, .int .u8 0, .int .u8 0, .int .u8 0, .int .u8 0, .int .u8 0, .int .u8 0, .int .u8 0, .int .u8 0, .int .u8 0, .int .u8 0, .int .u8 0, .int .u8 0, .int .u8 0, .int .u8 0, .int .u8 0, .int .u8 0, .int .u8 0, .int .u8 0, .int .u8 0, .int .u8 0, .int .u8 0, .int .u8 0, .int .u8 0, .int .u8 0, .int .u8 0, .int .u8 0, .int .u8 0, .int .u8 0, .int .u8 0, .int .u8 0, .int .u8 0, .int .u8 0, .int .u8 0, .int .u8 0, .int .u8 0, .int .u8 0, .int .u8 0, .int .u8 0, .int .u8 0, .int .u8 0, .int .u8 0, .int .u8 0, .int .u8 0, .int .u8 0, .int .u8 0, .int .u8 0, .int .u8 0, .int .u8 0, .int .u8 0, .int .u8 0, .int .u8 0, .int .u8 0, .int .u8 0, .int .u8 0, .int .u8 0, .int .u8 0, .int .u8 0, .int .u8 0, .int .u8 0, .int .u8 0, .int .u8 0, .int .u8 0, .int .u8 0, .int .u8 0, .int .u8 0, .int .u8 0, .int .u8 0, .int .u8 0, .int .u8 0, .int .u8 0, .int .u8 0, .int .u8 0, .int .u8 0, .int .u8 0, .int .u8 0, .int .u8 0, .int .u8 0, .int .u8 0, .int .u8 0, .int .u8 0, .int .u8 0, .int .u8 0, .int .u8 0, .int .u8 0, .int .u8 0, .int .u8 0, .int .u8 0, .int .u8 0, .int .u8 0, .int .u8 0, .int .u8 0, .int .u8 0, .int .u8 0, .int .u8 0, .int .u8 0, .int .u8 0, .int .u8 0, .int .u8 0, .int .u8 0, .int .u8 0, .int .u8 0, .int .u8 0, .int .u8 0, .int .u8 0, .int .u8 0, .int .u8 0, .int .u8 0, .int .u8 0, .int .u8 0, .int .u8 0, .int .u8 0, .int .u8 0, .int .u8 0, .int .u8 0, .int .u8 0, .int .u8 0, .int .u8 0, .int .u8 0, .int .u8 0, .int .u8 0, .int .u8 0, .int .u8 0, .int .u8 0, .int .u8 0, .int .u8 0, .int .u8 0, .int .u8 0, .int .u8 0, .int .u8 0, .int .u8 0, .int .u8 0, .int .u8 0, .int .u8 0, .int .u8 0, .int .u8 0, .int .u8 0, .int .u8 0, .int .u8 0, .int .u8 0, .int .u8 0, .int .u8 0, .int .u8 0, .int .u8 0, .int .u8 0, .int .u8 0, .int .u8 0, .int .u8 0, .int .u8 0, .int .u8 0, .int .u8 0, .int .u8 0, .int .u8 0, .int .u8 0, .int .u8 0, .int .u8 0, .int .u8 0, .int .u8 0, .int .u8 0, .int .u8 0, .int .u8 0, .int .u8 0, .int .u8 0, .int .u8 0, .int .u8 0, .int .u8 0, .int .u8 0, .int .u8 0, .int .u8 0, .int .u8 0, .int .u8 0, .int .u8 0, .int .u8 0, .int .u8 0, .int .u8 0, .int .u8 0, .int .u8 0, .int .u8 0, .int .u8 0, .int .u8 0, .int .u8 0, .int .u8 0, .int .u8 0, .int .u8 0, .int .u8 0, .int .u8 0, .int .u8 0, .int .u8 0, .int .u8 0, .int .u8 0, .int .u8 0, .int .u8 0, .int .u8 0, .int .u8 0, .int .u8 0, .int .u8 0, .int .u8 0, .int .u8 0, .int .u8 0, .int .u8 0, .int .u8 0, .int .u8 0, .int .u8 0, .int .u8 0, .int .u8 0, .int .u8 0]⟩),
 (128, ⟨2, 2, .struct [(0, 5), (1, 5)], [.int .u8 0, .int .u8 0]⟩),
 (129, ⟨32, 32, .array 16 128, [.int .u8 0, .int .u8 0, .int .u8 0, .int .u8 0, .int .u8 0, .int .u8 0, .int .u8 0, .int .u8 0, .int .u8 0, .int .u8 0, .int .u8 0, .int .u8 0, .int .u8 0, .int .u8 0, .int .u8 0, .int .u8 0, .int .u8 0, .int .u8 0, .int .u8 0, .int .u8 0, .int .u8 0, .int .u8 0, .int .u8 0, .int .u8 0, .int .u8 0, .int .u8 0, .int .u8 0, .int .u8 0, .int .u8 0, .int .u8 0, .int .u8 0, .int .u8 0]⟩)]
abbrev TT : TypeId → Option TD := tyTab tab
theorem tyOK : TyOK prog TT := tyTab_ok (by kernel_rfl)
theorem mixed : prog.follows .mixedOrders = true := by kernel_rfl
abbrev ty_string : TypeId := 9
abbrev ty_impl_halt : TypeId := 57
abbrev n_main_main : FuncId := 0
abbrev n_gosem_cut : FuncId := 1
abbrev n_gosem_cut_init : FuncId := 2
abbrev n_laws_FnExactSimpleCheck : FuncId := 3
abbrev n_laws_FnExactPatternOK : FuncId := 4
abbrev n_laws_szTypedS : FuncId := 5
abbrev n_laws_szTreeS : FuncId := 6
abbrev n_laws_szTree : FuncId := 7
abbrev n_spec_SimpleCheck : FuncId := 8
abbrev n_laws_toTypedS : FuncId := 9
abbrev n_laws_toTreeS : FuncId := 10
abbrev n_laws_toTree : FuncId := 11
abbrev n_impl_SimpleCheck : FuncId := 12
abbrev n_laws_eqTypedS : FuncId := 13
abbrev n_laws_eqTreeS : FuncId := 14
abbrev n_laws_eqTree : FuncId := 15
abbrev n_spec_PatternOK : FuncId := 16
abbrev n_impl_PatternOK : FuncId := 17
abbrev n_laws_szTyped : FuncId := 18
abbrev n_spec_l03Consts : FuncId := 19
abbrev n_spec_l03Simples : FuncId := 20
abbrev n_spec_TermOK : FuncId := 21
abbrev n_spec_SimpleOK : FuncId := 22
abbrev n_spec_l03Typed : FuncId := 23
abbrev n_laws_toTyped : FuncId := 24
abbrev n_impl_longLists : FuncId := 25
abbrev n_impl_constsOK : FuncId := 26
abbrev n_impl_simplesOK : FuncId := 27
abbrev n_impl_badTerm : FuncId := 28
abbrev n_impl_badSimple : FuncId := 29
abbrev n_impl_caught : FuncId := 30
abbrev n_impl_SimpleCheck_1 : FuncId := 31
abbrev n_impl_simpler_check : FuncId := 32
abbrev n_slices_Clip_impl_Tree_impl_Tree : FuncId := 33
abbrev n_laws_eqTyped : FuncId := 34
abbrev n_spec_l06Pattern : FuncId := 35
abbrev n_impl_TermOK : FuncId := 36
abbrev n_impl_patterns : FuncId := 37
abbrev n_spec_NameOK : FuncId := 38
abbrev n_spec_l03Const : FuncId := 39
abbrev n_spec_l01Small : FuncId := 40
abbrev n_spec_l01Term : FuncId := 41
abbrev n_spec_l01Simple : FuncId := 42
abbrev n_slices_Max_int_int : FuncId := 43
abbrev n_impl_NameOK : FuncId := 44
abbrev n_slices_ContainsFunc_impl_Tree_impl_Tree : FuncId := 45
abbrev n_impl_SimpleOK : FuncId := 46
abbrev n_impl_caught_1 : FuncId := 47
abbrev n_impl_stop : FuncId := 48
abbrev n_impl_simpler_typeOf : FuncId := 49
abbrev n_impl_same : FuncId := 50
abbrev n_spec_l06Vars : FuncId := 51
abbrev n_spec_l06Args : FuncId := 52
abbrev n_impl_fresh : FuncId := 53
abbrev n_impl_looker_term : FuncId := 54
abbrev n_impl_Tree_each : FuncId := 55
abbrev n_impl_patterns_1 : FuncId := 56
abbrev n_impl_pattern : FuncId := 57
abbrev n_spec_l00Word : FuncId := 58
abbrev n_spec_l00Digit : FuncId := 59
abbrev n_spec_l01Count : FuncId := 60
abbrev n_spec_l01Terms : FuncId := 61
abbrev n_impl_wordOK : FuncId := 62
abbrev n_strings_CutPrefix : FuncId := 63
abbrev n_impl_over : FuncId := 64
abbrev n_slices_IndexFunc_impl_Tree_impl_Tree : FuncId := 65
abbrev n_impl_looker_simple : FuncId := 66
abbrev n_slices_IndexFunc_impl_Typed_impl_Typed : FuncId := 67
abbrev n_impl_simpler_typeOf_1 : FuncId := 68
abbrev n_spec_l06Var : FuncId := 69
abbrev n_spec_l06Place : FuncId := 70
abbrev n_impl_looker_node : FuncId := 71
abbrev n_impl_Tree_bare : FuncId := 72
abbrev n_impl_in : FuncId := 73
abbrev n_impl_looker_args : FuncId := 74
abbrev n_impl_Tree_under : FuncId := 75
abbrev n_impl_takes : FuncId := 76
abbrev n_impl_longVariable : FuncId := 77
abbrev n_slices_Contains_int_int : FuncId := 78
abbrev n_spec_l00Letter : FuncId := 79
abbrev n_impl_isHead : FuncId := 80
abbrev n_internal_stringslite_CutPrefix : FuncId := 81
abbrev n_strings_Trim : FuncId := 82
abbrev n_spec_l01Same : FuncId := 83
abbrev n_spec_l03Long : FuncId := 84
abbrev n_spec_l01Var : FuncId := 85
abbrev n_impl_Tree_binds : FuncId := 86
abbrev n_impl_longForm : FuncId := 87
abbrev n_impl_variable : FuncId := 88
abbrev n_slices_Index_int_int : FuncId := 89
abbrev n_strings_IndexByte : FuncId := 90
abbrev n_internal_stringslite_HasPrefix : FuncId := 91
abbrev n_strings_trimLeftByte : FuncId := 92
abbrev n_strings_trimRightByte : FuncId := 93
abbrev n_strings_makeASCIISet : FuncId := 94
abbrev n_strings_trimLeftASCII : FuncId := 95
abbrev n_strings_trimRightASCII : FuncId := 96
abbrev n_strings_trimLeftUnicode : FuncId := 97
abbrev n_strings_trimRightUnicode : FuncId := 98
abbrev n_spec_l01Lift : FuncId := 99
abbrev n_spec_l01With : FuncId := 100
abbrev n_spec_l01Lam : FuncId := 101
abbrev n_impl_lift : FuncId := 102
abbrev n_impl_lam : FuncId := 103
abbrev n_internal_stringslite_IndexByte : FuncId := 104
abbrev n_strings_asciiSet_contains : FuncId := 105
abbrev n_unicode_utf8_DecodeRuneInString : FuncId := 106
abbrev n_strings_ContainsRune : FuncId := 107
abbrev n_unicode_utf8_DecodeLastRuneInString : FuncId := 108
abbrev n_spec_l01Under : FuncId := 109
abbrev n_impl_turned : FuncId := 110
abbrev n_impl_lift_1 : FuncId := 111
abbrev n_internal_bytealg_IndexByteString : FuncId := 112
abbrev n_unicode_utf8_decodeRuneInStringSlow : FuncId := 113
abbrev n_strings_IndexRune : FuncId := 114
abbrev n_unicode_utf8_RuneStart : FuncId := 115
abbrev n_spec_l01Binds : FuncId := 116
abbrev n_unicode_utf8_ValidRune : FuncId := 117
abbrev n_internal_bytealg_Cutover : FuncId := 118
abbrev n_internal_bytealg_IndexString : FuncId := 119
abbrev n_runtime_boundsError_Error : FuncId := 120
abbrev n_runtime_boundsError_RuntimeError : FuncId := 121
abbrev n_runtime_errorString_Error : FuncId := 122
abbrev n_runtime_errorString_RuntimeError : FuncId := 123
abbrev n_runtime_plainError_Error : FuncId := 124
abbrev n_runtime_plainError_RuntimeError : FuncId := 125
abbrev n_runtime_errorAddressString_Error : FuncId := 126
abbrev n_runtime_errorAddressString_RuntimeError : FuncId := 127
abbrev n_runtime_TypeAssertionError_Error : FuncId := 128
abbrev n_runtime_TypeAssertionError_RuntimeError : FuncId := 129
abbrev n_runtime_PanicNilError_Error : FuncId := 130
abbrev n_runtime_PanicNilError_RuntimeError : FuncId := 131
abbrev n_internal_abi_Type_Align : FuncId := 132
abbrev n_internal_runtime_maps_unhashableTypeError_Error : FuncId := 133
abbrev n_internal_runtime_maps_unhashableTypeError_RuntimeError : FuncId := 134
abbrev n_internal_abi_Kind_String : FuncId := 135
abbrev n_var_s_door_gosem_cut_vars_holds_initialisers_alone_see_the_manifest_s_row_cutvarsword_look_11_test_files_too : FuncId := 136
abbrev n_var_s_door_the_look_of_gosem_cut_vars_went_over_the_folder_that_the_caller_named_as_the_repository_s_root_look_11 : FuncId := 137
abbrev n_var_s_door_unicode_utf8_acceptRanges_is_laid_by_its_own_initialiser_plain_data_look_11 : FuncId := 138
abbrev n_var_s_door_unicode_utf8_first_is_laid_by_its_text_alone_pinned_1 : FuncId := 139
abbrev n_gosem_cut_vars : FuncId := 140
end Go.H.Tryd
