/- Part of a proof that the program answers as the reference does: ZGB. -/
import Derived.Test.YtipmjpjaklmpfaaGreatDoorProg
import Derived.Test.YtipmjpjaklmpfaaGreatDoorHD
set_option linter.unusedVariables false
set_option maxRecDepth 100000
namespace Go.H.Tryz
open Go Go.H
noncomputable abbrev prog : Program := Go.Proofs.Tryz.prog
def tab : List (Nat × TD) := [(3, ⟨1, 8, .int .i64, [.int .i64 0]⟩),
 (4, ⟨1, 1, .bool, [.bool false]⟩),
 (5, ⟨1, 1, .int .u8, [.int .u8 0]⟩),
 (9, ⟨1, 16, .string, [.str []]⟩),
 (21, ⟨1, 4, .int .i32, [.int .i32 0]⟩),
 (22, ⟨1, 24, .slice 5, [.sl 0 true []]⟩),
 (23, ⟨1, 24, .slice 28, [.sl 0 true []]⟩),
 (28, ⟨4, 56, .struct [(0, 3), (1, 3), (2, 9), (3, 23)], [.int .i64 0, .int .i64 0, .str [], .sl 0 true []]⟩),
 (34, ⟨1, 24, .slice 101, [.sl 0 true []]⟩),
 (54, ⟨1, 8, .struct [(0, 3)], [.int .i64 0]⟩),
 (56, ⟨1, 8, .func, [.nilfn]⟩),
 (57, ⟨1, 8, .pointer, [.nilp]⟩),
 (59, ⟨1, 8, .struct [(0, 3)], [.int .i64 0]⟩),
 (64, ⟨1, 8, .pointer, [.nilp]⟩),
 (66, ⟨2, 48, .struct [(0, 34), (1, 23)], [.sl 0 true [], .sl 0 true []]⟩),
 (68, ⟨2, 16, .struct [(0, 3), (1, 3)], [.int .i64 0, .int .i64 0]⟩),
 (85, ⟨5, 88, .struct [(0, 34), (1, 23), (2, 23), (3, 57), (4, 3)], [.sl 0 true [], .sl 0 true [], .sl 0 true [], .nilp, .int .i64 0]⟩),
 (88, ⟨3, 40, .struct [(0, 22), (1, 3), (2, 3)], [.sl 0 true [], .int .i64 0, .int .i64 0]⟩),
 (97, ⟨1, 24, .slice 3, [.sl 0 true []]⟩),
 (99, ⟨1, 8, .map 9 4, [.nilmap]⟩),
 (101, ⟨5, 72, .struct [(0, 9), (1, 28)], [.str [], .int .i64 0, .int .i64 0, .str [], .sl 0 true []]⟩),
 (114, ⟨1, 24, .slice 9, [.sl 0 true []]⟩),
 (116, ⟨2, 16, .struct [(0, 3), (1, 4)], [.int .i64 0, .bool false]⟩),
 (134, ⟨256, 256, .array 256 4, [.bool false, .bool false, .bool false, .bool false, .bool false, .bool false, .bool false, .bool false, .bool false, .bool false, .bool false, .bool false, .bool false, .bool false, .bool false, .bool false, .bool false, .bool false, .bool false, .bool false, .bool false, .bool false, .bool false, .bool false, .bool false, .bool false, .bool false, .bool false, .bool false, .bool false, .bool false, .bool false, .bool false, .bool false, .bool false, .bool false, .bool false, .bool false, .bool false, .bool false, .bool false, .bool false, .bool false, .bool false, .bool false, .bool false, .bool false, .bool false, .bool false, .bool false, .bool false, .bool false, .bool false, .bool false, .bool false, .bool false, .bool false, .bool false, .bool false, .bool false, .bool false, .bool false, .bool false, .bool false, .bool false, .bool false, .bool false, .bool false, .bool false, .bool false, .bool false, .bool false, .bool false, .bool false, .bool false, .bool false, .bool false, .bool false, .bool false, .bool false, .bool false, .bool false, .bool false, .bool false, .bool false, .bool false, .bool false, .bool false, .bool false, .bool false, .bool false, .bool false, .bool false, .bool false, .bool false, .bool false, .bool false, .bool false, .bool false, .bool false, .bool false, .bool false, .bool false, .bool false, .bool false, .bool false, .bool false, .bool false, .bool false, .bool false, .bool false, .bool false, .bool false, .bool false, .bool false, .bool false, .bool false, .bool false, .bool false, .bool false, .bool false, .bool false, .bool false, .bool false, .bool false, .bool false, .bool false, .bool false, .bool false, .bool false, .bool false, .bool false, .bool false, .bool false, .bool false, .bool false, .bool false, .bool false, .bool false, .bool false, .bool false, .bool false, .bool false, .bool false, .bool false, .bool false, .bool false, .bool false, .bool false, .bool false, .bool false, .bool false, .bool false, .bool false, .bool false, .bool false, .bool false, .bool false, .bool false, .bool false, .bool false, .bool false, .bool false, .bool false, .bool false, .bool false, .bool false, .bool false, .bool false, .bool false, .bool false, .bool false, .bool false, .bool false, .bool false, .bool false, .bool false, .bool false, .bool false, .bool false, .bool false, .bool false, .bool false, .bool false, .bool false, .bool false, .bool false, .bool false, .bool false, .bool false, .bool false, .bool false, .bool false, .bool false, .bool false, .bool false, .bool false, .bool false, .bool false, .bool false, .bool false, .bool false, .bool false, .bool false, .bool false, .bool false, .bool false, .bool false, .bool false, .bool false, .bool false, .bool false, .bool false, .bool false, .bool false, .bool false, .bool false, .bool false, .bool false, .bool false, .bool false, .bool false, .bool false, .bool false, .bool false, .bool false, .bool false, .bool false, .bool false, .bool false, .bool false, .bool false, .bool false, .bool false, .bool false, .bool false, .bool false, .bool false, .bool false, .bool false, .bool false, .bool false, .bool false, .bool false, .bool false, .bool false, .bool false, .bool false, .bool false, .bool false, .bool false, .bool false, .bool false, .bool false, .bool false, .bool false]⟩),
 (143, ⟨256, 256, .array 256 5, [.int .u8 0, .int .u8 0, .int .u8 0, .int .u8 0, .int .u8 0, .int .u8 0, .int .u8 0, .int .u8 0, .int .u8 0, .int .u8 0, .int .u8 0, .int .u8 0, .int .u8 0, .int .u8 0, .int .u8 0, .int .u8 0, .int .u8 0, .int .u8 0, .int .u8 0, .int .u8 0, .int .u8 0, .int .u8 0, .int .u8 0, .int .u8 0, .int .u8 0, .int .u8 0, .int .u8 0, .int .u8 0, .int .u8 0, .int .u8 0, .int .u8 0, .int .u8 0, .int .u8 0, .int .u8 0, .int .u8 0, .int .u8 0, .int .u8 0, .int .u8 0, .int .u8 0, .int .u8 0, .int .u8 0, .int .u8 0, .int .u8 0, .int .u8 0, .int .u8 0, .int .u8 0, .int .u8 0, .int .u8 0, .int .u8 0, .int .u8 0, .int .u8 0, .int .u8 0, .int .u8 0, .int .u8 0, .int .u8 0, .int .u8 0, .int .u8 0, .int .u8 0, .int .u8 0, .int .u8 0, .int .u8 0, .int .u8 0, .int .u8 0, .int .u8 0, .int .u8 0, .int .u8 0, .int .u8 0, .int .u8 0, .int .u8 0, .int .u8 0, .int .u8 0, .int .u8 0, .int .u8 0, .int .u8 0, .int .u8 0, .int .u8 0, .int .u8 0, .int .u8 0, .int .u8 0, .int .u8 0, .int .u8 0, .int .u8 0, .int .u8 0, .int .u8 0, .int .u8 0, .int .u8 0, .int .u8 0, .int .u8 0, .int .u8 0, .int .u8 0, .int .u8 0, .int .u8 0, .int .u8 0, .int .u8 0, .int .u8 0, .int .u8 0, .int .u8 0, .int .u8 0, .int .u8 0, .int .u8 0, .int .u8 0, .int .u8 0, .int .u8 0, .int .u8 0, .int .u8 0, .int .u8 0, .int .u8 0, .int .u8 0, .int .u8 0, .int .u8 0, .int .u8 0, .int .u8 0, .int .u8 0, .int .u8 0, .int .u8 0, .int .u8 0, .int .u8 0, .int .u8 0, .int .u8 0, .int .u8 0, .int .u8 0, .int .u8 0, .int .u8 0, .int .u8 0, .int .u8 0, .int .u8 0, .int .u8 0, .int .u8 0, .int .u8 0, .int .u8 0, .int .u8 0, .int .u8 0, .int .u8 0, .int .u8 0, .int .u8 0, .int .u8 0, .int .u8 0, .int .u8 0, .int .u8 0, .int .u8 0, .int .u8 0, .int .u8 0, .int .u8 0, .int .u8 0, .int .u8 0, .int .u8 0, .int .u8 0, .int .u8 0, .int .u8 0, .int .u8 0, .int .u8 0, .int .u8 0, .int .u8 0, .int .u8 0, .int .u8 0, .int .u8 0, .int .u8 0, .int .u8 0, .int .u8 0, .int .u8 0, .int .u8 0, .int .u8 0, .int .u8 0, .int .u8 0, .int .u8 0, .int .u8 0, .int .u8 0, .int .u8 0, .int .u8 0, .int .u8 0, .int .u8 0, .int .u8 0, .int .u8 0, .int .u8 0, .int .u8 0, .int .u8 0, .int .u8 0, .int .u8 0, .int .u8 0, .int .u8 0, .int .u8 0, .int .u8 0, .int .u8 0, .int .u8 0, .int .u8 0, .int .u8 0, .int .u8 0, .int .u8 0, .int .u8 0, .int .u8 0, .int .u8 0, .int .u8 0, .int .u8 0, .int .u8 0, .int .u8 0, .int .u8 0, .int .u8 0, .int .u8 0, .int .u8 0, .int .u8 0, .int .u8 0, .int .u8 0, .int .u8 0, .int .u8 0, .int .u8 0, .int .u8 0, .int .u8 0, .int .u8 0, .int .u8 0, .int .u8 0, .int .u8 0, .int .u8 0, .int .u8 0, .int .u8 0, .int .u8 0, .int .u8 0, .int .u8 0, .int .u8 0, .int .u8 0, .int .u8 0, .int .u8 0, .int .u8 0, .int .u8 0, .int .u8 0, .int .u8 0, .int .u8 0, .int .u8 0, .int .u8 0, .int .u8 0, .int .u8 0, .int .u8 0, .int .u8 0, .int .u8 0, .int .u8 0, .int .u8 0, .int .u8 0, .int .u8 0, .int .u8 0, .int .u8 0, .int .u8 0, .int .u8 0, .int .u8 0, .int .u8 0, .int .u8 0, .int .u8 0, .int .u8 0, .int .u8 0, .int .u8 0, .int .u8 0, .int .u8 0, .int .u8 0, .int .u8 0, .int .u8 0, .int .u8 0, .int .u8 0, .int .u8 0]⟩),
 (146, ⟨2, 2, .struct [(0, 5), (1, 5)], [.int .u8 0, .int .u8 0]⟩),
 (147, ⟨32, 32, .array 16 146, [.int .u8 0, .int .u8 0, .int .u8 0, .int .u8 0, .int .u8 0, .int .u8 0, .int .u8 0, .int .u8 0, .int .u8 0, .int .u8 0, .int .u8 0, .int .u8 0, .int .u8 0, .int .u8 0, .int .u8 0, .int .u8 0, .int .u8 0, .int .u8 0, .int .u8 0, .int .u8 0, .int .u8 0, .int .u8 0, .int .u8 0, .int .u8 0, .int .u8 0, .int .u8 0, .int .u8 0, .int .u8 0, .int .u8 0, .int .u8 0, .int .u8 0, .int .u8 0]⟩)]
abbrev TT : TypeId → Option TD := tyTab tab
theorem tyOK : TyOK prog TT := tyTab_ok (by kernel_rfl)
theorem mixed : prog.follows .mixedOrders = true := by kernel_rfl
abbrev ty_string : TypeId := 9
abbrev ty_impl_halt : TypeId := 68
abbrev n_main_main : FuncId := 0
abbrev n_gosem_cut : FuncId := 1
abbrev n_gosem_cut_init : FuncId := 2
abbrev n_laws_FnTyped : FuncId := 3
abbrev n_laws_FnFill : FuncId := 4
abbrev n_spec_PutOf : FuncId := 5
abbrev n_laws_with : FuncId := 6
abbrev n_impl_Subst : FuncId := 7
abbrev n_spec_Subst : FuncId := 8
abbrev n_laws_same : FuncId := 9
abbrev n_laws_full : FuncId := 10
abbrev n_impl_SimpleCheck : FuncId := 11
abbrev n_spec_Consts : FuncId := 12
abbrev n_spec_ProblemOf : FuncId := 13
abbrev n_spec_ClosedOf : FuncId := 14
abbrev n_spec_TermOK : FuncId := 15
abbrev n_laws_right : FuncId := 16
abbrev n_impl_Fill : FuncId := 17
abbrev n_spec_Fill : FuncId := 18
abbrev n_spec_l00Source : FuncId := 19
abbrev n_spec_l01Base : FuncId := 20
abbrev n_spec_l01Arrow : FuncId := 21
abbrev n_spec_l00Src_simple : FuncId := 22
abbrev n_spec_l00Src_next : FuncId := 23
abbrev n_spec_l04More : FuncId := 24
abbrev n_spec_l00Src_little : FuncId := 25
abbrev n_impl_TermOK : FuncId := 26
abbrev n_impl_SimpleOK : FuncId := 27
abbrev n_impl_treeOK : FuncId := 28
abbrev n_impl_result : FuncId := 29
abbrev n_impl_Subst_1 : FuncId := 30
abbrev n_impl_work_put : FuncId := 31
abbrev n_spec_SimpleOK : FuncId := 32
abbrev n_spec_l01Right : FuncId := 33
abbrev n_spec_l03Run_sub : FuncId := 34
abbrev n_impl_longLists : FuncId := 35
abbrev n_impl_constsOK : FuncId := 36
abbrev n_impl_simplesOK : FuncId := 37
abbrev n_impl_badTerm : FuncId := 38
abbrev n_impl_badSimple : FuncId := 39
abbrev n_impl_caught : FuncId := 40
abbrev n_impl_SimpleCheck_1 : FuncId := 41
abbrev n_impl_simpler_check : FuncId := 42
abbrev n_slices_Clip_impl_Tree_impl_Tree : FuncId := 43
abbrev n_spec_l03Some : FuncId := 44
abbrev n_spec_l00Src_problem : FuncId := 45
abbrev n_spec_l00Src_typed : FuncId := 46
abbrev n_spec_l01Small : FuncId := 47
abbrev n_spec_l01Term : FuncId := 48
abbrev n_slices_ContainsFunc_impl_Tree_impl_Tree : FuncId := 49
abbrev n_impl_Fill_1 : FuncId := 50
abbrev n_impl_closed : FuncId := 51
abbrev n_impl_Tree_each : FuncId := 52
abbrev n_impl_Fill_2 : FuncId := 53
abbrev n_impl_Fill_3 : FuncId := 54
abbrev n_impl_work_fill : FuncId := 55
abbrev n_impl_Fill_3_1 : FuncId := 56
abbrev n_spec_l03Simples : FuncId := 57
abbrev n_spec_l03Spine : FuncId := 58
abbrev n_spec_l02Closed : FuncId := 59
abbrev n_spec_l06Known : FuncId := 60
abbrev n_spec_l06Run_fill : FuncId := 61
abbrev n_spec_l00Src_rawSimple : FuncId := 62
abbrev n_spec_l00Src_byte : FuncId := 63
abbrev n_spec_l01Count : FuncId := 64
abbrev n_impl_fresh : FuncId := 65
abbrev n_impl_looker_term : FuncId := 66
abbrev n_impl_looker_simple : FuncId := 67
abbrev n_impl_FamilyOK : FuncId := 68
abbrev n_impl_KindOK : FuncId := 69
abbrev n_impl_result_1 : FuncId := 70
abbrev n_impl_clone : FuncId := 71
abbrev n_impl_Tree_under : FuncId := 72
abbrev n_impl_work_apply : FuncId := 73
abbrev n_impl_formed : FuncId := 74
abbrev n_impl_lift : FuncId := 75
abbrev n_spec_l01Simple : FuncId := 76
abbrev n_spec_FamilyOK : FuncId := 77
abbrev n_spec_KindOK : FuncId := 78
abbrev n_spec_l01Under : FuncId := 79
abbrev n_spec_l01Lift : FuncId := 80
abbrev n_spec_l03Big : FuncId := 81
abbrev n_spec_l03Run_reduce : FuncId := 82
abbrev n_spec_l01With : FuncId := 83
abbrev n_slices_Max_int_int : FuncId := 84
abbrev n_impl_NameOK : FuncId := 85
abbrev n_impl_caught_1 : FuncId := 86
abbrev n_impl_stop : FuncId := 87
abbrev n_impl_simpler_typeOf : FuncId := 88
abbrev n_impl_same : FuncId := 89
abbrev n_spec_l00Src_varTypes : FuncId := 90
abbrev n_spec_l00Src_holeTypes : FuncId := 91
abbrev n_spec_l00Src_pattern : FuncId := 92
abbrev n_spec_l00Src_varied : FuncId := 93
abbrev n_spec_l00Src_chance : FuncId := 94
abbrev n_spec_l01Lam : FuncId := 95
abbrev n_spec_l03Target : FuncId := 96
abbrev n_spec_l01Var : FuncId := 97
abbrev n_spec_l01Const : FuncId := 98
abbrev n_spec_l01Terms : FuncId := 99
abbrev n_spec_NameOK : FuncId := 100
abbrev n_slices_IndexFunc_impl_Tree_impl_Tree : FuncId := 101
abbrev n_impl_closed_1 : FuncId := 102
abbrev n_spec_l06Run_fail : FuncId := 103
abbrev n_spec_l00Src_pick : FuncId := 104
abbrev n_impl_looker_node : FuncId := 105
abbrev n_impl_Tree_bare : FuncId := 106
abbrev n_impl_in : FuncId := 107
abbrev n_impl_looker_args : FuncId := 108
abbrev n_impl_looker_family : FuncId := 109
abbrev n_impl_cloneAll : FuncId := 110
abbrev n_impl_Tree_binds : FuncId := 111
abbrev n_impl_tooBig : FuncId := 112
abbrev n_impl_turned : FuncId := 113
abbrev n_impl_lift_1 : FuncId := 114
abbrev n_spec_l01Family : FuncId := 115
abbrev n_spec_l01Kind : FuncId := 116
abbrev n_spec_l01Binds : FuncId := 117
abbrev n_spec_l01High : FuncId := 118
abbrev n_spec_l01Copy : FuncId := 119
abbrev n_impl_wordOK : FuncId := 120
abbrev n_strings_CutPrefix : FuncId := 121
abbrev n_impl_over : FuncId := 122
abbrev n_slices_IndexFunc_impl_Typed_impl_Typed : FuncId := 123
abbrev n_impl_simpler_typeOf_1 : FuncId := 124
abbrev n_spec_l06Args : FuncId := 125
abbrev n_spec_l06Place : FuncId := 126
abbrev n_spec_l01Same : FuncId := 127
abbrev n_spec_l03Long : FuncId := 128
abbrev n_spec_l03Const : FuncId := 129
abbrev n_spec_l00Word : FuncId := 130
abbrev n_spec_l00Digit : FuncId := 131
abbrev n_impl_tooBig_1 : FuncId := 132
abbrev n_impl_isHead : FuncId := 133
abbrev n_internal_stringslite_CutPrefix : FuncId := 134
abbrev n_strings_Trim : FuncId := 135
abbrev n_spec_l00Letter : FuncId := 136
abbrev n_strings_IndexByte : FuncId := 137
abbrev n_internal_stringslite_HasPrefix : FuncId := 138
abbrev n_strings_trimLeftByte : FuncId := 139
abbrev n_strings_trimRightByte : FuncId := 140
abbrev n_strings_makeASCIISet : FuncId := 141
abbrev n_strings_trimLeftASCII : FuncId := 142
abbrev n_strings_trimRightASCII : FuncId := 143
abbrev n_strings_trimLeftUnicode : FuncId := 144
abbrev n_strings_trimRightUnicode : FuncId := 145
abbrev n_internal_stringslite_IndexByte : FuncId := 146
abbrev n_strings_asciiSet_contains : FuncId := 147
abbrev n_unicode_utf8_DecodeRuneInString : FuncId := 148
abbrev n_strings_ContainsRune : FuncId := 149
abbrev n_unicode_utf8_DecodeLastRuneInString : FuncId := 150
abbrev n_internal_bytealg_IndexByteString : FuncId := 151
abbrev n_unicode_utf8_decodeRuneInStringSlow : FuncId := 152
abbrev n_strings_IndexRune : FuncId := 153
abbrev n_unicode_utf8_RuneStart : FuncId := 154
abbrev n_unicode_utf8_ValidRune : FuncId := 155
abbrev n_internal_bytealg_Cutover : FuncId := 156
abbrev n_internal_bytealg_IndexString : FuncId := 157
abbrev n_runtime_boundsError_Error : FuncId := 158
abbrev n_runtime_boundsError_RuntimeError : FuncId := 159
abbrev n_runtime_errorString_Error : FuncId := 160
abbrev n_runtime_errorString_RuntimeError : FuncId := 161
abbrev n_runtime_plainError_Error : FuncId := 162
abbrev n_runtime_plainError_RuntimeError : FuncId := 163
abbrev n_runtime_errorAddressString_Error : FuncId := 164
abbrev n_runtime_errorAddressString_RuntimeError : FuncId := 165
abbrev n_runtime_TypeAssertionError_Error : FuncId := 166
abbrev n_runtime_TypeAssertionError_RuntimeError : FuncId := 167
abbrev n_runtime_PanicNilError_Error : FuncId := 168
abbrev n_runtime_PanicNilError_RuntimeError : FuncId := 169
abbrev n_internal_abi_Type_Align : FuncId := 170
abbrev n_internal_runtime_maps_unhashableTypeError_Error : FuncId := 171
abbrev n_internal_runtime_maps_unhashableTypeError_RuntimeError : FuncId := 172
abbrev n_internal_abi_Kind_String : FuncId := 173
abbrev n_var_s_door_gosem_cut_vars_holds_initialisers_alone_see_the_manifest_s_row_cutvarsword_look_11_test_files_too : FuncId := 174
abbrev n_var_s_door_the_look_of_gosem_cut_vars_went_over_the_folder_that_the_caller_named_as_the_repository_s_root_look_11 : FuncId := 175
abbrev n_var_s_door_unicode_utf8_acceptRanges_is_laid_by_its_own_initialiser_plain_data_look_11 : FuncId := 176
abbrev n_var_s_door_unicode_utf8_first_is_laid_by_its_text_alone_pinned_1 : FuncId := 177
abbrev n_gosem_cut_vars : FuncId := 178
end Go.H.Tryz
