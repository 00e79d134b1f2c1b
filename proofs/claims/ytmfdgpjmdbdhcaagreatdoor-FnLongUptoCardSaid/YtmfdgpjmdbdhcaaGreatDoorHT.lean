/- Part of a proof that the program answers as the reference does: ZDB. -/
import Derived.Test.YtmfdgpjmdbdhcaaGreatDoorProg
import Derived.Test.YtmfdgpjmdbdhcaaGreatDoorHD
/- MADE BY PROGRAM (hgen.py): types and names. -/
set_option linter.unusedVariables false
set_option maxRecDepth 100000
namespace Go.H.Tryz
open Go Go.H
noncomputable abbrev prog : Program := Go.Proofs.Tryz.prog
def tab : List (Nat × TD) := [(3, ⟨1, 8, .int .i64, [.int .i64 0]⟩),
 (4, ⟨1, 1, .bool, [.bool false]⟩),
 (5, ⟨1, 1, .int .u8, [.int .u8 0]⟩),
 (9, ⟨1, 16, .string, [.str []]⟩),
 (21, ⟨1, 4, .int .i32, [.int .i32 0]⟩),
 (22, ⟨1, 24, .slice 5, [.sl 0 true []]⟩),
 (23, ⟨1, 24, .slice 25, [.sl 0 true []]⟩),
 (25, ⟨4, 56, .struct [(0, 3), (1, 3), (2, 9), (3, 23)], [.int .i64 0, .int .i64 0, .str [], .sl 0 true []]⟩),
 (32, ⟨1, 24, .slice 105, [.sl 0 true []]⟩),
 (45, ⟨1, 24, .slice 119, [.sl 0 true []]⟩),
 (58, ⟨1, 8, .func, [.nilfn]⟩),
 (64, ⟨1, 8, .pointer, [.nilp]⟩),
 (66, ⟨2, 48, .struct [(0, 32), (1, 23)], [.sl 0 true [], .sl 0 true []]⟩),
 (68, ⟨2, 16, .struct [(0, 3), (1, 3)], [.int .i64 0, .int .i64 0]⟩),
 (78, ⟨1, 8, .struct [(0, 3)], [.int .i64 0]⟩),
 (82, ⟨1, 8, .struct [(0, 3)], [.int .i64 0]⟩),
 (90, ⟨1, 8, .pointer, [.nilp]⟩),
 (92, ⟨1, 8, .func, [.nilfn]⟩),
 (97, ⟨3, 40, .struct [(0, 22), (1, 3), (2, 3)], [.sl 0 true [], .int .i64 0, .int .i64 0]⟩),
 (101, ⟨1, 24, .slice 3, [.sl 0 true []]⟩),
 (103, ⟨1, 8, .map 9 4, [.nilmap]⟩),
 (105, ⟨5, 72, .struct [(0, 9), (1, 25)], [.str [], .int .i64 0, .int .i64 0, .str [], .sl 0 true []]⟩),
 (119, ⟨6, 80, .struct [(0, 9), (1, 4), (2, 25)], [.str [], .bool false, .int .i64 0, .int .i64 0, .str [], .sl 0 true []]⟩),
 (122, ⟨2, 32, .struct [(0, 78), (1, 45)], [.int .i64 0, .sl 0 true []]⟩),
 (131, ⟨1, 24, .slice 9, [.sl 0 true []]⟩),
 (141, ⟨2, 16, .struct [(0, 3), (1, 4)], [.int .i64 0, .bool false]⟩),
 (158, ⟨256, 256, .array 256 4, [.bool false, .bool false, .bool false, .bool false, .bool false, .bool false, .bool false, .bool false, .bool false, .bool false, .bool false, .bool false, .bool false, .bool false, .bool false, .bool false, .bool false, .bool false, .bool false, .bool false, .bool false, .bool false, .bool false, .bool false, .bool false, .bool false, .bool false, .bool false, .bool false, .bool false, .bool false, .bool false, .bool false, .bool false, .bool false, .bool false, .bool false, .bool false, .bool false, .bool false, .bool false, .bool false, .bool false, .bool false, .bool false, .bool false, .bool false, .bool false, .bool false, .bool false, .bool false, .bool false, .bool false, .bool false, .bool false, .bool false, .bool false, .bool false, .bool false, .bool false, .bool false, .bool false, .bool false, .bool false, .bool false, .bool false, .bool false, .bool false, .bool false, .bool false, .bool false, .bool false, .bool false, .bool false, .bool false, .bool false, .bool false, .bool false, .bool false, .bool false, .bool false, .bool false, .bool false, .bool false, .bool false, .bool false, .bool false, .bool false, .bool false, .bool false, .bool false, .bool false, .bool false, .bool false, .bool false, .bool false, .bool false, .bool false, .bool false, .bool false, .bool false, .bool false, .bool false, .bool false, .bool false, .bool false, .bool false, .bool false, .bool false, .bool false, .bool false, .bool false, .bool false, .bool false, .bool false, .bool false, .bool false, .bool false, .bool false, .bool false, .bool false, .bool false, .bool false, .bool false, .bool false, .bool false, .bool false, .bool false, .bool false, .bool false, .bool false, .bool false, .bool false, .bool false, .bool false, .bool false, .bool false, .bool false, .bool false, .bool false, .bool false, .bool false, .bool false, .bool false, .bool false, .bool false, .bool false, .bool false, .bool false, .bool false, .bool false, .bool false, .bool false, .bool false, .bool false, .bool false, .bool false, .bool false, .bool false, .bool false, .bool false, .bool false, .bool false, .bool false, .bool false, .bool false, .bool false, .bool false, .bool false, .bool false, .bool false, .bool false, .bool false, .bool false, .bool false, .bool false, .bool false, .bool false, .bool false, .bool false, .bool false, .bool false, .bool false, .bool false, .bool false, .bool false, .bool false, .bool false, .bool false, .bool false, .bool false, .bool false, .bool false, .bool false, .bool false, .bool false, .bool false, .bool false, .bool false, .bool false, .bool false, .bool false, .bool false, .bool false, .bool false, .bool false, .bool false, .bool false, .bool false, .bool false, .bool false, .bool false, .bool false, .bool false, .bool false, .bool false, .bool false, .bool false, .bool false, .bool false, .bool false, .bool false, .bool false, .bool false, .bool false, .bool false, .bool false, .bool false, .bool false, .bool false, .bool false, .bool false, .bool false, .bool false, .bool false, .bool false, .bool false, .bool false, .bool false, .bool false, .bool false, .bool false, .bool false, .bool false, .bool false, .bool false, .bool false, .bool false, .bool false, .bool false, .bool false, .bool false, .bool false, .bool false, .bool false, .bool false]⟩),
 (164, ⟨1, 24, .slice 23, [.sl 0 true []]⟩),
 (171, ⟨256, 256, .array 256 5, [.int .u8 0, .int .u8 0, .int .u8 0, .int .u8 0, .int .u8 0, .int .u8 0, .int .u8 0, .int .u8 0, .int .u8 0, .int .u8 0, .int .u8 0, .int .u8 0, .int .u8 0, .int .u8 0, .int .u8 0, .int .u8 0, .int .u8 0, .int .u8 0, .int .u8 0, .int .u8 0, .int .u8 0, .int .u8 0, .int .u8 0, .int .u8 0, .int .u8 0, .int .u8 0, .int .u8 0, .int .u8 0, .int .u8 0, .int .u8 0, .int .u8 0, .int .u8 0, .int .u8 0, .int .u8 0, .int .u8 0, .int .u8 0, .int .u8 0, .int .u8 0, .int .u8 0, .int .u8 0, .int .u8 0, .int .u8 0, .int .u8 0, .int .u8 0, .int .u8 0, .int .u8 0, .int .u8 0, .int .u8 0, .int .u8 0, .int .u8 0, .int .u8 0, .int .u8 0, .int .u8 0, .int .u8 0, .int .u8 0, .int .u8 0, .int .u8 0, .int .u8 0, .int .u8 0, .int .u8 0, .int .u8 0, .int .u8 0, .int .u8 0, .int .u8 0, .int .u8 0, .int .u8 0, .int .u8 0, .int .u8 0, .int .u8 0, .int .u8 0, .int .u8 0, .int .u8 0, .int .u8 0, .int .u8 0, .int .u8 0, .int .u8 0, .int .u8 0, .int .u8 0, .int .u8 0, .int .u8 0, .int .u8 0, .int .u8 0, .int .u8 0, .int .u8 0, .int .u8 0, .int .u8 0, .int .u8 0, .int .u8 0, .int .u8 0, .int .u8 0, .int .u8 0, .int .u8 0, .int .u8 0, .int .u8 0, .int .u8 0, .int .u8 0, .int .u8 0, .int .u8 0, .int .u8 0, .int .u8 0, .int .u8 0, .int .u8 0, .int .u8 0, .int .u8 0, .int .u8 0, .int .u8 0, .int .u8 0, .int .u8 0, .int .u8 0, .int .u8 0, .int .u8 0, .int .u8 0, .int .u8 0, .int .u8 0, .int .u8 0, .int .u8 0, .int .u8 0, .int .u8 0, .int .u8 0, .int .u8 0, .int .u8 0, .int .u8 0, .int .u8 0, .int .u8 0, .int .u8 0, .int .u8 0, .int .u8 0, .int .u8 0, .int .u8 0, .int .u8 0, .int .u8 0, .int .u8 0, .int .u8 0, .int .u8 0, .int .u8 0, .int .u8 0, .int .u8 0, .int .u8 0, .int .u8 0, .int .u8 0, .int .u8 0, .int .u8 0, .int .u8 0, .int .u8 0, .int .u8 0, .int .u8 0, .int .u8 0, .int .u8 0, .int .u8 0, .int .u8 0, .int .u8 0, .int .u8 0, .int .u8 0, .int .u8 0, .int .u8 0, .int .u8 0, .int .u8 0, .int .u8 0, .int .u8 0, .int .u8 0, .int .u8 0, .int .u8 0, .int .u8 0, .int .u8 0, .int .u8 0, .int .u8 0, .int .u8 0, .int .u8 0, .int .u8 0, .int .u8 0, .int .u8 0, .int .u8 0, .int .u8 0, .int .u8 0, .int .u8 0, .int .u8 0, .int .u8 0, .int .u8 0, .int .u8 0, .int .u8 0, .int .u8 0, .int .u8 0, .int .u8 0, .int .u8 0, .int .u8 0, .int .u8 0, .int .u8 0, .int .u8 0, .int .u8 0, .int .u8 0, .int .u8 0, .int .u8 0, .int .u8 0, .int .u8 0, .int .u8 0, .int .u8 0, .int .u8 0, .int .u8 0, .int .u8 0, .int .u8 0, .int .u8 0, .int .u8 0, .int .u8 0, .int .u8 0, .int .u8 0, .int .u8 0, .int .u8 0, .int .u8 0, .int .u8 0, .int .u8 0, .int .u8 0, .int .u8 0, .int .u8 0, .int .u8 0, .int .u8 0, .int .u8 0, .int .u8 0, .int .u8 0, .int .u8 0, .int .u8 0, .int .u8 0, .int .u8 0, .int .u8 0, .int .u8 0, .int .u8 0, .int .u8 0, .int .u8 0, .int .u8 0, .int .u8 0, .int .u8 0, .int .u8 0, .int .u8 0, .int .u8 0, .int .u8 0, .int .u8 0, .int .u8 0, .int .u8 0, .int .u8 0, .int .u8 0, .int .u8 0, .int .u8 0, .int .u8 0, .int .u8 0, .int .u8 0, .int .u8 0, .int .u8 0, .int .u8 0, .int .u8 0, .int .u8 0, .int .u8 0, .int .u8 0, .int .u8 0, .int .u8 0, .int .u8 0, .int .u8 0, .int .u8 0]⟩),
 (174, ⟨2, 2, .struct [(0, 5), (1, 5)], [.int .u8 0, .int .u8 0]⟩),
 (175, ⟨32, 32, .array 16 174, [.int .u8 0, .int .u8 0, .int .u8 0, .int .u8 0, .int .u8 0, .int .u8 0, .int .u8 0, .int .u8 0, .int .u8 0, .int .u8 0, .int .u8 0, .int .u8 0, .int .u8 0, .int .u8 0, .int .u8 0, .int .u8 0, .int .u8 0, .int .u8 0, .int .u8 0, .int .u8 0, .int .u8 0, .int .u8 0, .int .u8 0, .int .u8 0, .int .u8 0, .int .u8 0, .int .u8 0, .int .u8 0, .int .u8 0, .int .u8 0, .int .u8 0, .int .u8 0]⟩)]
abbrev TT : TypeId → Option TD := tyTab tab
theorem tyOK : TyOK prog TT := tyTab_ok (by kernel_rfl)
theorem mixed : prog.follows .mixedOrders = true := by kernel_rfl
abbrev ty_string : TypeId := 9
abbrev ty_impl_halt : TypeId := 68
abbrev n_main_main : FuncId := 0
abbrev n_gosem_cut : FuncId := 1
abbrev n_gosem_cut_init : FuncId := 2
abbrev n_laws_FnLong : FuncId := 3
abbrev n_laws_FnErase : FuncId := 4
abbrev n_laws_FnTyped : FuncId := 5
abbrev n_laws_FnWeaken : FuncId := 6
abbrev n_spec_SimpleOf : FuncId := 7
abbrev n_laws_at : FuncId := 8
abbrev n_impl_Long : FuncId := 9
abbrev n_spec_Long : FuncId := 10
abbrev n_laws_same : FuncId := 11
abbrev n_impl_SimpleCheck : FuncId := 12
abbrev n_spec_Consts : FuncId := 13
abbrev n_spec_JudgedOf : FuncId := 14
abbrev n_spec_NumberOf : FuncId := 15
abbrev n_impl_Subst : FuncId := 16
abbrev n_spec_Subst : FuncId := 17
abbrev n_laws_full : FuncId := 18
abbrev n_impl_Erase : FuncId := 19
abbrev n_spec_PutOf : FuncId := 20
abbrev n_laws_with : FuncId := 21
abbrev n_spec_Numbers : FuncId := 22
abbrev n_impl_CheckTerm : FuncId := 23
abbrev n_impl_Lift : FuncId := 24
abbrev n_spec_Lift : FuncId := 25
abbrev n_spec_TermOK : FuncId := 26
abbrev n_spec_FamilyOK : FuncId := 27
abbrev n_spec_l00Source : FuncId := 28
abbrev n_spec_l00Src_simple : FuncId := 29
abbrev n_spec_l00Src_next : FuncId := 30
abbrev n_impl_badSimple : FuncId := 31
abbrev n_impl_in : FuncId := 32
abbrev n_impl_result : FuncId := 33
abbrev n_impl_Long_1 : FuncId := 34
abbrev n_impl_long : FuncId := 35
abbrev n_spec_SimpleOK : FuncId := 36
abbrev n_spec_l03Long : FuncId := 37
abbrev n_spec_l01Var : FuncId := 38
abbrev n_spec_l03Big : FuncId := 39
abbrev n_impl_longLists : FuncId := 40
abbrev n_impl_constsOK : FuncId := 41
abbrev n_impl_simplesOK : FuncId := 42
abbrev n_impl_badTerm : FuncId := 43
abbrev n_impl_caught : FuncId := 44
abbrev n_impl_SimpleCheck_1 : FuncId := 45
abbrev n_impl_simpler_check : FuncId := 46
abbrev n_slices_Clip_impl_Tree_impl_Tree : FuncId := 47
abbrev n_spec_l03Some : FuncId := 48
abbrev n_spec_l00Src_natCtx : FuncId := 49
abbrev n_spec_l00Src_judged : FuncId := 50
abbrev n_spec_l00Src_nat : FuncId := 51
abbrev n_impl_TermOK : FuncId := 52
abbrev n_impl_SimpleOK : FuncId := 53
abbrev n_impl_treeOK : FuncId := 54
abbrev n_impl_Subst_1 : FuncId := 55
abbrev n_impl_work_put : FuncId := 56
abbrev n_spec_l01Right : FuncId := 57
abbrev n_spec_l03Run_sub : FuncId := 58
abbrev n_impl_FamilyOK : FuncId := 59
abbrev n_impl_erase : FuncId := 60
abbrev n_spec_l01Base : FuncId := 61
abbrev n_spec_l01Arrow : FuncId := 62
abbrev n_spec_l04More : FuncId := 63
abbrev n_spec_l00Src_little : FuncId := 64
abbrev n_spec_l04Some : FuncId := 65
abbrev n_impl_checked : FuncId := 66
abbrev n_impl_CheckTerm_1 : FuncId := 67
abbrev n_impl_due : FuncId := 68
abbrev n_impl_CheckTerm_2 : FuncId := 69
abbrev n_impl_checker_term : FuncId := 70
abbrev n_impl_treeFault : FuncId := 71
abbrev n_impl_lift : FuncId := 72
abbrev n_impl_tooBig : FuncId := 73
abbrev n_spec_l01Lift : FuncId := 74
abbrev n_spec_l01High : FuncId := 75
abbrev n_spec_l01Small : FuncId := 76
abbrev n_spec_l01Term : FuncId := 77
abbrev n_spec_l01Family : FuncId := 78
abbrev n_spec_l00Src_rawSimple : FuncId := 79
abbrev n_spec_l00Src_byte : FuncId := 80
abbrev n_impl_result_1 : FuncId := 81
abbrev n_impl_clone : FuncId := 82
abbrev n_impl_formed : FuncId := 83
abbrev n_impl_longForm : FuncId := 84
abbrev n_impl_variable : FuncId := 85
abbrev n_spec_l01Simple : FuncId := 86
abbrev n_spec_l01With : FuncId := 87
abbrev n_spec_l01Lam : FuncId := 88
abbrev n_slices_Max_int_int : FuncId := 89
abbrev n_impl_NameOK : FuncId := 90
abbrev n_slices_ContainsFunc_impl_Tree_impl_Tree : FuncId := 91
abbrev n_impl_caught_1 : FuncId := 92
abbrev n_impl_stop : FuncId := 93
abbrev n_impl_simpler_typeOf : FuncId := 94
abbrev n_impl_same : FuncId := 95
abbrev n_spec_l01Fam : FuncId := 96
abbrev n_spec_l01Pi : FuncId := 97
abbrev n_spec_l01Const : FuncId := 98
abbrev n_spec_l04Neutral : FuncId := 99
abbrev n_spec_l04Count : FuncId := 100
abbrev n_spec_l04Fam : FuncId := 101
abbrev n_impl_fresh : FuncId := 102
abbrev n_impl_looker_term : FuncId := 103
abbrev n_impl_looker_simple : FuncId := 104
abbrev n_impl_KindOK : FuncId := 105
abbrev n_impl_Tree_under : FuncId := 106
abbrev n_impl_work_apply : FuncId := 107
abbrev n_spec_KindOK : FuncId := 108
abbrev n_spec_l01Under : FuncId := 109
abbrev n_spec_l03Run_reduce : FuncId := 110
abbrev n_impl_looker_family : FuncId := 111
abbrev n_spec_l00Src_typed : FuncId := 112
abbrev n_spec_l01Count : FuncId := 113
abbrev n_spec_l01Type : FuncId := 114
abbrev n_impl_CtxOK : FuncId := 115
abbrev n_impl_checked_1 : FuncId := 116
abbrev n_impl_familyFault : FuncId := 117
abbrev n_impl_behind : FuncId := 118
abbrev n_impl_checker_found : FuncId := 119
abbrev n_impl_turned : FuncId := 120
abbrev n_impl_lift_1 : FuncId := 121
abbrev n_impl_Tree_each : FuncId := 122
abbrev n_impl_tooBig_1 : FuncId := 123
abbrev n_spec_l01Terms : FuncId := 124
abbrev n_spec_NameOK : FuncId := 125
abbrev n_spec_l00Src_chance : FuncId := 126
abbrev n_spec_l00Src_pick : FuncId := 127
abbrev n_impl_cloneAll : FuncId := 128
abbrev n_impl_takes : FuncId := 129
abbrev n_impl_lam : FuncId := 130
abbrev n_impl_wordOK : FuncId := 131
abbrev n_strings_CutPrefix : FuncId := 132
abbrev n_impl_over : FuncId := 133
abbrev n_slices_IndexFunc_impl_Tree_impl_Tree : FuncId := 134
abbrev n_slices_IndexFunc_impl_Typed_impl_Typed : FuncId := 135
abbrev n_impl_simpler_typeOf_1 : FuncId := 136
abbrev n_impl_looker_node : FuncId := 137
abbrev n_impl_Tree_bare : FuncId := 138
abbrev n_impl_looker_args : FuncId := 139
abbrev n_impl_Tree_binds : FuncId := 140
abbrev n_spec_l01Kind : FuncId := 141
abbrev n_spec_l01Binds : FuncId := 142
abbrev n_spec_l01Copy : FuncId := 143
abbrev n_spec_l03Target : FuncId := 144
abbrev n_impl_SigOK : FuncId := 145
abbrev n_impl_familyFault_1 : FuncId := 146
abbrev n_impl_checker_family : FuncId := 147
abbrev n_impl_checker_args : FuncId := 148
abbrev n_impl_checker_head : FuncId := 149
abbrev n_spec_l00Word : FuncId := 150
abbrev n_spec_l00Digit : FuncId := 151
abbrev n_impl_isHead : FuncId := 152
abbrev n_internal_stringslite_CutPrefix : FuncId := 153
abbrev n_strings_Trim : FuncId := 154
abbrev n_impl_declForm : FuncId := 155
abbrev n_impl_has : FuncId := 156
abbrev n_impl_declFault : FuncId := 157
abbrev n_impl_Size : FuncId := 158
abbrev n_impl_checker_declared : FuncId := 159
abbrev n_impl_checker_left : FuncId := 160
abbrev n_spec_l00Letter : FuncId := 161
abbrev n_strings_IndexByte : FuncId := 162
abbrev n_internal_stringslite_HasPrefix : FuncId := 163
abbrev n_strings_trimLeftByte : FuncId := 164
abbrev n_strings_trimRightByte : FuncId := 165
abbrev n_strings_makeASCIISet : FuncId := 166
abbrev n_strings_trimLeftASCII : FuncId := 167
abbrev n_strings_trimRightASCII : FuncId := 168
abbrev n_strings_trimLeftUnicode : FuncId := 169
abbrev n_strings_trimRightUnicode : FuncId := 170
abbrev n_slices_ContainsFunc_impl_Decl_impl_Decl : FuncId := 171
abbrev n_impl_has_1 : FuncId := 172
abbrev n_impl_declFault_1 : FuncId := 173
abbrev n_slices_IndexFunc_impl_Decl_impl_Decl : FuncId := 174
abbrev n_impl_checker_declared_1 : FuncId := 175
abbrev n_impl_at : FuncId := 176
abbrev n_impl_checker_left_1 : FuncId := 177
abbrev n_internal_stringslite_IndexByte : FuncId := 178
abbrev n_strings_asciiSet_contains : FuncId := 179
abbrev n_unicode_utf8_DecodeRuneInString : FuncId := 180
abbrev n_strings_ContainsRune : FuncId := 181
abbrev n_unicode_utf8_DecodeLastRuneInString : FuncId := 182
abbrev n_internal_bytealg_IndexByteString : FuncId := 183
abbrev n_unicode_utf8_decodeRuneInStringSlow : FuncId := 184
abbrev n_strings_IndexRune : FuncId := 185
abbrev n_unicode_utf8_RuneStart : FuncId := 186
abbrev n_unicode_utf8_ValidRune : FuncId := 187
abbrev n_internal_bytealg_Cutover : FuncId := 188
abbrev n_internal_bytealg_IndexString : FuncId := 189
abbrev n_runtime_boundsError_Error : FuncId := 190
abbrev n_runtime_boundsError_RuntimeError : FuncId := 191
abbrev n_runtime_errorString_Error : FuncId := 192
abbrev n_runtime_errorString_RuntimeError : FuncId := 193
abbrev n_runtime_plainError_Error : FuncId := 194
abbrev n_runtime_plainError_RuntimeError : FuncId := 195
abbrev n_runtime_errorAddressString_Error : FuncId := 196
abbrev n_runtime_errorAddressString_RuntimeError : FuncId := 197
abbrev n_runtime_TypeAssertionError_Error : FuncId := 198
abbrev n_runtime_TypeAssertionError_RuntimeError : FuncId := 199
abbrev n_runtime_PanicNilError_Error : FuncId := 200
abbrev n_runtime_PanicNilError_RuntimeError : FuncId := 201
abbrev n_internal_abi_Type_Align : FuncId := 202
abbrev n_internal_runtime_maps_unhashableTypeError_Error : FuncId := 203
abbrev n_internal_runtime_maps_unhashableTypeError_RuntimeError : FuncId := 204
abbrev n_impl_work_fill : FuncId := 205
abbrev n_internal_abi_Kind_String : FuncId := 206
abbrev n_var_s_door_gosem_cut_vars_holds_initialisers_alone_see_the_manifest_s_row_cutvarsword_look_11_test_files_too : FuncId := 207
abbrev n_var_s_door_the_look_of_gosem_cut_vars_went_over_the_folder_that_the_caller_named_as_the_repository_s_root_look_11 : FuncId := 208
abbrev n_var_s_door_unicode_utf8_acceptRanges_is_laid_by_its_own_initialiser_plain_data_look_11 : FuncId := 209
abbrev n_var_s_door_unicode_utf8_first_is_laid_by_its_text_alone_pinned_1 : FuncId := 210
abbrev n_gosem_cut_vars : FuncId := 211
end Go.H.Tryz
