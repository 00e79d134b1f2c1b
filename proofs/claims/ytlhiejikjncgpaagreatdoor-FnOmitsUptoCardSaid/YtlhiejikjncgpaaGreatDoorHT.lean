/- Part of a proof that the program answers as the reference does: EFB. -/
import Derived.Test.YtlhiejikjncgpaaGreatDoorProg
import Derived.Test.YtlhiejikjncgpaaGreatDoorHD
/- MADE BY PROGRAM (hgen.py): types and names. -/
set_option linter.unusedVariables false
set_option maxRecDepth 100000
namespace Go.H.Tryz
open Go Go.H
noncomputable abbrev prog : Program := Go.Proofs.Tryz.prog
def tab : List (Nat × TD) := [(3, ⟨1, 8, .int .i64, [.int .i64 0]⟩),
 (4, ⟨1, 1, .bool, [.bool false]⟩),
 (5, ⟨1, 1, .int .u8, [.int .u8 0]⟩),
 (9, ⟨1, 16, .string, [.str []]⟩),
 (21, ⟨1, 4, .int .i32, [.int .i32 0]⟩),
 (22, ⟨1, 24, .slice 5, [.sl 0 true []]⟩),
 (23, ⟨1, 24, .slice 25, [.sl 0 true []]⟩),
 (25, ⟨4, 56, .struct [(0, 3), (1, 3), (2, 9), (3, 23)], [.int .i64 0, .int .i64 0, .str [], .sl 0 true []]⟩),
 (35, ⟨1, 24, .slice 50, [.sl 0 true []]⟩),
 (47, ⟨1, 24, .slice 4, [.sl 0 true []]⟩),
 (50, ⟨6, 80, .struct [(0, 9), (1, 4), (2, 25)], [.str [], .bool false, .int .i64 0, .int .i64 0, .str [], .sl 0 true []]⟩),
 (62, ⟨1, 8, .struct [(0, 3)], [.int .i64 0]⟩),
 (64, ⟨1, 8, .func, [.nilfn]⟩),
 (65, ⟨1, 8, .pointer, [.nilp]⟩),
 (67, ⟨1, 8, .struct [(0, 3)], [.int .i64 0]⟩),
 (73, ⟨1, 8, .pointer, [.nilp]⟩),
 (75, ⟨1, 8, .func, [.nilfn]⟩),
 (86, ⟨4, 48, .struct [(0, 35), (1, 65), (2, 3), (3, 3)], [.sl 0 true [], .nilp, .int .i64 0, .int .i64 0]⟩),
 (91, ⟨1, 8, .map 9 47, [.nilmap]⟩),
 (93, ⟨2, 32, .struct [(0, 91), (1, 47)], [.nilmap, .sl 0 true []]⟩),
 (97, ⟨3, 56, .struct [(0, 35), (1, 47), (2, 3)], [.sl 0 true [], .sl 0 true [], .int .i64 0]⟩),
 (101, ⟨1, 24, .slice 23, [.sl 0 true []]⟩),
 (105, ⟨2, 32, .struct [(0, 62), (1, 35)], [.int .i64 0, .sl 0 true []]⟩),
 (108, ⟨3, 40, .struct [(0, 22), (1, 3), (2, 3)], [.sl 0 true [], .int .i64 0, .int .i64 0]⟩),
 (118, ⟨2, 16, .struct [(0, 3), (1, 3)], [.int .i64 0, .int .i64 0]⟩),
 (125, ⟨1, 24, .slice 3, [.sl 0 true []]⟩),
 (144, ⟨2, 16, .struct [(0, 3), (1, 4)], [.int .i64 0, .bool false]⟩),
 (168, ⟨256, 256, .array 256 4, [.bool false, .bool false, .bool false, .bool false, .bool false, .bool false, .bool false, .bool false, .bool false, .bool false, .bool false, .bool false, .bool false, .bool false, .bool false, .bool false, .bool false, .bool false, .bool false, .bool false, .bool false, .bool false, .bool false, .bool false, .bool false, .bool false, .bool false, .bool false, .bool false, .bool false, .bool false, .bool false, .bool false, .bool false, .bool false, .bool false, .bool false, .bool false, .bool false, .bool false, .bool false, .bool false, .bool false, .bool false, .bool false, .bool false, .bool false, .bool false, .bool false, .bool false, .bool false, .bool false, .bool false, .bool false, .bool false, .bool false, .bool false, .bool false, .bool false, .bool false, .bool false, .bool false, .bool false, .bool false, .bool false, .bool false, .bool false, .bool false, .bool false, .bool false, .bool false, .bool false, .bool false, .bool false, .bool false, .bool false, .bool false, .bool false, .bool false, .bool false, .bool false, .bool false, .bool false, .bool false, .bool false, .bool false, .bool false, .bool false, .bool false, .bool false, .bool false, .bool false, .bool false, .bool false, .bool false, .bool false, .bool false, .bool false, .bool false, .bool false, .bool false, .bool false, .bool false, .bool false, .bool false, .bool false, .bool false, .bool false, .bool false, .bool false, .bool false, .bool false, .bool false, .bool false, .bool false, .bool false, .bool false, .bool false, .bool false, .bool false, .bool false, .bool false, .bool false, .bool false, .bool false, .bool false, .bool false, .bool false, .bool false, .bool false, .bool false, .bool false, .bool false, .bool false, .bool false, .bool false, .bool false, .bool false, .bool false, .bool false, .bool false, .bool false, .bool false, .bool false, .bool false, .bool false, .bool false, .bool false, .bool false, .bool false, .bool false, .bool false, .bool false, .bool false, .bool false, .bool false, .bool false, .bool false, .bool false, .bool false, .bool false, .bool false, .bool false, .bool false, .bool false, .bool false, .bool false, .bool false, .bool false, .bool false, .bool false, .bool false, .bool false, .bool false, .bool false, .bool false, .bool false, .bool false, .bool false, .bool false, .bool false, .bool false, .bool false, .bool false, .bool false, .bool false, .bool false, .bool false, .bool false, .bool false, .bool false, .bool false, .bool false, .bool false, .bool false, .bool false, .bool false, .bool false, .bool false, .bool false, .bool false, .bool false, .bool false, .bool false, .bool false, .bool false, .bool false, .bool false, .bool false, .bool false, .bool false, .bool false, .bool false, .bool false, .bool false, .bool false, .bool false, .bool false, .bool false, .bool false, .bool false, .bool false, .bool false, .bool false, .bool false, .bool false, .bool false, .bool false, .bool false, .bool false, .bool false, .bool false, .bool false, .bool false, .bool false, .bool false, .bool false, .bool false, .bool false, .bool false, .bool false, .bool false, .bool false, .bool false, .bool false, .bool false, .bool false, .bool false, .bool false, .bool false, .bool false, .bool false, .bool false, .bool false, .bool false, .bool false]⟩),
 (177, ⟨256, 256, .array 256 5, [.int .u8 0, .int .u8 0, .int .u8 0, .int .u8 0, .int .u8 0, .int .u8 0, .int .u8 0, .int .u8 0, .int .u8 0, .int .u8 0, .int .u8 0, .int .u8 0, .int .u8 0, .int .u8 0, .int .u8 0, .int .u8 0, .int .u8 0, .int .u8 0, .int .u8 0, .int .u8 0, .int .u8 0, .int .u8 0, .int .u8 0, .int .u8 0, .int .u8 0, .int .u8 0, .int .u8 0, .int .u8 0, .int .u8 0, .int .u8 0, .int .u8 0, .int .u8 0, .int .u8 0, .int .u8 0, .int .u8 0, .int .u8 0, .int .u8 0, .int .u8 0, .int .u8 0, .int .u8 0, .int .u8 0, .int .u8 0, .int .u8 0, .int .u8 0, .int .u8 0, .int .u8 0, .int .u8 0, .int .u8 0, .int .u8 0, .int .u8 0, .int .u8 0, .int .u8 0, .int .u8 0, .int .u8 0, .int .u8 0, .int .u8 0, .int .u8 0, .int .u8 0, .int .u8 0, .int .u8 0, .int .u8 0, .int .u8 0, .int .u8 0, .int .u8 0, .int .u8 0, .int .u8 0, .int .u8 0, .int .u8 0, .int .u8 0, .int .u8 0, .int .u8 0, .int .u8 0, .int .u8 0, .int .u8 0, .int .u8 0, .int .u8 0, .int .u8 0, .int .u8 0, .int .u8 0, .int .u8 0, .int .u8 0, .int .u8 0, .int .u8 0, .int .u8 0, .int .u8 0, .int .u8 0, .int .u8 0, .int .u8 0, .int .u8 0, .int .u8 0, .int .u8 0, .int .u8 0, .int .u8 0, .int .u8 0, .int .u8 0, .int .u8 0, .int .u8 0, .int .u8 0, .int .u8 0, .int .u8 0, .int .u8 0, .int .u8 0, .int .u8 0, .int .u8 0, .int .u8 0, .int .u8 0, .int .u8 0, .int .u8 0, .int .u8 0, .int .u8 0, .int .u8 0, .int .u8 0, .int .u8 0, .int .u8 0, .int .u8 0, .int .u8 0, .int .u8 0, .int .u8 0, .int .u8 0, .int .u8 0, .int .u8 0, .int .u8 0, .int .u8 0, .int .u8 0, .int .u8 0, .int .u8 0, .int .u8 0, .int .u8 0, .int .u8 0, .int .u8 0, .int .u8 0, .int .u8 0, .int .u8 0, .int .u8 0, .int .u8 0, .int .u8 0, .int .u8 0, .int .u8 0, .int .u8 0, .int .u8 0, .int .u8 0, .int .u8 0, .int .u8 0, .int .u8 0, .int .u8 0, .int .u8 0, .int .u8 0, .int .u8 0, .int .u8 0, .int .u8 0, .int .u8 0, .int .u8 0, .int .u8 0, .int .u8 0, .int .u8 0, .int .u8 0, .int .u8 0, .int .u8 0, .int .u8 0, .int .u8 0, .int .u8 0, .int .u8 0, .int .u8 0, .int .u8 0, .int .u8 0, .int .u8 0, .int .u8 0, .int .u8 0, .int .u8 0, .int .u8 0, .int .u8 0, .int .u8 0, .int .u8 0, .int .u8 0, .int .u8 0, .int .u8 0, .int .u8 0, .int .u8 0, .int .u8 0, .int .u8 0, .int .u8 0, .int .u8 0, .int .u8 0, .int .u8 0, .int .u8 0, .int .u8 0, .int .u8 0, .int .u8 0, .int .u8 0, .int .u8 0, .int .u8 0, .int .u8 0, .int .u8 0, .int .u8 0, .int .u8 0, .int .u8 0, .int .u8 0, .int .u8 0, .int .u8 0, .int .u8 0, .int .u8 0, .int .u8 0, .int .u8 0, .int .u8 0, .int .u8 0, .int .u8 0, .int .u8 0, .int .u8 0, .int .u8 0, .int .u8 0, .int .u8 0, .int .u8 0, .int .u8 0, .int .u8 0, .int .u8 0, .int .u8 0, .int .u8 0, .int .u8 0, .int .u8 0, .int .u8 0, .int .u8 0, .int .u8 0, .int .u8 0, .int .u8 0, .int .u8 0, .int .u8 0, .int .u8 0, .int .u8 0, .int .u8 0, .int .u8 0, .int .u8 0, .int .u8 0, .int .u8 0, .int .u8 0, .int .u8 0, .int .u8 0, .int .u8 0, .int .u8 0, .int .u8 0, .int .u8 0, .int .u8 0, .int .u8 0, .int .u8 0, .int .u8 0, .int .u8 0, .int .u8 0, .int .u8 0, .int .u8 0, .int .u8 0, .int .u8 0, .int .u8 0, .int .u8 0, .int .u8 0, .int .u8 0, .int .u8 0, .int .u8 0]⟩),
 (180, ⟨2, 2, .struct [(0, 5), (1, 5)], [.int .u8 0, .int .u8 0]⟩),
 (181, ⟨32, 32, .array 16 180, [.int .u8 0, .int .u8 0, .int .u8 0, .int .u8 0, .int .u8 0, .int .u8 0, .int .u8 0, .int .u8 0, .int .u8 0, .int .u8 0, .int .u8 0, .int .u8 0, .int .u8 0, .int .u8 0, .int .u8 0, .int .u8 0, .int .u8 0, .int .u8 0, .int .u8 0, .int .u8 0, .int .u8 0, .int .u8 0, .int .u8 0, .int .u8 0, .int .u8 0, .int .u8 0, .int .u8 0, .int .u8 0, .int .u8 0, .int .u8 0, .int .u8 0, .int .u8 0]⟩)]
abbrev TT : TypeId → Option TD := tyTab tab
theorem tyOK : TyOK prog TT := tyTab_ok (by kernel_rfl)
theorem mixed : prog.follows .mixedOrders = true := by kernel_rfl
abbrev ty_string : TypeId := 9
abbrev ty_impl_halt : TypeId := 118
abbrev n_main_main : FuncId := 0
abbrev n_gosem_cut : FuncId := 1
abbrev n_gosem_cut_init : FuncId := 2
abbrev n_laws_FnErase : FuncId := 3
abbrev n_laws_FnWeaken : FuncId := 4
abbrev n_laws_FnFront : FuncId := 5
abbrev n_laws_FnChecks : FuncId := 6
abbrev n_laws_FnSubstChecks : FuncId := 7
abbrev n_laws_FnOmits : FuncId := 8
abbrev n_spec_JudgedOf : FuncId := 9
abbrev n_spec_NumberOf : FuncId := 10
abbrev n_impl_Subst : FuncId := 11
abbrev n_spec_Subst : FuncId := 12
abbrev n_laws_same : FuncId := 13
abbrev n_laws_full : FuncId := 14
abbrev n_impl_Erase : FuncId := 15
abbrev n_spec_Numbers : FuncId := 16
abbrev n_impl_CheckTerm : FuncId := 17
abbrev n_impl_Lift : FuncId := 18
abbrev n_spec_Lift : FuncId := 19
abbrev n_spec_TermOK : FuncId := 20
abbrev n_spec_FamilyOK : FuncId := 21
abbrev n_laws_with : FuncId := 22
abbrev n_spec_CtxOK : FuncId := 23
abbrev n_spec_CheckTerm : FuncId := 24
abbrev n_impl_Synth : FuncId := 25
abbrev n_impl_Omit : FuncId := 26
abbrev n_spec_Omit : FuncId := 27
abbrev n_impl_SourceOK : FuncId := 28
abbrev n_impl_Size : FuncId := 29
abbrev n_impl_Omittable : FuncId := 30
abbrev n_spec_l00Source : FuncId := 31
abbrev n_spec_l00Src_natCtx : FuncId := 32
abbrev n_spec_l00Src_judged : FuncId := 33
abbrev n_spec_l00Src_nat : FuncId := 34
abbrev n_impl_TermOK : FuncId := 35
abbrev n_impl_SimpleOK : FuncId := 36
abbrev n_impl_treeOK : FuncId := 37
abbrev n_impl_result : FuncId := 38
abbrev n_impl_Subst_1 : FuncId := 39
abbrev n_impl_work_put : FuncId := 40
abbrev n_spec_SimpleOK : FuncId := 41
abbrev n_spec_l01Right : FuncId := 42
abbrev n_spec_l03Run_sub : FuncId := 43
abbrev n_impl_FamilyOK : FuncId := 44
abbrev n_impl_erase : FuncId := 45
abbrev n_spec_l04Some : FuncId := 46
abbrev n_impl_checked : FuncId := 47
abbrev n_impl_CheckTerm_1 : FuncId := 48
abbrev n_impl_due : FuncId := 49
abbrev n_impl_CheckTerm_2 : FuncId := 50
abbrev n_impl_checker_term : FuncId := 51
abbrev n_impl_treeFault : FuncId := 52
abbrev n_impl_lift : FuncId := 53
abbrev n_impl_tooBig : FuncId := 54
abbrev n_spec_l01Lift : FuncId := 55
abbrev n_spec_l01High : FuncId := 56
abbrev n_spec_l01Small : FuncId := 57
abbrev n_spec_l01Term : FuncId := 58
abbrev n_spec_l01Family : FuncId := 59
abbrev n_spec_SigOK : FuncId := 60
abbrev n_spec_l04Ctx : FuncId := 61
abbrev n_spec_l04Begin : FuncId := 62
abbrev n_spec_l04Check : FuncId := 63
abbrev n_spec_l04Run_family : FuncId := 64
abbrev n_spec_l04Run_term : FuncId := 65
abbrev n_impl_Synth_1 : FuncId := 66
abbrev n_impl_Synth_2 : FuncId := 67
abbrev n_impl_stop : FuncId := 68
abbrev n_impl_checker_found : FuncId := 69
abbrev n_impl_clone : FuncId := 70
abbrev n_impl_longLists : FuncId := 71
abbrev n_impl_SigOK : FuncId := 72
abbrev n_impl_badTerm : FuncId := 73
abbrev n_impl_omittable : FuncId := 74
abbrev n_impl_omitter_term : FuncId := 75
abbrev n_spec_l07Omitter_omit : FuncId := 76
abbrev n_impl_sourceTerm : FuncId := 77
abbrev n_impl_Tree_each : FuncId := 78
abbrev n_impl_SourceOK_1 : FuncId := 79
abbrev n_impl_longText : FuncId := 80
abbrev n_impl_checker_declared : FuncId := 81
abbrev n_spec_l00Src_next : FuncId := 82
abbrev n_spec_l01Fam : FuncId := 83
abbrev n_spec_l01Lam : FuncId := 84
abbrev n_spec_l01Pi : FuncId := 85
abbrev n_spec_l01Const : FuncId := 86
abbrev n_spec_l04Neutral : FuncId := 87
abbrev n_spec_l04Count : FuncId := 88
abbrev n_spec_l04Fam : FuncId := 89
abbrev n_spec_l01Var : FuncId := 90
abbrev n_impl_fresh : FuncId := 91
abbrev n_impl_looker_term : FuncId := 92
abbrev n_impl_looker_simple : FuncId := 93
abbrev n_impl_KindOK : FuncId := 94
abbrev n_impl_caught : FuncId := 95
abbrev n_impl_result_1 : FuncId := 96
abbrev n_impl_Tree_under : FuncId := 97
abbrev n_impl_work_apply : FuncId := 98
abbrev n_impl_formed : FuncId := 99
abbrev n_spec_l01Simple : FuncId := 100
abbrev n_spec_KindOK : FuncId := 101
abbrev n_spec_l01Under : FuncId := 102
abbrev n_spec_l03Big : FuncId := 103
abbrev n_spec_l03Run_reduce : FuncId := 104
abbrev n_spec_l01With : FuncId := 105
abbrev n_impl_looker_family : FuncId := 106
abbrev n_spec_l01Type : FuncId := 107
abbrev n_impl_CtxOK : FuncId := 108
abbrev n_impl_checked_1 : FuncId := 109
abbrev n_impl_familyFault : FuncId := 110
abbrev n_impl_behind : FuncId := 111
abbrev n_impl_same : FuncId := 112
abbrev n_impl_in : FuncId := 113
abbrev n_impl_turned : FuncId := 114
abbrev n_impl_lift_1 : FuncId := 115
abbrev n_impl_tooBig_1 : FuncId := 116
abbrev n_spec_l01Count : FuncId := 117
abbrev n_spec_l01Terms : FuncId := 118
abbrev n_spec_NameOK : FuncId := 119
abbrev n_spec_l04Decl : FuncId := 120
abbrev n_spec_l04More : FuncId := 121
abbrev n_spec_l01Size : FuncId := 122
abbrev n_spec_l04Find : FuncId := 123
abbrev n_spec_l04Run_fail : FuncId := 124
abbrev n_spec_l04Run_spine : FuncId := 125
abbrev n_spec_l04Run_synth : FuncId := 126
abbrev n_spec_l01Same : FuncId := 127
abbrev n_impl_checker_args : FuncId := 128
abbrev n_impl_checker_head : FuncId := 129
abbrev n_impl_cloneAll : FuncId := 130
abbrev n_slices_Max_int_int : FuncId := 131
abbrev n_impl_declForm : FuncId := 132
abbrev n_impl_has : FuncId := 133
abbrev n_impl_declFault : FuncId := 134
abbrev n_impl_tells : FuncId := 135
abbrev n_impl_longForm : FuncId := 136
abbrev n_impl_variable : FuncId := 137
abbrev n_spec_l07Omittable : FuncId := 138
abbrev n_slices_IndexFunc_impl_Decl_impl_Decl : FuncId := 139
abbrev n_impl_checker_declared_1 : FuncId := 140
abbrev n_spec_l00Src_byte : FuncId := 141
abbrev n_impl_looker_node : FuncId := 142
abbrev n_impl_Tree_bare : FuncId := 143
abbrev n_impl_looker_args : FuncId := 144
abbrev n_impl_NameOK : FuncId := 145
abbrev n_impl_caught_1 : FuncId := 146
abbrev n_impl_Tree_binds : FuncId := 147
abbrev n_spec_l01Kind : FuncId := 148
abbrev n_spec_l01Binds : FuncId := 149
abbrev n_spec_l01Copy : FuncId := 150
abbrev n_impl_familyFault_1 : FuncId := 151
abbrev n_impl_checker_family : FuncId := 152
abbrev n_slices_Clip_impl_Tree_impl_Tree : FuncId := 153
abbrev n_spec_l00Word : FuncId := 154
abbrev n_spec_l00Digit : FuncId := 155
abbrev n_spec_l04Run_kind : FuncId := 156
abbrev n_spec_l01Erase : FuncId := 157
abbrev n_spec_l04Run_head : FuncId := 158
abbrev n_impl_checker_left : FuncId := 159
abbrev n_slices_ContainsFunc_impl_Decl_impl_Decl : FuncId := 160
abbrev n_impl_has_1 : FuncId := 161
abbrev n_impl_declFault_1 : FuncId := 162
abbrev n_slices_ContainsFunc_impl_Tree_impl_Tree : FuncId := 163
abbrev n_impl_tells_1 : FuncId := 164
abbrev n_impl_takes : FuncId := 165
abbrev n_impl_lam : FuncId := 166
abbrev n_spec_l07Fixed : FuncId := 167
abbrev n_impl_wordOK : FuncId := 168
abbrev n_strings_CutPrefix : FuncId := 169
abbrev n_impl_over : FuncId := 170
abbrev n_spec_l00Letter : FuncId := 171
abbrev n_spec_l01Arrow : FuncId := 172
abbrev n_spec_l01Base : FuncId := 173
abbrev n_impl_at : FuncId := 174
abbrev n_impl_checker_left_1 : FuncId := 175
abbrev n_slices_IndexFunc_impl_Tree_impl_Tree : FuncId := 176
abbrev n_spec_l06Var : FuncId := 177
abbrev n_impl_isHead : FuncId := 178
abbrev n_internal_stringslite_CutPrefix : FuncId := 179
abbrev n_strings_Trim : FuncId := 180
abbrev n_spec_l03Long : FuncId := 181
abbrev n_strings_IndexByte : FuncId := 182
abbrev n_internal_stringslite_HasPrefix : FuncId := 183
abbrev n_strings_trimLeftByte : FuncId := 184
abbrev n_strings_trimRightByte : FuncId := 185
abbrev n_strings_makeASCIISet : FuncId := 186
abbrev n_strings_trimLeftASCII : FuncId := 187
abbrev n_strings_trimRightASCII : FuncId := 188
abbrev n_strings_trimLeftUnicode : FuncId := 189
abbrev n_strings_trimRightUnicode : FuncId := 190
abbrev n_internal_stringslite_IndexByte : FuncId := 191
abbrev n_strings_asciiSet_contains : FuncId := 192
abbrev n_unicode_utf8_DecodeRuneInString : FuncId := 193
abbrev n_strings_ContainsRune : FuncId := 194
abbrev n_unicode_utf8_DecodeLastRuneInString : FuncId := 195
abbrev n_internal_bytealg_IndexByteString : FuncId := 196
abbrev n_unicode_utf8_decodeRuneInStringSlow : FuncId := 197
abbrev n_strings_IndexRune : FuncId := 198
abbrev n_unicode_utf8_RuneStart : FuncId := 199
abbrev n_unicode_utf8_ValidRune : FuncId := 200
abbrev n_internal_bytealg_Cutover : FuncId := 201
abbrev n_internal_bytealg_IndexString : FuncId := 202
abbrev n_runtime_boundsError_Error : FuncId := 203
abbrev n_runtime_boundsError_RuntimeError : FuncId := 204
abbrev n_runtime_errorString_Error : FuncId := 205
abbrev n_runtime_errorString_RuntimeError : FuncId := 206
abbrev n_runtime_plainError_Error : FuncId := 207
abbrev n_runtime_plainError_RuntimeError : FuncId := 208
abbrev n_runtime_errorAddressString_Error : FuncId := 209
abbrev n_runtime_errorAddressString_RuntimeError : FuncId := 210
abbrev n_runtime_TypeAssertionError_Error : FuncId := 211
abbrev n_runtime_TypeAssertionError_RuntimeError : FuncId := 212
abbrev n_runtime_PanicNilError_Error : FuncId := 213
abbrev n_runtime_PanicNilError_RuntimeError : FuncId := 214
abbrev n_internal_abi_Type_Align : FuncId := 215
abbrev n_internal_runtime_maps_unhashableTypeError_Error : FuncId := 216
abbrev n_internal_runtime_maps_unhashableTypeError_RuntimeError : FuncId := 217
abbrev n_impl_work_fill : FuncId := 218
abbrev n_internal_abi_Kind_String : FuncId := 219
abbrev n_var_s_door_gosem_cut_vars_holds_initialisers_alone_see_the_manifest_s_row_cutvarsword_look_11_test_files_too : FuncId := 220
abbrev n_var_s_door_the_look_of_gosem_cut_vars_went_over_the_folder_that_the_caller_named_as_the_repository_s_root_look_11 : FuncId := 221
abbrev n_var_s_door_unicode_utf8_acceptRanges_is_laid_by_its_own_initialiser_plain_data_look_11 : FuncId := 222
abbrev n_var_s_door_unicode_utf8_first_is_laid_by_its_text_alone_pinned_1 : FuncId := 223
abbrev n_gosem_cut_vars : FuncId := 224
end Go.H.Tryz
