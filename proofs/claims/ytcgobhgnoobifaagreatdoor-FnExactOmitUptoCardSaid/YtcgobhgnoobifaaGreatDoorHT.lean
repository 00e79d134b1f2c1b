/- Part of a proof that the program answers as the reference does: EDB. -/
import Derived.Test.YtcgobhgnoobifaaGreatDoorProg
import Derived.Test.YtcgobhgnoobifaaGreatDoorHD
/- MADE BY PROGRAM (hgen.py): types and names. -/
set_option linter.unusedVariables false
set_option maxRecDepth 100000
namespace Go.H.Tryz
open Go Go.H
noncomputable abbrev prog : Program := Go.Proofs.Tryz.prog
def tab : List (Nat × TD) := [(3, ⟨1, 8, .int .i64, [.int .i64 0]⟩),
 (4, ⟨1, 1, .bool, [.bool false]⟩),
 (5, ⟨1, 1, .int .u8, [.int .u8 0]⟩),
 (9, ⟨1, 16, .string, [.str []]⟩),
 (21, ⟨1, 4, .int .i32, [.int .i32 0]⟩),
 (22, ⟨1, 24, .slice 67, [.sl 0 true []]⟩),
 (25, ⟨1, 24, .slice 72, [.sl 0 true []]⟩),
 (29, ⟨1, 24, .slice 37, [.sl 0 true []]⟩),
 (32, ⟨1, 24, .slice 42, [.sl 0 true []]⟩),
 (37, ⟨4, 56, .struct [(0, 3), (1, 3), (2, 9), (3, 29)], [.int .i64 0, .int .i64 0, .str [], .sl 0 true []]⟩),
 (42, ⟨4, 56, .struct [(0, 3), (1, 3), (2, 9), (3, 32)], [.int .i64 0, .int .i64 0, .str [], .sl 0 true []]⟩),
 (51, ⟨1, 24, .slice 115, [.sl 0 true []]⟩),
 (56, ⟨1, 24, .slice 9, [.sl 0 true []]⟩),
 (67, ⟨6, 80, .struct [(0, 9), (1, 4), (2, 37)], [.str [], .bool false, .int .i64 0, .int .i64 0, .str [], .sl 0 true []]⟩),
 (72, ⟨6, 80, .struct [(0, 9), (1, 4), (2, 42)], [.str [], .bool false, .int .i64 0, .int .i64 0, .str [], .sl 0 true []]⟩),
 (77, ⟨1, 24, .slice 4, [.sl 0 true []]⟩),
 (90, ⟨2, 16, .struct [(0, 3), (1, 3)], [.int .i64 0, .int .i64 0]⟩),
 (98, ⟨1, 8, .pointer, [.nilp]⟩),
 (100, ⟨4, 48, .struct [(0, 25), (1, 98), (2, 3), (3, 3)], [.sl 0 true [], .nilp, .int .i64 0, .int .i64 0]⟩),
 (103, ⟨1, 8, .pointer, [.nilp]⟩),
 (105, ⟨1, 8, .func, [.nilfn]⟩),
 (115, ⟨5, 72, .struct [(0, 9), (1, 42)], [.str [], .int .i64 0, .int .i64 0, .str [], .sl 0 true []]⟩),
 (129, ⟨1, 8, .struct [(0, 3)], [.int .i64 0]⟩),
 (131, ⟨2, 32, .struct [(0, 129), (1, 25)], [.int .i64 0, .sl 0 true []]⟩),
 (135, ⟨3, 56, .struct [(0, 25), (1, 77), (2, 3)], [.sl 0 true [], .sl 0 true [], .int .i64 0]⟩),
 (137, ⟨1, 8, .map 9 77, [.nilmap]⟩),
 (139, ⟨2, 32, .struct [(0, 137), (1, 77)], [.nilmap, .sl 0 true []]⟩),
 (146, ⟨1, 8, .struct [(0, 3)], [.int .i64 0]⟩),
 (152, ⟨1, 24, .slice 3, [.sl 0 true []]⟩),
 (154, ⟨1, 24, .slice 5, [.sl 0 true []]⟩),
 (156, ⟨1, 8, .map 9 4, [.nilmap]⟩),
 (173, ⟨2, 16, .struct [(0, 3), (1, 4)], [.int .i64 0, .bool false]⟩),
 (178, ⟨1, 24, .slice 32, [.sl 0 true []]⟩),
 (203, ⟨256, 256, .array 256 4, [.bool false, .bool false, .bool false, .bool false, .bool false, .bool false, .bool false, .bool false, .bool false, .bool false, .bool false, .bool false, .bool false, .bool false, .bool false, .bool false, .bool false, .bool false, .bool false, .bool false, .bool false, .bool false, .bool false, .bool false, .bool false, .bool false, .bool false, .bool false, .bool false, .bool false, .bool false, .bool false, .bool false, .bool false, .bool false, .bool false, .bool false, .bool false, .bool false, .bool false, .bool false, .bool false, .bool false, .bool false, .bool false, .bool false, .bool false, .bool false, .bool false, .bool false, .bool false, .bool false, .bool false, .bool false, .bool false, .bool false, .bool false, .bool false, .bool false, .bool false, .bool false, .bool false, .bool false, .bool false, .bool false, .bool false, .bool false, .bool false, .bool false, .bool false, .bool false, .bool false, .bool false, .bool false, .bool false, .bool false, .bool false, .bool false, .bool false, .bool false, .bool false, .bool false, .bool false, .bool false, .bool false, .bool false, .bool false, .bool false, .bool false, .bool false, .bool false, .bool false, .bool false, .bool false, .bool false, .bool false, .bool false, .bool false, .bool false, .bool false, .bool false, .bool false, .bool false, .bool false, .bool false, .bool false, .bool false, .bool false, .bool false, .bool false, .bool false, .bool false, .bool false, .bool false, .bool false, .bool false, .bool false, .bool false, .bool false, .bool false, .bool false, .bool false, .bool false, .bool false, .bool false, .bool false, .bool false, .bool false, .bool false, .bool false, .bool false, .bool false, .bool false, .bool false, .bool false, .bool false, .bool false, .bool false, .bool false, .bool false, .bool false, .bool false, .bool false, .bool false, .bool false, .bool false, .bool false, .bool false, .bool false, .bool false, .bool false, .bool false, .bool false, .bool false, .bool false, .bool false, .bool false, .bool false, .bool false, .bool false, .bool false, .bool false, .bool false, .bool false, .bool false, .bool false, .bool false, .bool false, .bool false, .bool false, .bool false, .bool false, .bool false, .bool false, .bool false, .bool false, .bool false, .bool false, .bool false, .bool false, .bool false, .bool false, .bool false, .bool false, .bool false, .bool false, .bool false, .bool false, .bool false, .bool false, .bool false, .bool false, .bool false, .bool false, .bool false, .bool false, .bool false, .bool false, .bool false, .bool false, .bool false, .bool false, .bool false, .bool false, .bool false, .bool false, .bool false, .bool false, .bool false, .bool false, .bool false, .bool false, .bool false, .bool false, .bool false, .bool false, .bool false, .bool false, .bool false, .bool false, .bool false, .bool false, .bool false, .bool false, .bool false, .bool false, .bool false, .bool false, .bool false, .bool false, .bool false, .bool false, .bool false, .bool false, .bool false, .bool false, .bool false, .bool false, .bool false, .bool false, .bool false, .bool false, .bool false, .bool false, .bool false, .bool false, .bool false, .bool false, .bool false, .bool false, .bool false, .bool false, .bool false, .bool false, .bool false, .bool false]⟩),
 (215, ⟨256, 256, .array 256 5, [.int .u8 0, .int .u8 0, .int .u8 0, .int .u8 0, .int .u8 0, .int .u8 0, .int .u8 0, .int .u8 0, .int .u8 0, .int .u8 0, .int .u8 0, .int .u8 0, .int .u8 0, .int .u8 0, .int .u8 0, .int .u8 0, .int .u8 0, .int .u8 0, .int .u8 0, .int .u8 0, .int .u8 0, .int .u8 0, .int .u8 0, .int .u8 0, .int .u8 0, .int .u8 0, .int .u8 0, .int .u8 0, .int .u8 0, .int .u8 0, .int .u8 0, .int .u8 0, .int .u8 0, .int .u8 0, .int .u8 0, .int .u8 0, .int .u8 0, .int .u8 0, .int .u8 0, .int .u8 0, .int .u8 0, .int .u8 0, .int .u8 0, .int .u8 0, .int .u8 0, .int .u8 0, .int .u8 0, .int .u8 0, .int .u8 0, .int .u8 0, .int .u8 0, .int .u8 0, .int .u8 0, .int .u8 0, .int .u8 0, .int .u8 0, .int .u8 0, .int .u8 0, .int .u8 0, .int .u8 0, .int .u8 0, .int .u8 0, .int .u8 0, .int .u8 0, .int .u8 0, .int .u8 0, .int .u8 0, .int .u8 0, .int .u8 0, .int .u8 0, .int .u8 0, .int .u8 0, .int .u8 0, .int .u8 0, .int .u8 0, .int .u8 0, .int .u8 0, .int .u8 0, .int .u8 0, .int .u8 0, .int .u8 0, .int .u8 0, .int .u8 0, .int .u8 0, .int .u8 0, .int .u8 0, .int .u8 0, .int .u8 0, .int .u8 0, .int .u8 0, .int .u8 0, .int .u8 0, .int .u8 0, .int .u8 0, .int .u8 0, .int .u8 0, .int .u8 0, .int .u8 0, .int .u8 0, .int .u8 0, .int .u8 0, .int .u8 0, .int .u8 0, .int .u8 0, .int .u8 0, .int .u8 0, .int .u8 0, .int .u8 0, .int .u8 0, .int .u8 0, .int .u8 0, .int .u8 0, .int .u8 0, .int .u8 0, .int .u8 0, .int .u8 0, .int .u8 0, .int .u8 0, .int .u8 0, .int .u8 0, .int .u8 0, .int .u8 0, .int .u8 0, .int .u8 0, .int .u8 0, .int .u8 0, .int .u8 0, .int .u8 0, .int .u8 0, .int .u8 0, .int .u8 0, .int .u8 0, .int .u8 0, .int .u8 0, .int .u8 0, .int .u8 0, .int .u8 0, .int .u8 0, .int .u8 0, .int .u8 0, .int .u8 0, .int .u8 0, .int .u8 0, .int .u8 0, .int .u8 0, .int .u8 0, .int .u8 0, .int .u8 0, .int .u8 0, .int .u8 0, .int .u8 0, .int .u8 0, .int .u8 0, .int .u8 0, .int .u8 0, .int .u8 0, .int .u8 0, .int .u8 0, .int .u8 0, .int .u8 0, .int .u8 0, .int .u8 0, .int .u8 0, .int .u8 0, .int .u8 0, .int .u8 0, .int .u8 0, .int .u8 0, .int .u8 0, .int .u8 0, .int .u8 0, .int .u8 0, .int .u8 0, .int .u8 0, .int .u8 0, .int .u8 0, .int .u8 0, .int .u8 0, .int .u8 0, .int .u8 0, .int .u8 0, .int .u8 0, .int .u8 0, .int .u8 0, .int .u8 0, .int .u8 0, .int .u8 0, .int .u8 0, .int .u8 0, .int .u8 0, .int .u8 0, .int .u8 0, .int .u8 0, .int .u8 0, .int .u8 0, .int .u8 0, .int .u8 0, .int .u8 0, .int .u8 0, .int .u8 0, .int .u8 0, .int .u8 0, .int .u8 0, .int .u8 0, .int .u8 0, .int .u8 0, .int .u8 0, .int .u8 0, .int .u8 0, .int .u8 0, .int .u8 0, .int .u8 0, .int .u8 0, .int .u8 0, .int .u8 0, .int .u8 0, .int .u8 0, .int .u8 0, .int .u8 0, .int .u8 0, .int .u8 0, .int .u8 0, .int .u8 0, .int .u8 0, .int .u8 0, .int .u8 0, .int .u8 0, .int .u8 0, .int .u8 0, .int .u8 0, .int .u8 0, .int .u8 0, .int .u8 0, .int .u8 0, .int .u8 0, .int .u8 0, .int .u8 0, .int .u8 0, .int .u8 0, .int .u8 0, .int .u8 0, .int .u8 0, .int .u8 0, .int .u8 0, .int .u8 0, .int .u8 0, .int .u8 0, .int .u8 0, .int .u8 0, .int .u8 0, .int .u8 0, .int .u8 0, .int .u8 0, .int .u8 0, .int .u8 0, .int .u8 0]⟩),
 (218, ⟨2, 2, .struct [(0, 5), (1, 5)], [.int .u8 0, .int .u8 0]⟩),
 (219, ⟨32, 32, .array 16 218, [.int .u8 0, .int .u8 0, .int .u8 0, .int .u8 0, .int .u8 0, .int .u8 0, .int .u8 0, .int .u8 0, .int .u8 0, .int .u8 0, .int .u8 0, .int .u8 0, .int .u8 0, .int .u8 0, .int .u8 0, .int .u8 0, .int .u8 0, .int .u8 0, .int .u8 0, .int .u8 0, .int .u8 0, .int .u8 0, .int .u8 0, .int .u8 0, .int .u8 0, .int .u8 0, .int .u8 0, .int .u8 0, .int .u8 0, .int .u8 0, .int .u8 0, .int .u8 0]⟩)]
abbrev TT : TypeId → Option TD := tyTab tab
theorem tyOK : TyOK prog TT := tyTab_ok (by kernel_rfl)
theorem mixed : prog.follows .mixedOrders = true := by kernel_rfl
abbrev ty_string : TypeId := 9
abbrev ty_impl_halt : TypeId := 90
abbrev n_main_main : FuncId := 0
abbrev n_gosem_cut : FuncId := 1
abbrev n_gosem_cut_init : FuncId := 2
abbrev n_laws_FnExactSigOK : FuncId := 3
abbrev n_laws_FnExactCtxOK : FuncId := 4
abbrev n_laws_FnExactCheckFamily : FuncId := 5
abbrev n_laws_FnExactCheckKind : FuncId := 6
abbrev n_laws_FnExactCheckTerm : FuncId := 7
abbrev n_laws_FnExactBuildSig : FuncId := 8
abbrev n_laws_FnExactSimpleSig : FuncId := 9
abbrev n_laws_FnExactNeeds : FuncId := 10
abbrev n_laws_FnExactSynth : FuncId := 11
abbrev n_laws_FnExactAddDecl : FuncId := 12
abbrev n_laws_FnExactOmittable : FuncId := 13
abbrev n_laws_FnExactOmit : FuncId := 14
abbrev n_laws_szDeclS : FuncId := 15
abbrev n_spec_SigOK : FuncId := 16
abbrev n_laws_toDeclS : FuncId := 17
abbrev n_impl_SigOK : FuncId := 18
abbrev n_laws_eqDeclS : FuncId := 19
abbrev n_laws_szTreeS : FuncId := 20
abbrev n_spec_CtxOK : FuncId := 21
abbrev n_laws_toTreeS : FuncId := 22
abbrev n_impl_CtxOK : FuncId := 23
abbrev n_laws_eqTreeS : FuncId := 24
abbrev n_laws_szTree : FuncId := 25
abbrev n_spec_CheckFamily : FuncId := 26
abbrev n_laws_toTree : FuncId := 27
abbrev n_impl_CheckFamily : FuncId := 28
abbrev n_laws_eqTree : FuncId := 29
abbrev n_spec_CheckKind : FuncId := 30
abbrev n_impl_CheckKind : FuncId := 31
abbrev n_spec_CheckTerm : FuncId := 32
abbrev n_impl_CheckTerm : FuncId := 33
abbrev n_spec_BuildSig : FuncId := 34
abbrev n_impl_BuildSig : FuncId := 35
abbrev n_laws_markDeclS : FuncId := 36
abbrev n_laws_heldDeclS : FuncId := 37
abbrev n_spec_SimpleSig : FuncId := 38
abbrev n_impl_SimpleSig : FuncId := 39
abbrev n_laws_eqTypedS : FuncId := 40
abbrev n_laws_markTypedS : FuncId := 41
abbrev n_laws_heldTypedS : FuncId := 42
abbrev n_spec_Needs : FuncId := 43
abbrev n_impl_Needs : FuncId := 44
abbrev n_laws_eqStringS : FuncId := 45
abbrev n_laws_markStringS : FuncId := 46
abbrev n_laws_heldStringS : FuncId := 47
abbrev n_spec_Synth : FuncId := 48
abbrev n_impl_Synth : FuncId := 49
abbrev n_laws_markTreeS : FuncId := 50
abbrev n_laws_markTree : FuncId := 51
abbrev n_laws_heldTree : FuncId := 52
abbrev n_laws_szDecl : FuncId := 53
abbrev n_spec_AddDecl : FuncId := 54
abbrev n_laws_toDecl : FuncId := 55
abbrev n_impl_AddDecl : FuncId := 56
abbrev n_laws_eqDecl : FuncId := 57
abbrev n_laws_markDecl : FuncId := 58
abbrev n_spec_Omittable : FuncId := 59
abbrev n_impl_Omittable : FuncId := 60
abbrev n_laws_eqBoolS : FuncId := 61
abbrev n_laws_markBoolS : FuncId := 62
abbrev n_laws_heldBoolS : FuncId := 63
abbrev n_spec_Omit : FuncId := 64
abbrev n_laws_toBoolS : FuncId := 65
abbrev n_impl_Omit : FuncId := 66
abbrev n_spec_l04Decl : FuncId := 67
abbrev n_impl_declForm : FuncId := 68
abbrev n_impl_has : FuncId := 69
abbrev n_impl_declFault : FuncId := 70
abbrev n_spec_l04Ctx : FuncId := 71
abbrev n_impl_FamilyOK : FuncId := 72
abbrev n_impl_familyFault : FuncId := 73
abbrev n_spec_l04Begin : FuncId := 74
abbrev n_spec_FamilyOK : FuncId := 75
abbrev n_spec_l04Check : FuncId := 76
abbrev n_spec_l04Run_family : FuncId := 77
abbrev n_impl_checked : FuncId := 78
abbrev n_impl_CheckFamily_1 : FuncId := 79
abbrev n_impl_CheckFamily_2 : FuncId := 80
abbrev n_impl_checker_family : FuncId := 81
abbrev n_spec_KindOK : FuncId := 82
abbrev n_spec_l04Run_kind : FuncId := 83
abbrev n_impl_CheckKind_1 : FuncId := 84
abbrev n_impl_KindOK : FuncId := 85
abbrev n_impl_CheckKind_2 : FuncId := 86
abbrev n_spec_TermOK : FuncId := 87
abbrev n_spec_l04Run_term : FuncId := 88
abbrev n_impl_CheckTerm_1 : FuncId := 89
abbrev n_impl_TermOK : FuncId := 90
abbrev n_impl_due : FuncId := 91
abbrev n_impl_CheckTerm_2 : FuncId := 92
abbrev n_impl_checker_term : FuncId := 93
abbrev n_spec_l05Copy : FuncId := 94
abbrev n_impl_longLists : FuncId := 95
abbrev n_impl_addFault : FuncId := 96
abbrev n_impl_cloneSig : FuncId := 97
abbrev n_laws_markText : FuncId := 98
abbrev n_laws_heldTreeS : FuncId := 99
abbrev n_spec_l05Simple : FuncId := 100
abbrev n_impl_erase : FuncId := 101
abbrev n_laws_eqTyped : FuncId := 102
abbrev n_spec_l04Find : FuncId := 103
abbrev n_spec_l05Names : FuncId := 104
abbrev n_spec_l00Has : FuncId := 105
abbrev n_impl_longText : FuncId := 106
abbrev n_impl_needs : FuncId := 107
abbrev n_spec_l04Run_synth : FuncId := 108
abbrev n_spec_l01Copy : FuncId := 109
abbrev n_impl_Synth_1 : FuncId := 110
abbrev n_impl_Synth_2 : FuncId := 111
abbrev n_impl_stop : FuncId := 112
abbrev n_impl_checker_found : FuncId := 113
abbrev n_impl_clone : FuncId := 114
abbrev n_impl_cloneDecl : FuncId := 115
abbrev n_spec_l07Omittable : FuncId := 116
abbrev n_impl_checker_declared : FuncId := 117
abbrev n_impl_omittable : FuncId := 118
abbrev n_spec_l07Omitter_omit : FuncId := 119
abbrev n_impl_badTerm : FuncId := 120
abbrev n_impl_omitter_term : FuncId := 121
abbrev n_spec_NameOK : FuncId := 122
abbrev n_impl_NameOK : FuncId := 123
abbrev n_slices_ContainsFunc_impl_Decl_impl_Decl : FuncId := 124
abbrev n_impl_has_1 : FuncId := 125
abbrev n_impl_caught : FuncId := 126
abbrev n_impl_declFault_1 : FuncId := 127
abbrev n_impl_fresh : FuncId := 128
abbrev n_impl_looker_family : FuncId := 129
abbrev n_impl_familyFault_1 : FuncId := 130
abbrev n_spec_l01Small : FuncId := 131
abbrev n_spec_l01Family : FuncId := 132
abbrev n_spec_l04More : FuncId := 133
abbrev n_spec_l01Size : FuncId := 134
abbrev n_spec_l04Run_fail : FuncId := 135
abbrev n_spec_l04Run_spine : FuncId := 136
abbrev n_impl_checked_1 : FuncId := 137
abbrev n_impl_behind : FuncId := 138
abbrev n_impl_Size : FuncId := 139
abbrev n_impl_checker_args : FuncId := 140
abbrev n_spec_l01Kind : FuncId := 141
abbrev n_spec_l01Term : FuncId := 142
abbrev n_spec_l01Same : FuncId := 143
abbrev n_impl_looker_term : FuncId := 144
abbrev n_impl_same : FuncId := 145
abbrev n_slices_Max_int_int : FuncId := 146
abbrev n_spec_l01Erase : FuncId := 147
abbrev n_slices_IndexFunc_impl_Decl_impl_Decl : FuncId := 148
abbrev n_impl_needs_1 : FuncId := 149
abbrev n_impl_namesIn : FuncId := 150
abbrev n_slices_Backward_impl_Decl_impl_Decl : FuncId := 151
abbrev n_slices_Reverse_string_string : FuncId := 152
abbrev n_spec_l04Run_head : FuncId := 153
abbrev n_spec_l01With : FuncId := 154
abbrev n_impl_checker_head : FuncId := 155
abbrev n_impl_cloneAll : FuncId := 156
abbrev n_spec_l07Fixed : FuncId := 157
abbrev n_impl_checker_declared_1 : FuncId := 158
abbrev n_impl_tells : FuncId := 159
abbrev n_impl_longForm : FuncId := 160
abbrev n_impl_variable : FuncId := 161
abbrev n_spec_l00Word : FuncId := 162
abbrev n_spec_l00Digit : FuncId := 163
abbrev n_impl_wordOK : FuncId := 164
abbrev n_strings_CutPrefix : FuncId := 165
abbrev n_impl_over : FuncId := 166
abbrev n_impl_caught_1 : FuncId := 167
abbrev n_impl_looker_node : FuncId := 168
abbrev n_impl_Tree_bare : FuncId := 169
abbrev n_impl_looker_args : FuncId := 170
abbrev n_spec_l01Count : FuncId := 171
abbrev n_spec_l01Terms : FuncId := 172
abbrev n_spec_l03Run_sub : FuncId := 173
abbrev n_slices_Clip_impl_Tree_impl_Tree : FuncId := 174
abbrev n_impl_checker_left : FuncId := 175
abbrev n_impl_in : FuncId := 176
abbrev n_spec_l01Arrow : FuncId := 177
abbrev n_spec_l01Base : FuncId := 178
abbrev n_impl_Tree_each : FuncId := 179
abbrev n_impl_namesIn_1 : FuncId := 180
abbrev n_slices_Backward_impl_Decl_impl_Decl_1 : FuncId := 181
abbrev n_spec_l01Lift : FuncId := 182
abbrev n_spec_l03Big : FuncId := 183
abbrev n_impl_lift : FuncId := 184
abbrev n_impl_tooBig : FuncId := 185
abbrev n_spec_l06Var : FuncId := 186
abbrev n_slices_ContainsFunc_impl_Tree_impl_Tree : FuncId := 187
abbrev n_impl_tells_1 : FuncId := 188
abbrev n_impl_takes : FuncId := 189
abbrev n_impl_lam : FuncId := 190
abbrev n_spec_l00Letter : FuncId := 191
abbrev n_impl_isHead : FuncId := 192
abbrev n_internal_stringslite_CutPrefix : FuncId := 193
abbrev n_strings_Trim : FuncId := 194
abbrev n_spec_l01Under : FuncId := 195
abbrev n_spec_l03Run_reduce : FuncId := 196
abbrev n_impl_at : FuncId := 197
abbrev n_impl_checker_left_1 : FuncId := 198
abbrev n_impl_work_put : FuncId := 199
abbrev n_impl_Tree_under : FuncId := 200
abbrev n_spec_l01High : FuncId := 201
abbrev n_impl_turned : FuncId := 202
abbrev n_impl_lift_1 : FuncId := 203
abbrev n_impl_tooBig_1 : FuncId := 204
abbrev n_spec_l03Long : FuncId := 205
abbrev n_spec_l01Var : FuncId := 206
abbrev n_slices_IndexFunc_impl_Tree_impl_Tree : FuncId := 207
abbrev n_strings_IndexByte : FuncId := 208
abbrev n_internal_stringslite_HasPrefix : FuncId := 209
abbrev n_strings_trimLeftByte : FuncId := 210
abbrev n_strings_trimRightByte : FuncId := 211
abbrev n_strings_makeASCIISet : FuncId := 212
abbrev n_strings_trimLeftASCII : FuncId := 213
abbrev n_strings_trimRightASCII : FuncId := 214
abbrev n_strings_trimLeftUnicode : FuncId := 215
abbrev n_strings_trimRightUnicode : FuncId := 216
abbrev n_spec_l01Binds : FuncId := 217
abbrev n_impl_work_apply : FuncId := 218
abbrev n_impl_formed : FuncId := 219
abbrev n_impl_Tree_binds : FuncId := 220
abbrev n_spec_l01Lam : FuncId := 221
abbrev n_internal_stringslite_IndexByte : FuncId := 222
abbrev n_strings_asciiSet_contains : FuncId := 223
abbrev n_unicode_utf8_DecodeRuneInString : FuncId := 224
abbrev n_strings_ContainsRune : FuncId := 225
abbrev n_unicode_utf8_DecodeLastRuneInString : FuncId := 226
abbrev n_internal_bytealg_IndexByteString : FuncId := 227
abbrev n_unicode_utf8_decodeRuneInStringSlow : FuncId := 228
abbrev n_strings_IndexRune : FuncId := 229
abbrev n_unicode_utf8_RuneStart : FuncId := 230
abbrev n_unicode_utf8_ValidRune : FuncId := 231
abbrev n_internal_bytealg_Cutover : FuncId := 232
abbrev n_internal_bytealg_IndexString : FuncId := 233
abbrev n_runtime_boundsError_Error : FuncId := 234
abbrev n_runtime_boundsError_RuntimeError : FuncId := 235
abbrev n_runtime_errorString_Error : FuncId := 236
abbrev n_runtime_errorString_RuntimeError : FuncId := 237
abbrev n_runtime_plainError_Error : FuncId := 238
abbrev n_runtime_plainError_RuntimeError : FuncId := 239
abbrev n_runtime_errorAddressString_Error : FuncId := 240
abbrev n_runtime_errorAddressString_RuntimeError : FuncId := 241
abbrev n_runtime_TypeAssertionError_Error : FuncId := 242
abbrev n_runtime_TypeAssertionError_RuntimeError : FuncId := 243
abbrev n_runtime_PanicNilError_Error : FuncId := 244
abbrev n_runtime_PanicNilError_RuntimeError : FuncId := 245
abbrev n_internal_abi_Type_Align : FuncId := 246
abbrev n_internal_runtime_maps_unhashableTypeError_Error : FuncId := 247
abbrev n_internal_runtime_maps_unhashableTypeError_RuntimeError : FuncId := 248
abbrev n_impl_work_fill : FuncId := 249
abbrev n_internal_abi_Kind_String : FuncId := 250
abbrev n_var_s_door_gosem_cut_vars_holds_initialisers_alone_see_the_manifest_s_row_cutvarsword_look_11_test_files_too : FuncId := 251
abbrev n_var_s_door_the_look_of_gosem_cut_vars_went_over_the_folder_that_the_caller_named_as_the_repository_s_root_look_11 : FuncId := 252
abbrev n_var_s_door_unicode_utf8_acceptRanges_is_laid_by_its_own_initialiser_plain_data_look_11 : FuncId := 253
abbrev n_var_s_door_unicode_utf8_first_is_laid_by_its_text_alone_pinned_1 : FuncId := 254
abbrev n_gosem_cut_vars : FuncId := 255
end Go.H.Tryz
