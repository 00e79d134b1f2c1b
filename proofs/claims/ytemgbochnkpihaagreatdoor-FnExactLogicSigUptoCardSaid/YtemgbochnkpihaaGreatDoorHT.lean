/- Part of a proof that the program answers as the reference does: FB. -/
import Derived.Test.YtemgbochnkpihaaGreatDoorProg
import Derived.Test.YtemgbochnkpihaaGreatDoorHD
/- MADE BY PROGRAM (hgen.py): types and names. -/
set_option linter.unusedVariables false
set_option maxRecDepth 100000
namespace Go.H.Tryz
open Go Go.H
noncomputable abbrev prog : Program := Go.Proofs.Tryz.prog
def tab : List (Nat × TD) := [(2, ⟨1, 8, .int .i64, [.int .i64 0]⟩),
 (3, ⟨1, 8, .int .i64, [.int .i64 0]⟩),
 (4, ⟨1, 1, .bool, [.bool false]⟩),
 (5, ⟨1, 1, .int .u8, [.int .u8 0]⟩),
 (9, ⟨1, 16, .string, [.str []]⟩),
 (21, ⟨1, 4, .int .i32, [.int .i32 0]⟩),
 (22, ⟨1, 24, .slice 62, [.sl 0 true []]⟩),
 (24, ⟨1, 24, .slice 71, [.sl 0 true []]⟩),
 (27, ⟨1, 24, .slice 66, [.sl 0 true []]⟩),
 (34, ⟨1, 24, .slice 9, [.sl 0 true []]⟩),
 (40, ⟨1, 24, .slice 42, [.sl 0 true []]⟩),
 (42, ⟨4, 56, .struct [(0, 3), (1, 3), (2, 9), (3, 40)], [.int .i64 0, .int .i64 0, .str [], .sl 0 true []]⟩),
 (58, ⟨1, 24, .slice 60, [.sl 0 true []]⟩),
 (60, ⟨4, 56, .struct [(0, 3), (1, 3), (2, 9), (3, 58)], [.int .i64 0, .int .i64 0, .str [], .sl 0 true []]⟩),
 (62, ⟨6, 80, .struct [(0, 9), (1, 4), (2, 60)], [.str [], .bool false, .int .i64 0, .int .i64 0, .str [], .sl 0 true []]⟩),
 (66, ⟨6, 80, .struct [(0, 9), (1, 4), (2, 42)], [.str [], .bool false, .int .i64 0, .int .i64 0, .str [], .sl 0 true []]⟩),
 (71, ⟨5, 72, .struct [(0, 9), (1, 42)], [.str [], .int .i64 0, .int .i64 0, .str [], .sl 0 true []]⟩),
 (83, ⟨1, 8, .pointer, [.nilp]⟩),
 (85, ⟨5, 64, .struct [(0, 9), (1, 3), (2, 34), (3, 3), (4, 4)], [.str [], .int .i64 0, .sl 0 true [], .int .i64 0, .bool false]⟩),
 (87, ⟨1, 8, .func, [.nilfn]⟩),
 (107, ⟨2, 16, .struct [(0, 3), (1, 3)], [.int .i64 0, .int .i64 0]⟩),
 (112, ⟨1, 24, .slice 3, [.sl 0 true []]⟩),
 (116, ⟨1, 24, .slice 5, [.sl 0 true []]⟩),
 (119, ⟨1, 8, .map 9 4, [.nilmap]⟩),
 (127, ⟨7, 80, .struct [(0, 9), (1, 3), (2, 3), (3, 3), (4, 3), (5, 34), (6, 4)], [.str [], .int .i64 0, .int .i64 0, .int .i64 0, .int .i64 0, .sl 0 true [], .bool false]⟩),
 (142, ⟨1, 8, .pointer, [.nilp]⟩),
 (144, ⟨2, 32, .struct [(0, 142), (1, 116)], [.nilp, .sl 0 true []]⟩),
 (146, ⟨1, 16, .iface, [.niliface]⟩),
 (155, ⟨1, 8, .pointer, [.nilp]⟩),
 (157, ⟨4, 48, .struct [(0, 27), (1, 155), (2, 3), (3, 3)], [.sl 0 true [], .nilp, .int .i64 0, .int .i64 0]⟩),
 (163, ⟨1, 8, .pointer, [.nilp]⟩),
 (165, ⟨1, 8, .struct [(0, 3)], [.int .i64 0]⟩),
 (167, ⟨2, 32, .struct [(0, 165), (1, 27)], [.int .i64 0, .sl 0 true []]⟩),
 (185, ⟨1, 8, .struct [(0, 3)], [.int .i64 0]⟩),
 (209, ⟨2, 16, .struct [(0, 3), (1, 4)], [.int .i64 0, .bool false]⟩),
 (212, ⟨1, 24, .slice 40, [.sl 0 true []]⟩),
 (221, ⟨256, 256, .array 256 4, [.bool false, .bool false, .bool false, .bool false, .bool false, .bool false, .bool false, .bool false, .bool false, .bool false, .bool false, .bool false, .bool false, .bool false, .bool false, .bool false, .bool false, .bool false, .bool false, .bool false, .bool false, .bool false, .bool false, .bool false, .bool false, .bool false, .bool false, .bool false, .bool false, .bool false, .bool false, .bool false, .bool false, .bool false, .bool false, .bool false, .bool false, .bool false, .bool false, .bool false, .bool false, .bool false, .bool false, .bool false, .bool false, .bool false, .bool false, .bool false, .bool false, .bool false, .bool false, .bool false, .bool false, .bool false, .bool false, .bool false, .bool false, .bool false, .bool false, .bool false, .bool false, .bool false, .bool false, .bool false, .bool false, .bool false, .bool false, .bool false, .bool false, .bool false, .bool false, .bool false, .bool false, .bool false, .bool false, .bool false, .bool false, .bool false, .bool false, .bool false, .bool false, .bool false, .bool false, .bool false, .bool false, .bool false, .bool false, .bool false, .bool false, .bool false, .bool false, .bool false, .bool false, .bool false, .bool false, .bool false, .bool false, .bool false, .bool false, .bool false, .bool false, .bool false, .bool false, .bool false, .bool false, .bool false, .bool false, .bool false, .bool false, .bool false, .bool false, .bool false, .bool false, .bool false, .bool false, .bool false, .bool false, .bool false, .bool false, .bool false, .bool false, .bool false, .bool false, .bool false, .bool false, .bool false, .bool false, .bool false, .bool false, .bool false, .bool false, .bool false, .bool false, .bool false, .bool false, .bool false, .bool false, .bool false, .bool false, .bool false, .bool false, .bool false, .bool false, .bool false, .bool false, .bool false, .bool false, .bool false, .bool false, .bool false, .bool false, .bool false, .bool false, .bool false, .bool false, .bool false, .bool false, .bool false, .bool false, .bool false, .bool false, .bool false, .bool false, .bool false, .bool false, .bool false, .bool false, .bool false, .bool false, .bool false, .bool false, .bool false, .bool false, .bool false, .bool false, .bool false, .bool false, .bool false, .bool false, .bool false, .bool false, .bool false, .bool false, .bool false, .bool false, .bool false, .bool false, .bool false, .bool false, .bool false, .bool false, .bool false, .bool false, .bool false, .bool false, .bool false, .bool false, .bool false, .bool false, .bool false, .bool false, .bool false, .bool false, .bool false, .bool false, .bool false, .bool false, .bool false, .bool false, .bool false, .bool false, .bool false, .bool false, .bool false, .bool false, .bool false, .bool false, .bool false, .bool false, .bool false, .bool false, .bool false, .bool false, .bool false, .bool false, .bool false, .bool false, .bool false, .bool false, .bool false, .bool false, .bool false, .bool false, .bool false, .bool false, .bool false, .bool false, .bool false, .bool false, .bool false, .bool false, .bool false, .bool false, .bool false, .bool false, .bool false, .bool false, .bool false, .bool false, .bool false, .bool false, .bool false, .bool false, .bool false, .bool false, .bool false]⟩),
 (230, ⟨1, 8, .int .i64, [.int .i64 0]⟩),
 (241, ⟨24, 24, .array 24 5, [.int .u8 0, .int .u8 0, .int .u8 0, .int .u8 0, .int .u8 0, .int .u8 0, .int .u8 0, .int .u8 0, .int .u8 0, .int .u8 0, .int .u8 0, .int .u8 0, .int .u8 0, .int .u8 0, .int .u8 0, .int .u8 0, .int .u8 0, .int .u8 0, .int .u8 0, .int .u8 0, .int .u8 0, .int .u8 0, .int .u8 0, .int .u8 0]⟩),
 (242, ⟨1, 8, .int .u64, [.int .u64 0]⟩),
 (249, ⟨1, 8, .int .u64, [.int .u64 0]⟩),
 (251, ⟨3, 48, .struct [(0, 9), (1, 9), (2, 146)], [.str [], .str [], .niliface]⟩),
 (255, ⟨20, 160, .array 20 242, [.int .u64 0, .int .u64 0, .int .u64 0, .int .u64 0, .int .u64 0, .int .u64 0, .int .u64 0, .int .u64 0, .int .u64 0, .int .u64 0, .int .u64 0, .int .u64 0, .int .u64 0, .int .u64 0, .int .u64 0, .int .u64 0, .int .u64 0, .int .u64 0, .int .u64 0, .int .u64 0]⟩),
 (256, ⟨1, 4, .int .u32, [.int .u32 0]⟩),
 (257, ⟨65, 65, .array 65 5, [.int .u8 0, .int .u8 0, .int .u8 0, .int .u8 0, .int .u8 0, .int .u8 0, .int .u8 0, .int .u8 0, .int .u8 0, .int .u8 0, .int .u8 0, .int .u8 0, .int .u8 0, .int .u8 0, .int .u8 0, .int .u8 0, .int .u8 0, .int .u8 0, .int .u8 0, .int .u8 0, .int .u8 0, .int .u8 0, .int .u8 0, .int .u8 0, .int .u8 0, .int .u8 0, .int .u8 0, .int .u8 0, .int .u8 0, .int .u8 0, .int .u8 0, .int .u8 0, .int .u8 0, .int .u8 0, .int .u8 0, .int .u8 0, .int .u8 0, .int .u8 0, .int .u8 0, .int .u8 0, .int .u8 0, .int .u8 0, .int .u8 0, .int .u8 0, .int .u8 0, .int .u8 0, .int .u8 0, .int .u8 0, .int .u8 0, .int .u8 0, .int .u8 0, .int .u8 0, .int .u8 0, .int .u8 0, .int .u8 0, .int .u8 0, .int .u8 0, .int .u8 0, .int .u8 0, .int .u8 0, .int .u8 0, .int .u8 0, .int .u8 0, .int .u8 0, .int .u8 0]⟩),
 (260, ⟨1, 8, .pointer, [.nilp]⟩),
 (262, ⟨1, 16, .struct [(0, 9)], [.str []]⟩),
 (263, ⟨256, 256, .array 256 5, [.int .u8 0, .int .u8 0, .int .u8 0, .int .u8 0, .int .u8 0, .int .u8 0, .int .u8 0, .int .u8 0, .int .u8 0, .int .u8 0, .int .u8 0, .int .u8 0, .int .u8 0, .int .u8 0, .int .u8 0, .int .u8 0, .int .u8 0, .int .u8 0, .int .u8 0, .int .u8 0, .int .u8 0, .int .u8 0, .int .u8 0, .int .u8 0, .int .u8 0, .int .u8 0, .int .u8 0, .int .u8 0, .int .u8 0, .int .u8 0, .int .u8 0, .int .u8 0, .int .u8 0, .int .u8 0, .int .u8 0, .int .u8 0, .int .u8 0, .int .u8 0, .int .u8 0, .int .u8 0, .int .u8 0, .int .u8 0, .int .u8 0, .int .u8 0, .int .u8 0, .int .u8 0, .int .u8 0, .int .u8 0, .int .u8 0, .int .u8 0, .int .u8 0, .int .u8 0, .int .u8 0, .int .u8 0, .int .u8 0, .int .u8 0, .int .u8 0, .int .u8 0, .int .u8 0, .int .u8 0, .int .u8 0, .int .u8 0, .int .u8 0, .int .u8 0, .int .u8 0, .int .u8 0, .int .u8 0, .int .u8 0, .int .u8 0, .int .u8 0, .int .u8 0, .int .u8 0, .int .u8 0, .int .u8 0, .int .u8 0, .int .u8 0, .int .u8 0, .int .u8 0, .int .u8 0, .int .u8 0, .int .u8 0, .int .u8 0, .int .u8 0, .int .u8 0, .int .u8 0, .int .u8 0, .int .u8 0, .int .u8 0, .int .u8 0, .int .u8 0, .int .u8 0, .int .u8 0, .int .u8 0, .int .u8 0, .int .u8 0, .int .u8 0, .int .u8 0, .int .u8 0, .int .u8 0, .int .u8 0, .int .u8 0, .int .u8 0, .int .u8 0, .int .u8 0, .int .u8 0, .int .u8 0, .int .u8 0, .int .u8 0, .int .u8 0, .int .u8 0, .int .u8 0, .int .u8 0, .int .u8 0, .int .u8 0, .int .u8 0, .int .u8 0, .int .u8 0, .int .u8 0, .int .u8 0, .int .u8 0, .int .u8 0, .int .u8 0, .int .u8 0, .int .u8 0, .int .u8 0, .int .u8 0, .int .u8 0, .int .u8 0, .int .u8 0, .int .u8 0, .int .u8 0, .int .u8 0, .int .u8 0, .int .u8 0, .int .u8 0, .int .u8 0, .int .u8 0, .int .u8 0, .int .u8 0, .int .u8 0, .int .u8 0, .int .u8 0, .int .u8 0, .int .u8 0, .int .u8 0, .int .u8 0, .int .u8 0, .int .u8 0, .int .u8 0, .int .u8 0, .int .u8 0, .int .u8 0, .int .u8 0, .int .u8 0, .int .u8 0, .int .u8 0, .int .u8 0, .int .u8 0, .int .u8 0, .int .u8 0, .int .u8 0, .int .u8 0, .int .u8 0, .int .u8 0, .int .u8 0, .int .u8 0, .int .u8 0, .int .u8 0, .int .u8 0, .int .u8 0, .int .u8 0, .int .u8 0, .int .u8 0, .int .u8 0, .int .u8 0, .int .u8 0, .int .u8 0, .int .u8 0, .int .u8 0, .int .u8 0, .int .u8 0, .int .u8 0, .int .u8 0, .int .u8 0, .int .u8 0, .int .u8 0, .int .u8 0, .int .u8 0, .int .u8 0, .int .u8 0, .int .u8 0, .int .u8 0, .int .u8 0, .int .u8 0, .int .u8 0, .int .u8 0, .int .u8 0, .int .u8 0, .int .u8 0, .int .u8 0, .int .u8 0, .int .u8 0, .int .u8 0, .int .u8 0, .int .u8 0, .int .u8 0, .int .u8 0, .int .u8 0, .int .u8 0, .int .u8 0, .int .u8 0, .int .u8 0, .int .u8 0, .int .u8 0, .int .u8 0, .int .u8 0, .int .u8 0, .int .u8 0, .int .u8 0, .int .u8 0, .int .u8 0, .int .u8 0, .int .u8 0, .int .u8 0, .int .u8 0, .int .u8 0, .int .u8 0, .int .u8 0, .int .u8 0, .int .u8 0, .int .u8 0, .int .u8 0, .int .u8 0, .int .u8 0, .int .u8 0, .int .u8 0, .int .u8 0, .int .u8 0, .int .u8 0, .int .u8 0, .int .u8 0, .int .u8 0, .int .u8 0, .int .u8 0, .int .u8 0, .int .u8 0, .int .u8 0, .int .u8 0, .int .u8 0, .int .u8 0, .int .u8 0, .int .u8 0, .int .u8 0, .int .u8 0, .int .u8 0, .int .u8 0]⟩),
 (270, ⟨32, 32, .array 32 5, [.int .u8 0, .int .u8 0, .int .u8 0, .int .u8 0, .int .u8 0, .int .u8 0, .int .u8 0, .int .u8 0, .int .u8 0, .int .u8 0, .int .u8 0, .int .u8 0, .int .u8 0, .int .u8 0, .int .u8 0, .int .u8 0, .int .u8 0, .int .u8 0, .int .u8 0, .int .u8 0, .int .u8 0, .int .u8 0, .int .u8 0, .int .u8 0, .int .u8 0, .int .u8 0, .int .u8 0, .int .u8 0, .int .u8 0, .int .u8 0, .int .u8 0, .int .u8 0]⟩),
 (271, ⟨64, 64, .array 64 5, [.int .u8 0, .int .u8 0, .int .u8 0, .int .u8 0, .int .u8 0, .int .u8 0, .int .u8 0, .int .u8 0, .int .u8 0, .int .u8 0, .int .u8 0, .int .u8 0, .int .u8 0, .int .u8 0, .int .u8 0, .int .u8 0, .int .u8 0, .int .u8 0, .int .u8 0, .int .u8 0, .int .u8 0, .int .u8 0, .int .u8 0, .int .u8 0, .int .u8 0, .int .u8 0, .int .u8 0, .int .u8 0, .int .u8 0, .int .u8 0, .int .u8 0, .int .u8 0, .int .u8 0, .int .u8 0, .int .u8 0, .int .u8 0, .int .u8 0, .int .u8 0, .int .u8 0, .int .u8 0, .int .u8 0, .int .u8 0, .int .u8 0, .int .u8 0, .int .u8 0, .int .u8 0, .int .u8 0, .int .u8 0, .int .u8 0, .int .u8 0, .int .u8 0, .int .u8 0, .int .u8 0, .int .u8 0, .int .u8 0, .int .u8 0, .int .u8 0, .int .u8 0, .int .u8 0, .int .u8 0, .int .u8 0, .int .u8 0, .int .u8 0, .int .u8 0]⟩)]
abbrev TT : TypeId → Option TD := tyTab tab
theorem tyOK : TyOK prog TT := tyTab_ok (by kernel_rfl)
theorem mixed : prog.follows .mixedOrders = true := by kernel_rfl
abbrev ty_string : TypeId := 9
abbrev ty_impl_halt : TypeId := 107
abbrev ty_strconv_Error : TypeId := 230
abbrev ty_errors_errorString : TypeId := 260
abbrev n_main_main : FuncId := 0
abbrev n_gosem_cut : FuncId := 1
abbrev n_gosem_cut_init : FuncId := 2
abbrev n_laws_FnExactSimpleSig : FuncId := 3
abbrev n_laws_FnExactNeeds : FuncId := 4
abbrev n_laws_FnExactParseTerm : FuncId := 5
abbrev n_laws_FnExactSigText : FuncId := 6
abbrev n_laws_FnExactParseFamily : FuncId := 7
abbrev n_laws_FnExactCalcSig : FuncId := 8
abbrev n_laws_FnExactLogicSig : FuncId := 9
abbrev n_laws_FnExactReadSig : FuncId := 10
abbrev n_laws_szDeclS : FuncId := 11
abbrev n_spec_SimpleSig : FuncId := 12
abbrev n_laws_toDeclS : FuncId := 13
abbrev n_impl_SimpleSig : FuncId := 14
abbrev n_laws_eqTypedS : FuncId := 15
abbrev n_laws_eqDeclS : FuncId := 16
abbrev n_laws_markDeclS : FuncId := 17
abbrev n_laws_markTypedS : FuncId := 18
abbrev n_laws_heldTypedS : FuncId := 19
abbrev n_spec_Needs : FuncId := 20
abbrev n_impl_Needs : FuncId := 21
abbrev n_laws_eqStringS : FuncId := 22
abbrev n_laws_markStringS : FuncId := 23
abbrev n_laws_heldStringS : FuncId := 24
abbrev n_spec_ParseTerm : FuncId := 25
abbrev n_impl_ParseTerm : FuncId := 26
abbrev n_laws_eqTree : FuncId := 27
abbrev n_laws_markTree : FuncId := 28
abbrev n_laws_heldTree : FuncId := 29
abbrev n_spec_SigText : FuncId := 30
abbrev n_impl_SigText : FuncId := 31
abbrev n_spec_ParseFamily : FuncId := 32
abbrev n_impl_ParseFamily : FuncId := 33
abbrev n_spec_CalcSig : FuncId := 34
abbrev n_impl_CalcSig : FuncId := 35
abbrev n_laws_heldDeclS : FuncId := 36
abbrev n_spec_LogicSig : FuncId := 37
abbrev n_impl_LogicSig : FuncId := 38
abbrev n_spec_ReadSig : FuncId := 39
abbrev n_impl_ReadSig : FuncId := 40
abbrev n_laws_szDecl : FuncId := 41
abbrev n_spec_SigOK : FuncId := 42
abbrev n_spec_l05Simple : FuncId := 43
abbrev n_laws_toDecl : FuncId := 44
abbrev n_impl_longLists : FuncId := 45
abbrev n_impl_SigOK : FuncId := 46
abbrev n_impl_erase : FuncId := 47
abbrev n_laws_eqTyped : FuncId := 48
abbrev n_laws_eqDecl : FuncId := 49
abbrev n_laws_markText : FuncId := 50
abbrev n_laws_markTreeS : FuncId := 51
abbrev n_laws_heldTreeS : FuncId := 52
abbrev n_spec_l04Find : FuncId := 53
abbrev n_spec_l05Names : FuncId := 54
abbrev n_spec_l00Has : FuncId := 55
abbrev n_impl_longText : FuncId := 56
abbrev n_impl_has : FuncId := 57
abbrev n_impl_needs : FuncId := 58
abbrev n_spec_l02Parse : FuncId := 59
abbrev n_impl_parsed : FuncId := 60
abbrev n_impl_ParseTerm_1 : FuncId := 61
abbrev n_impl_parser_term : FuncId := 62
abbrev n_laws_eqTreeS : FuncId := 63
abbrev n_spec_l02Family : FuncId := 64
abbrev n_impl_sigText : FuncId := 65
abbrev n_impl_parser_family : FuncId := 66
abbrev n_spec_l01Fam : FuncId := 67
abbrev n_spec_l01Var : FuncId := 68
abbrev n_spec_l01Type : FuncId := 69
abbrev n_spec_l00Digits : FuncId := 70
abbrev n_spec_l04Neutral : FuncId := 71
abbrev n_spec_l01Lam : FuncId := 72
abbrev n_spec_func2 : FuncId := 73
abbrev n_spec_l01Pi : FuncId := 74
abbrev n_spec_l04Fam : FuncId := 75
abbrev n_impl_builtIn : FuncId := 76
abbrev n_spec_l08Pf : FuncId := 77
abbrev n_spec_l01Const : FuncId := 78
abbrev n_spec_l05Lines : FuncId := 79
abbrev n_spec_l05Empty : FuncId := 80
abbrev n_spec_l05Line : FuncId := 81
abbrev n_spec_l04Decl : FuncId := 82
abbrev n_strings_Lines : FuncId := 83
abbrev n_strings_TrimSuffix : FuncId := 84
abbrev n_impl_says : FuncId := 85
abbrev n_impl_caught : FuncId := 86
abbrev n_impl_ReadSig_1 : FuncId := 87
abbrev n_impl_addLine : FuncId := 88
abbrev n_laws_szTree : FuncId := 89
abbrev n_spec_l01Erase : FuncId := 90
abbrev n_laws_toTree : FuncId := 91
abbrev n_slices_Max_int_int : FuncId := 92
abbrev n_impl_declForm : FuncId := 93
abbrev n_impl_declFault : FuncId := 94
abbrev n_slices_ContainsFunc_impl_Decl_impl_Decl : FuncId := 95
abbrev n_impl_has_1 : FuncId := 96
abbrev n_slices_IndexFunc_impl_Decl_impl_Decl : FuncId := 97
abbrev n_impl_needs_1 : FuncId := 98
abbrev n_impl_namesIn : FuncId := 99
abbrev n_slices_Backward_impl_Decl_impl_Decl : FuncId := 100
abbrev n_slices_Reverse_string_string : FuncId := 101
abbrev n_spec_l02Level : FuncId := 102
abbrev n_spec_l02Parser_family : FuncId := 103
abbrev n_spec_l02Parser_term : FuncId := 104
abbrev n_spec_l02Parser_next : FuncId := 105
abbrev n_spec_l02Parser_fail : FuncId := 106
abbrev n_spec_l01High : FuncId := 107
abbrev n_impl_in : FuncId := 108
abbrev n_impl_parsed_1 : FuncId := 109
abbrev n_impl_parserOf : FuncId := 110
abbrev n_impl_parser_end : FuncId := 111
abbrev n_impl_clone : FuncId := 112
abbrev n_impl_parser_next : FuncId := 113
abbrev n_impl_parser_node : FuncId := 114
abbrev n_impl_parser_binder : FuncId := 115
abbrev n_impl_parser_expect : FuncId := 116
abbrev n_impl_lam : FuncId := 117
abbrev n_impl_parser_under : FuncId := 118
abbrev n_impl_parser_head : FuncId := 119
abbrev n_impl_parser_args : FuncId := 120
abbrev n_spec_l02Spine : FuncId := 121
abbrev n_spec_l01Occurs : FuncId := 122
abbrev n_spec_l01Lift : FuncId := 123
abbrev n_strings_Builder_WriteString : FuncId := 124
abbrev n_impl_familyText : FuncId := 125
abbrev n_strings_Builder_String : FuncId := 126
abbrev n_impl_parser_due : FuncId := 127
abbrev n_impl_pi : FuncId := 128
abbrev n_impl_parser_first : FuncId := 129
abbrev n_impl_parser_byte : FuncId := 130
abbrev n_impl_stop : FuncId := 131
abbrev n_impl_isKind : FuncId := 132
abbrev n_impl_lift : FuncId := 133
abbrev n_spec_l00Cut : FuncId := 134
abbrev n_spec_l02Parser_blanks : FuncId := 135
abbrev n_spec_l02Parser_word : FuncId := 136
abbrev n_spec_NameOK : FuncId := 137
abbrev n_spec_l02Parser_take : FuncId := 138
abbrev n_spec_l01Family : FuncId := 139
abbrev n_spec_KindOK : FuncId := 140
abbrev n_spec_FamilyOK : FuncId := 141
abbrev n_spec_l04Check : FuncId := 142
abbrev n_spec_l04Run_kind : FuncId := 143
abbrev n_spec_l04Run_family : FuncId := 144
abbrev n_strings_Lines_1 : FuncId := 145
abbrev n_strings_IndexByte : FuncId := 146
abbrev n_internal_stringslite_TrimSuffix : FuncId := 147
abbrev n_impl_blankEnd : FuncId := 148
abbrev n_impl_caught_1 : FuncId := 149
abbrev n_impl_readDecl : FuncId := 150
abbrev n_impl_addFault : FuncId := 151
abbrev n_laws_szTreeS : FuncId := 152
abbrev n_spec_l01Arrow : FuncId := 153
abbrev n_spec_l01Base : FuncId := 154
abbrev n_laws_toTreeS : FuncId := 155
abbrev n_impl_NameOK : FuncId := 156
abbrev n_impl_KindOK : FuncId := 157
abbrev n_impl_FamilyOK : FuncId := 158
abbrev n_impl_declFault_1 : FuncId := 159
abbrev n_impl_checker_family : FuncId := 160
abbrev n_impl_Tree_each : FuncId := 161
abbrev n_impl_namesIn_1 : FuncId := 162
abbrev n_slices_Backward_impl_Decl_impl_Decl_1 : FuncId := 163
abbrev n_spec_l02Parser_node : FuncId := 164
abbrev n_spec_l02Parser_binder : FuncId := 165
abbrev n_spec_l02Parser_notKind : FuncId := 166
abbrev n_spec_l02Parser_atom : FuncId := 167
abbrev n_spec_l02Parser_head : FuncId := 168
abbrev n_spec_l02Parser_spine : FuncId := 169
abbrev n_impl_binderName : FuncId := 170
abbrev n_impl_parser_end_1 : FuncId := 171
abbrev n_impl_cloneAll : FuncId := 172
abbrev n_impl_isHead : FuncId := 173
abbrev n_impl_parser_run : FuncId := 174
abbrev n_impl_wordOK : FuncId := 175
abbrev n_impl_parser_hole : FuncId := 176
abbrev n_impl_parser_bound : FuncId := 177
abbrev n_impl_variable : FuncId := 178
abbrev n_impl_constant : FuncId := 179
abbrev n_impl_parser_argument : FuncId := 180
abbrev n_spec_l02Bare : FuncId := 181
abbrev n_spec_l02Term : FuncId := 182
abbrev n_spec_l01Under : FuncId := 183
abbrev n_spec_l01With : FuncId := 184
abbrev n_strings_Builder_copyCheck : FuncId := 185
abbrev n_impl_termText : FuncId := 186
abbrev n_impl_occurs : FuncId := 187
abbrev n_impl_lower : FuncId := 188
abbrev n_impl_turned : FuncId := 189
abbrev n_impl_lift_1 : FuncId := 190
abbrev n_spec_l00Letter : FuncId := 191
abbrev n_spec_l00Digit : FuncId := 192
abbrev n_spec_l00Word : FuncId := 193
abbrev n_spec_l01Terms : FuncId := 194
abbrev n_spec_l01Small : FuncId := 195
abbrev n_spec_l01Kind : FuncId := 196
abbrev n_spec_l04More : FuncId := 197
abbrev n_spec_l01Size : FuncId := 198
abbrev n_spec_l04Run_fail : FuncId := 199
abbrev n_spec_l04Run_spine : FuncId := 200
abbrev n_internal_stringslite_IndexByte : FuncId := 201
abbrev n_internal_stringslite_HasSuffix : FuncId := 202
abbrev n_strings_CutPrefix : FuncId := 203
abbrev n_impl_over : FuncId := 204
abbrev n_impl_fresh : FuncId := 205
abbrev n_impl_looker_family : FuncId := 206
abbrev n_impl_behind : FuncId := 207
abbrev n_impl_Size : FuncId := 208
abbrev n_impl_checker_declared : FuncId := 209
abbrev n_impl_checker_args : FuncId := 210
abbrev n_impl_Tree_under : FuncId := 211
abbrev n_spec_l02Parser_number : FuncId := 212
abbrev n_strconv_Itoa : FuncId := 213
abbrev n_strconv_Atoi : FuncId := 214
abbrev n_slices_Backward_string_string : FuncId := 215
abbrev n_spec_l01Binds : FuncId := 216
abbrev n_internal_abi_NoEscape : FuncId := 217
abbrev n_impl_headText : FuncId := 218
abbrev n_impl_occurs_1 : FuncId := 219
abbrev n_spec_l01Term : FuncId := 220
abbrev n_spec_l01Count : FuncId := 221
abbrev n_spec_l04Run_term : FuncId := 222
abbrev n_spec_l03Run_sub : FuncId := 223
abbrev n_internal_bytealg_IndexByteString : FuncId := 224
abbrev n_internal_stringslite_CutPrefix : FuncId := 225
abbrev n_strings_Trim : FuncId := 226
abbrev n_impl_looker_node : FuncId := 227
abbrev n_impl_Tree_bare : FuncId := 228
abbrev n_impl_looker_args : FuncId := 229
abbrev n_slices_Clip_impl_Tree_impl_Tree : FuncId := 230
abbrev n_impl_checker_declared_1 : FuncId := 231
abbrev n_impl_checker_term : FuncId := 232
abbrev n_impl_checker_left : FuncId := 233
abbrev n_impl_Tree_binds : FuncId := 234
abbrev n_internal_strconv_Itoa : FuncId := 235
abbrev n_internal_strconv_Atoi : FuncId := 236
abbrev n_strconv_toError : FuncId := 237
abbrev n_slices_Backward_string_string_1 : FuncId := 238
abbrev n_spec_l04Run_synth : FuncId := 239
abbrev n_spec_l01Same : FuncId := 240
abbrev n_spec_l03Big : FuncId := 241
abbrev n_spec_l03Run_reduce : FuncId := 242
abbrev n_internal_stringslite_HasPrefix : FuncId := 243
abbrev n_strings_trimLeftByte : FuncId := 244
abbrev n_strings_trimRightByte : FuncId := 245
abbrev n_strings_makeASCIISet : FuncId := 246
abbrev n_strings_trimLeftASCII : FuncId := 247
abbrev n_strings_trimRightASCII : FuncId := 248
abbrev n_strings_trimLeftUnicode : FuncId := 249
abbrev n_strings_trimRightUnicode : FuncId := 250
abbrev n_impl_looker_term : FuncId := 251
abbrev n_impl_same : FuncId := 252
abbrev n_impl_checker_found : FuncId := 253
abbrev n_impl_at : FuncId := 254
abbrev n_impl_checker_left_1 : FuncId := 255
abbrev n_impl_work_put : FuncId := 256
abbrev n_internal_strconv_FormatInt : FuncId := 257
abbrev n_internal_strconv_ParseInt : FuncId := 258
abbrev n_strconv_syntaxError : FuncId := 259
abbrev n_strconv_rangeError : FuncId := 260
abbrev n_strconv_baseError : FuncId := 261
abbrev n_strconv_bitSizeError : FuncId := 262
abbrev n_spec_l04Run_head : FuncId := 263
abbrev n_spec_l01Copy : FuncId := 264
abbrev n_strings_asciiSet_contains : FuncId := 265
abbrev n_unicode_utf8_DecodeRuneInString : FuncId := 266
abbrev n_strings_ContainsRune : FuncId := 267
abbrev n_unicode_utf8_DecodeLastRuneInString : FuncId := 268
abbrev n_impl_checker_head : FuncId := 269
abbrev n_impl_work_apply : FuncId := 270
abbrev n_impl_formed : FuncId := 271
abbrev n_internal_strconv_small : FuncId := 272
abbrev n_internal_strconv_numDigits : FuncId := 273
abbrev n_internal_strconv_formatBase10 : FuncId := 274
abbrev n_internal_strconv_formatBits : FuncId := 275
abbrev n_internal_strconv_ParseUint : FuncId := 276
abbrev n_internal_stringslite_Clone : FuncId := 277
abbrev n_errors_New : FuncId := 278
abbrev n_unicode_utf8_decodeRuneInStringSlow : FuncId := 279
abbrev n_strings_IndexRune : FuncId := 280
abbrev n_unicode_utf8_RuneStart : FuncId := 281
abbrev n_impl_tooBig : FuncId := 282
abbrev n_internal_strconv_log10Pow2 : FuncId := 283
abbrev n_math_bits_Len64 : FuncId := 284
abbrev n_internal_strconv_bool2_int : FuncId := 285
abbrev n_internal_strconv_isPowerOfTwo : FuncId := 286
abbrev n_math_bits_TrailingZeros : FuncId := 287
abbrev n_internal_strconv_lower : FuncId := 288
abbrev n_internal_strconv_underscoreOK : FuncId := 289
abbrev n_unicode_utf8_ValidRune : FuncId := 290
abbrev n_internal_bytealg_Cutover : FuncId := 291
abbrev n_internal_bytealg_IndexString : FuncId := 292
abbrev n_impl_tooBig_1 : FuncId := 293
abbrev n_math_bits_TrailingZeros32 : FuncId := 294
abbrev n_math_bits_TrailingZeros64 : FuncId := 295
abbrev n_runtime_boundsError_Error : FuncId := 296
abbrev n_runtime_boundsError_RuntimeError : FuncId := 297
abbrev n_runtime_errorString_Error : FuncId := 298
abbrev n_runtime_errorString_RuntimeError : FuncId := 299
abbrev n_runtime_plainError_Error : FuncId := 300
abbrev n_runtime_plainError_RuntimeError : FuncId := 301
abbrev n_runtime_errorAddressString_Error : FuncId := 302
abbrev n_runtime_errorAddressString_RuntimeError : FuncId := 303
abbrev n_runtime_TypeAssertionError_Error : FuncId := 304
abbrev n_runtime_TypeAssertionError_RuntimeError : FuncId := 305
abbrev n_runtime_PanicNilError_Error : FuncId := 306
abbrev n_runtime_PanicNilError_RuntimeError : FuncId := 307
abbrev n_internal_abi_Type_Align : FuncId := 308
abbrev n_internal_runtime_maps_unhashableTypeError_Error : FuncId := 309
abbrev n_internal_runtime_maps_unhashableTypeError_RuntimeError : FuncId := 310
abbrev n_strings_Builder_Reset : FuncId := 311
abbrev n_internal_strconv_Error_Error : FuncId := 312
abbrev n_strconv_NumError_Error : FuncId := 313
abbrev n_impl_work_fill : FuncId := 314
abbrev n_errors_errorString_Error : FuncId := 315
abbrev n_internal_abi_Kind_String : FuncId := 316
abbrev n_var_s_door_gosem_cut_vars_holds_initialisers_alone_see_the_manifest_s_row_cutvarsword_look_11_test_files_too : FuncId := 317
abbrev n_var_s_door_internal_strconv_uint64pow10_is_laid_by_its_own_initialiser_plain_data_look_11 : FuncId := 318
abbrev n_var_s_door_math_bits_deBruijn32tab_is_laid_by_its_own_initialiser_plain_data_look_11 : FuncId := 319
abbrev n_var_s_door_math_bits_deBruijn64tab_is_laid_by_its_own_initialiser_plain_data_look_11 : FuncId := 320
abbrev n_var_s_door_strconv_ErrRange_is_laid_by_its_own_call_of_errors_New_on_one_literal_look_11 : FuncId := 321
abbrev n_var_s_door_strconv_ErrSyntax_is_laid_by_its_own_call_of_errors_New_on_one_literal_look_11 : FuncId := 322
abbrev n_var_s_door_the_look_of_gosem_cut_vars_went_over_the_folder_that_the_caller_named_as_the_repository_s_root_look_11 : FuncId := 323
abbrev n_var_s_door_unicode_utf8_acceptRanges_is_laid_by_its_own_initialiser_plain_data_look_11 : FuncId := 324
abbrev n_var_s_door_unicode_utf8_first_is_laid_by_its_text_alone_pinned_1 : FuncId := 325
abbrev n_gosem_cut_vars : FuncId := 326
end Go.H.Tryz
