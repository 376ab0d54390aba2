/- Closed facts on the program's table of types. -/
import Derived.Test.YtenpjhnppaipbaaProg
import Derived.Test.YtenpjhnppaipbaaB3
set_option linter.unusedSimpArgs false
set_option linter.unusedVariables false
set_option linter.unusedSectionVars false
set_option linter.deprecated false
namespace Go.Mw
open Go.Proofs
@[go_sem] theorem f_tySize_3 : tySize Try.prog 3 = some 1 := by kernel_rfl
@[go_sem] theorem f_tyBytes_3 : tyBytes Try.prog 3 = some 8 := by kernel_rfl
@[go_sem] theorem f_tyAg_3 : tyAg Try.prog 3 = some false := by kernel_rfl
@[go_sem] theorem f_tyEl_3 : tyEl Try.prog 3 = none := by kernel_rfl
@[go_sem] theorem f_tyInt_3 : tyInt Try.prog 3 = some IntKind.i64 := by kernel_rfl
@[go_sem] theorem f_tyStr_3 : tyStr Try.prog 3 = false := by kernel_rfl
@[go_sem] theorem f_tyBool_3 : tyBool Try.prog 3 = false := by kernel_rfl
@[go_sem] theorem f_tyArr_3 : tyArr Try.prog 3 = none := by kernel_rfl
@[go_sem] theorem f_tyArrA_3 : tyArrA Try.prog 3 = none := by kernel_rfl
@[go_sem] theorem f_tyInts_3 : tyInts Try.prog 3 = none := by kernel_rfl
@[go_sem] theorem f_tyPlaces_3 : tyPlaces Try.prog 3 = none := by kernel_rfl
@[go_sem] theorem f_zeroLs_3 : zeroLs Try.prog 3 = some (false, [D.raw (Value.int IntKind.i64 (0))]) := by kernel_rfl
@[go_sem] theorem f_tySize_4 : tySize Try.prog 4 = some 1 := by kernel_rfl
@[go_sem] theorem f_tyBytes_4 : tyBytes Try.prog 4 = some 1 := by kernel_rfl
@[go_sem] theorem f_tyAg_4 : tyAg Try.prog 4 = some false := by kernel_rfl
@[go_sem] theorem f_tyEl_4 : tyEl Try.prog 4 = none := by kernel_rfl
@[go_sem] theorem f_tyInt_4 : tyInt Try.prog 4 = none := by kernel_rfl
@[go_sem] theorem f_tyStr_4 : tyStr Try.prog 4 = false := by kernel_rfl
@[go_sem] theorem f_tyBool_4 : tyBool Try.prog 4 = true := by kernel_rfl
@[go_sem] theorem f_tyArr_4 : tyArr Try.prog 4 = none := by kernel_rfl
@[go_sem] theorem f_tyArrA_4 : tyArrA Try.prog 4 = none := by kernel_rfl
@[go_sem] theorem f_tyInts_4 : tyInts Try.prog 4 = none := by kernel_rfl
@[go_sem] theorem f_tyPlaces_4 : tyPlaces Try.prog 4 = none := by kernel_rfl
@[go_sem] theorem f_zeroLs_4 : zeroLs Try.prog 4 = some (false, [D.raw (Value.bool false)]) := by kernel_rfl
@[go_sem] theorem f_tySize_5 : tySize Try.prog 5 = some 1 := by kernel_rfl
@[go_sem] theorem f_tyBytes_5 : tyBytes Try.prog 5 = some 1 := by kernel_rfl
@[go_sem] theorem f_tyAg_5 : tyAg Try.prog 5 = some false := by kernel_rfl
@[go_sem] theorem f_tyEl_5 : tyEl Try.prog 5 = none := by kernel_rfl
@[go_sem] theorem f_tyInt_5 : tyInt Try.prog 5 = some IntKind.u8 := by kernel_rfl
@[go_sem] theorem f_tyStr_5 : tyStr Try.prog 5 = false := by kernel_rfl
@[go_sem] theorem f_tyBool_5 : tyBool Try.prog 5 = false := by kernel_rfl
@[go_sem] theorem f_tyArr_5 : tyArr Try.prog 5 = none := by kernel_rfl
@[go_sem] theorem f_tyArrA_5 : tyArrA Try.prog 5 = none := by kernel_rfl
@[go_sem] theorem f_tyInts_5 : tyInts Try.prog 5 = none := by kernel_rfl
@[go_sem] theorem f_tyPlaces_5 : tyPlaces Try.prog 5 = none := by kernel_rfl
@[go_sem] theorem f_zeroLs_5 : zeroLs Try.prog 5 = some (false, [D.raw (Value.int IntKind.u8 (0))]) := by kernel_rfl
@[go_sem] theorem f_tySize_9 : tySize Try.prog 9 = some 1 := by kernel_rfl
@[go_sem] theorem f_tyBytes_9 : tyBytes Try.prog 9 = some 16 := by kernel_rfl
@[go_sem] theorem f_tyAg_9 : tyAg Try.prog 9 = some false := by kernel_rfl
@[go_sem] theorem f_tyEl_9 : tyEl Try.prog 9 = none := by kernel_rfl
@[go_sem] theorem f_tyInt_9 : tyInt Try.prog 9 = none := by kernel_rfl
@[go_sem] theorem f_tyStr_9 : tyStr Try.prog 9 = true := by kernel_rfl
@[go_sem] theorem f_tyBool_9 : tyBool Try.prog 9 = false := by kernel_rfl
@[go_sem] theorem f_tyArr_9 : tyArr Try.prog 9 = none := by kernel_rfl
@[go_sem] theorem f_tyArrA_9 : tyArrA Try.prog 9 = none := by kernel_rfl
@[go_sem] theorem f_tyInts_9 : tyInts Try.prog 9 = none := by kernel_rfl
@[go_sem] theorem f_tyPlaces_9 : tyPlaces Try.prog 9 = none := by kernel_rfl
@[go_sem] theorem f_zeroLs_9 : zeroLs Try.prog 9 = some (false, [D.raw (Value.string { data := { toList := [] } })]) := by kernel_rfl
@[go_sem] theorem f_tySize_23 : tySize Try.prog 23 = some 2 := by kernel_rfl
@[go_sem] theorem f_tyBytes_23 : tyBytes Try.prog 23 = some 16 := by kernel_rfl
@[go_sem] theorem f_tyAg_23 : tyAg Try.prog 23 = some true := by kernel_rfl
@[go_sem] theorem f_tyEl_23 : tyEl Try.prog 23 = none := by kernel_rfl
@[go_sem] theorem f_tyInt_23 : tyInt Try.prog 23 = none := by kernel_rfl
@[go_sem] theorem f_tyStr_23 : tyStr Try.prog 23 = false := by kernel_rfl
@[go_sem] theorem f_tyBool_23 : tyBool Try.prog 23 = false := by kernel_rfl
@[go_sem] theorem f_tyArr_23 : tyArr Try.prog 23 = none := by kernel_rfl
@[go_sem] theorem f_tyArrA_23 : tyArrA Try.prog 23 = none := by kernel_rfl
@[go_sem] theorem f_tyInts_23 : tyInts Try.prog 23 = some 2 := by kernel_rfl
@[go_sem] theorem f_tyPlaces_23 : tyPlaces Try.prog 23 = some [(0, 1), (1, 1)] := by kernel_rfl
@[go_sem] theorem f_zeroLs_23 : zeroLs Try.prog 23 = some (true, [D.raw (Value.int IntKind.i64 (0)), D.raw (Value.int IntKind.i64 (0))]) := by kernel_rfl
@[go_sem] theorem f_tySize_24 : tySize Try.prog 24 = some 1 := by kernel_rfl
@[go_sem] theorem f_tyBytes_24 : tyBytes Try.prog 24 = some 24 := by kernel_rfl
@[go_sem] theorem f_tyAg_24 : tyAg Try.prog 24 = some false := by kernel_rfl
@[go_sem] theorem f_tyEl_24 : tyEl Try.prog 24 = some 3 := by kernel_rfl
@[go_sem] theorem f_tyInt_24 : tyInt Try.prog 24 = none := by kernel_rfl
@[go_sem] theorem f_tyStr_24 : tyStr Try.prog 24 = false := by kernel_rfl
@[go_sem] theorem f_tyBool_24 : tyBool Try.prog 24 = false := by kernel_rfl
@[go_sem] theorem f_tyArr_24 : tyArr Try.prog 24 = none := by kernel_rfl
@[go_sem] theorem f_tyArrA_24 : tyArrA Try.prog 24 = none := by kernel_rfl
@[go_sem] theorem f_tyInts_24 : tyInts Try.prog 24 = none := by kernel_rfl
@[go_sem] theorem f_tyPlaces_24 : tyPlaces Try.prog 24 = none := by kernel_rfl
@[go_sem] theorem f_zeroLs_24 : zeroLs Try.prog 24 = some (false, [D.raw (Value.slice none 0 0)]) := by kernel_rfl
@[go_sem] theorem f_tySize_26 : tySize Try.prog 26 = some 1 := by kernel_rfl
@[go_sem] theorem f_tyBytes_26 : tyBytes Try.prog 26 = some 8 := by kernel_rfl
@[go_sem] theorem f_tyAg_26 : tyAg Try.prog 26 = some false := by kernel_rfl
@[go_sem] theorem f_tyEl_26 : tyEl Try.prog 26 = none := by kernel_rfl
@[go_sem] theorem f_tyInt_26 : tyInt Try.prog 26 = some IntKind.i64 := by kernel_rfl
@[go_sem] theorem f_tyStr_26 : tyStr Try.prog 26 = false := by kernel_rfl
@[go_sem] theorem f_tyBool_26 : tyBool Try.prog 26 = false := by kernel_rfl
@[go_sem] theorem f_tyArr_26 : tyArr Try.prog 26 = none := by kernel_rfl
@[go_sem] theorem f_tyArrA_26 : tyArrA Try.prog 26 = none := by kernel_rfl
@[go_sem] theorem f_tyInts_26 : tyInts Try.prog 26 = none := by kernel_rfl
@[go_sem] theorem f_tyPlaces_26 : tyPlaces Try.prog 26 = none := by kernel_rfl
@[go_sem] theorem f_zeroLs_26 : zeroLs Try.prog 26 = some (false, [D.raw (Value.int IntKind.i64 (0))]) := by kernel_rfl
@[go_sem] theorem f_tySize_35 : tySize Try.prog 35 = some 1 := by kernel_rfl
@[go_sem] theorem f_tyBytes_35 : tyBytes Try.prog 35 = some 24 := by kernel_rfl
@[go_sem] theorem f_tyAg_35 : tyAg Try.prog 35 = some false := by kernel_rfl
@[go_sem] theorem f_tyEl_35 : tyEl Try.prog 35 = some 45 := by kernel_rfl
@[go_sem] theorem f_tyInt_35 : tyInt Try.prog 35 = none := by kernel_rfl
@[go_sem] theorem f_tyStr_35 : tyStr Try.prog 35 = false := by kernel_rfl
@[go_sem] theorem f_tyBool_35 : tyBool Try.prog 35 = false := by kernel_rfl
@[go_sem] theorem f_tyArr_35 : tyArr Try.prog 35 = none := by kernel_rfl
@[go_sem] theorem f_tyArrA_35 : tyArrA Try.prog 35 = none := by kernel_rfl
@[go_sem] theorem f_tyInts_35 : tyInts Try.prog 35 = none := by kernel_rfl
@[go_sem] theorem f_tyPlaces_35 : tyPlaces Try.prog 35 = none := by kernel_rfl
@[go_sem] theorem f_zeroLs_35 : zeroLs Try.prog 35 = some (false, [D.raw (Value.slice none 0 0)]) := by kernel_rfl
@[go_sem] theorem f_tySize_40 : tySize Try.prog 40 = some 1 := by kernel_rfl
@[go_sem] theorem f_tyBytes_40 : tyBytes Try.prog 40 = some 2 := by kernel_rfl
@[go_sem] theorem f_tyAg_40 : tyAg Try.prog 40 = some false := by kernel_rfl
@[go_sem] theorem f_tyEl_40 : tyEl Try.prog 40 = none := by kernel_rfl
@[go_sem] theorem f_tyInt_40 : tyInt Try.prog 40 = some IntKind.u16 := by kernel_rfl
@[go_sem] theorem f_tyStr_40 : tyStr Try.prog 40 = false := by kernel_rfl
@[go_sem] theorem f_tyBool_40 : tyBool Try.prog 40 = false := by kernel_rfl
@[go_sem] theorem f_tyArr_40 : tyArr Try.prog 40 = none := by kernel_rfl
@[go_sem] theorem f_tyArrA_40 : tyArrA Try.prog 40 = none := by kernel_rfl
@[go_sem] theorem f_tyInts_40 : tyInts Try.prog 40 = none := by kernel_rfl
@[go_sem] theorem f_tyPlaces_40 : tyPlaces Try.prog 40 = none := by kernel_rfl
@[go_sem] theorem f_zeroLs_40 : zeroLs Try.prog 40 = some (false, [D.raw (Value.int IntKind.u16 (0))]) := by kernel_rfl
@[go_sem] theorem f_tySize_45 : tySize Try.prog 45 = some 2 := by kernel_rfl
@[go_sem] theorem f_tyBytes_45 : tyBytes Try.prog 45 = some 16 := by kernel_rfl
@[go_sem] theorem f_tyAg_45 : tyAg Try.prog 45 = some true := by kernel_rfl
@[go_sem] theorem f_tyEl_45 : tyEl Try.prog 45 = none := by kernel_rfl
@[go_sem] theorem f_tyInt_45 : tyInt Try.prog 45 = none := by kernel_rfl
@[go_sem] theorem f_tyStr_45 : tyStr Try.prog 45 = false := by kernel_rfl
@[go_sem] theorem f_tyBool_45 : tyBool Try.prog 45 = false := by kernel_rfl
@[go_sem] theorem f_tyArr_45 : tyArr Try.prog 45 = none := by kernel_rfl
@[go_sem] theorem f_tyArrA_45 : tyArrA Try.prog 45 = none := by kernel_rfl
@[go_sem] theorem f_tyInts_45 : tyInts Try.prog 45 = some 2 := by kernel_rfl
@[go_sem] theorem f_tyPlaces_45 : tyPlaces Try.prog 45 = some [(0, 1), (1, 1)] := by kernel_rfl
@[go_sem] theorem f_zeroLs_45 : zeroLs Try.prog 45 = some (true, [D.raw (Value.int IntKind.i64 (0)), D.raw (Value.int IntKind.i64 (0))]) := by kernel_rfl
@[go_sem] theorem f_tySize_47 : tySize Try.prog 47 = some 1 := by kernel_rfl
@[go_sem] theorem f_tyBytes_47 : tyBytes Try.prog 47 = some 4 := by kernel_rfl
@[go_sem] theorem f_tyAg_47 : tyAg Try.prog 47 = some false := by kernel_rfl
@[go_sem] theorem f_tyEl_47 : tyEl Try.prog 47 = none := by kernel_rfl
@[go_sem] theorem f_tyInt_47 : tyInt Try.prog 47 = some IntKind.u32 := by kernel_rfl
@[go_sem] theorem f_tyStr_47 : tyStr Try.prog 47 = false := by kernel_rfl
@[go_sem] theorem f_tyBool_47 : tyBool Try.prog 47 = false := by kernel_rfl
@[go_sem] theorem f_tyArr_47 : tyArr Try.prog 47 = none := by kernel_rfl
@[go_sem] theorem f_tyArrA_47 : tyArrA Try.prog 47 = none := by kernel_rfl
@[go_sem] theorem f_tyInts_47 : tyInts Try.prog 47 = none := by kernel_rfl
@[go_sem] theorem f_tyPlaces_47 : tyPlaces Try.prog 47 = none := by kernel_rfl
@[go_sem] theorem f_zeroLs_47 : zeroLs Try.prog 47 = some (false, [D.raw (Value.int IntKind.u32 (0))]) := by kernel_rfl
@[go_sem] theorem f_tySize_54 : tySize Try.prog 54 = some 1 := by kernel_rfl
@[go_sem] theorem f_tyBytes_54 : tyBytes Try.prog 54 = some 8 := by kernel_rfl
@[go_sem] theorem f_tyAg_54 : tyAg Try.prog 54 = some false := by kernel_rfl
@[go_sem] theorem f_tyEl_54 : tyEl Try.prog 54 = none := by kernel_rfl
@[go_sem] theorem f_tyInt_54 : tyInt Try.prog 54 = none := by kernel_rfl
@[go_sem] theorem f_tyStr_54 : tyStr Try.prog 54 = false := by kernel_rfl
@[go_sem] theorem f_tyBool_54 : tyBool Try.prog 54 = false := by kernel_rfl
@[go_sem] theorem f_tyArr_54 : tyArr Try.prog 54 = none := by kernel_rfl
@[go_sem] theorem f_tyArrA_54 : tyArrA Try.prog 54 = none := by kernel_rfl
@[go_sem] theorem f_tyInts_54 : tyInts Try.prog 54 = none := by kernel_rfl
@[go_sem] theorem f_tyPlaces_54 : tyPlaces Try.prog 54 = none := by kernel_rfl
@[go_sem] theorem f_zeroLs_54 : zeroLs Try.prog 54 = some (false, [D.raw Value.nilFunc]) := by kernel_rfl
@[go_sem] theorem f_tySize_56 : tySize Try.prog 56 = some 1 := by kernel_rfl
@[go_sem] theorem f_tyBytes_56 : tyBytes Try.prog 56 = some 8 := by kernel_rfl
@[go_sem] theorem f_tyAg_56 : tyAg Try.prog 56 = some false := by kernel_rfl
@[go_sem] theorem f_tyEl_56 : tyEl Try.prog 56 = none := by kernel_rfl
@[go_sem] theorem f_tyInt_56 : tyInt Try.prog 56 = some IntKind.i64 := by kernel_rfl
@[go_sem] theorem f_tyStr_56 : tyStr Try.prog 56 = false := by kernel_rfl
@[go_sem] theorem f_tyBool_56 : tyBool Try.prog 56 = false := by kernel_rfl
@[go_sem] theorem f_tyArr_56 : tyArr Try.prog 56 = none := by kernel_rfl
@[go_sem] theorem f_tyArrA_56 : tyArrA Try.prog 56 = none := by kernel_rfl
@[go_sem] theorem f_tyInts_56 : tyInts Try.prog 56 = none := by kernel_rfl
@[go_sem] theorem f_tyPlaces_56 : tyPlaces Try.prog 56 = none := by kernel_rfl
@[go_sem] theorem f_zeroLs_56 : zeroLs Try.prog 56 = some (false, [D.raw (Value.int IntKind.i64 (0))]) := by kernel_rfl
@[go_sem] theorem f_tySize_62 : tySize Try.prog 62 = some 1 := by kernel_rfl
@[go_sem] theorem f_tyBytes_62 : tyBytes Try.prog 62 = some 8 := by kernel_rfl
@[go_sem] theorem f_tyAg_62 : tyAg Try.prog 62 = some false := by kernel_rfl
@[go_sem] theorem f_tyEl_62 : tyEl Try.prog 62 = none := by kernel_rfl
@[go_sem] theorem f_tyInt_62 : tyInt Try.prog 62 = none := by kernel_rfl
@[go_sem] theorem f_tyStr_62 : tyStr Try.prog 62 = false := by kernel_rfl
@[go_sem] theorem f_tyBool_62 : tyBool Try.prog 62 = false := by kernel_rfl
@[go_sem] theorem f_tyArr_62 : tyArr Try.prog 62 = none := by kernel_rfl
@[go_sem] theorem f_tyArrA_62 : tyArrA Try.prog 62 = none := by kernel_rfl
@[go_sem] theorem f_tyInts_62 : tyInts Try.prog 62 = none := by kernel_rfl
@[go_sem] theorem f_tyPlaces_62 : tyPlaces Try.prog 62 = none := by kernel_rfl
@[go_sem] theorem f_zeroLs_62 : zeroLs Try.prog 62 = some (false, [D.raw Value.nilFunc]) := by kernel_rfl
@[go_sem] theorem f_tySize_67 : tySize Try.prog 67 = some 1 := by kernel_rfl
@[go_sem] theorem f_tyBytes_67 : tyBytes Try.prog 67 = some 8 := by kernel_rfl
@[go_sem] theorem f_tyAg_67 : tyAg Try.prog 67 = some false := by kernel_rfl
@[go_sem] theorem f_tyEl_67 : tyEl Try.prog 67 = none := by kernel_rfl
@[go_sem] theorem f_tyInt_67 : tyInt Try.prog 67 = none := by kernel_rfl
@[go_sem] theorem f_tyStr_67 : tyStr Try.prog 67 = false := by kernel_rfl
@[go_sem] theorem f_tyBool_67 : tyBool Try.prog 67 = false := by kernel_rfl
@[go_sem] theorem f_tyArr_67 : tyArr Try.prog 67 = none := by kernel_rfl
@[go_sem] theorem f_tyArrA_67 : tyArrA Try.prog 67 = none := by kernel_rfl
@[go_sem] theorem f_tyInts_67 : tyInts Try.prog 67 = none := by kernel_rfl
@[go_sem] theorem f_tyPlaces_67 : tyPlaces Try.prog 67 = none := by kernel_rfl
@[go_sem] theorem f_zeroLs_67 : zeroLs Try.prog 67 = some (false, [D.raw Value.nilFunc]) := by kernel_rfl
@[go_sem] theorem f_tySize_69 : tySize Try.prog 69 = some 6 := by kernel_rfl
@[go_sem] theorem f_tyBytes_69 : tyBytes Try.prog 69 = some 48 := by kernel_rfl
@[go_sem] theorem f_tyAg_69 : tyAg Try.prog 69 = some true := by kernel_rfl
@[go_sem] theorem f_tyEl_69 : tyEl Try.prog 69 = none := by kernel_rfl
@[go_sem] theorem f_tyInt_69 : tyInt Try.prog 69 = none := by kernel_rfl
@[go_sem] theorem f_tyStr_69 : tyStr Try.prog 69 = false := by kernel_rfl
@[go_sem] theorem f_tyBool_69 : tyBool Try.prog 69 = false := by kernel_rfl
@[go_sem] theorem f_tyArr_69 : tyArr Try.prog 69 = some (6, 1) := by kernel_rfl
@[go_sem] theorem f_tyArrA_69 : tyArrA Try.prog 69 = some (6, 1, false) := by kernel_rfl
@[go_sem] theorem f_tyInts_69 : tyInts Try.prog 69 = none := by kernel_rfl
@[go_sem] theorem f_tyPlaces_69 : tyPlaces Try.prog 69 = some [(0, 1), (1, 1), (2, 1), (3, 1), (4, 1), (5, 1)] := by kernel_rfl
@[go_sem] theorem f_zeroLs_69 : zeroLs Try.prog 69 = some (true, [D.raw (Value.int IntKind.i64 (0)), D.raw (Value.int IntKind.i64 (0)), D.raw (Value.int IntKind.i64 (0)), D.raw (Value.int IntKind.i64 (0)), D.raw (Value.int IntKind.i64 (0)), D.raw (Value.int IntKind.i64 (0))]) := by kernel_rfl
@[go_sem] theorem f_tySize_71 : tySize Try.prog 71 = some 1 := by kernel_rfl
@[go_sem] theorem f_tyBytes_71 : tyBytes Try.prog 71 = some 24 := by kernel_rfl
@[go_sem] theorem f_tyAg_71 : tyAg Try.prog 71 = some false := by kernel_rfl
@[go_sem] theorem f_tyEl_71 : tyEl Try.prog 71 = some 56 := by kernel_rfl
@[go_sem] theorem f_tyInt_71 : tyInt Try.prog 71 = none := by kernel_rfl
@[go_sem] theorem f_tyStr_71 : tyStr Try.prog 71 = false := by kernel_rfl
@[go_sem] theorem f_tyBool_71 : tyBool Try.prog 71 = false := by kernel_rfl
@[go_sem] theorem f_tyArr_71 : tyArr Try.prog 71 = none := by kernel_rfl
@[go_sem] theorem f_tyArrA_71 : tyArrA Try.prog 71 = none := by kernel_rfl
@[go_sem] theorem f_tyInts_71 : tyInts Try.prog 71 = none := by kernel_rfl
@[go_sem] theorem f_tyPlaces_71 : tyPlaces Try.prog 71 = none := by kernel_rfl
@[go_sem] theorem f_zeroLs_71 : zeroLs Try.prog 71 = some (false, [D.raw (Value.slice none 0 0)]) := by kernel_rfl
@[go_sem] theorem f_tySize_73 : tySize Try.prog 73 = some 1 := by kernel_rfl
@[go_sem] theorem f_tyBytes_73 : tyBytes Try.prog 73 = some 8 := by kernel_rfl
@[go_sem] theorem f_tyAg_73 : tyAg Try.prog 73 = some false := by kernel_rfl
@[go_sem] theorem f_tyEl_73 : tyEl Try.prog 73 = none := by kernel_rfl
@[go_sem] theorem f_tyInt_73 : tyInt Try.prog 73 = none := by kernel_rfl
@[go_sem] theorem f_tyStr_73 : tyStr Try.prog 73 = false := by kernel_rfl
@[go_sem] theorem f_tyBool_73 : tyBool Try.prog 73 = false := by kernel_rfl
@[go_sem] theorem f_tyArr_73 : tyArr Try.prog 73 = none := by kernel_rfl
@[go_sem] theorem f_tyArrA_73 : tyArrA Try.prog 73 = none := by kernel_rfl
@[go_sem] theorem f_tyInts_73 : tyInts Try.prog 73 = none := by kernel_rfl
@[go_sem] theorem f_tyPlaces_73 : tyPlaces Try.prog 73 = none := by kernel_rfl
@[go_sem] theorem f_zeroLs_73 : zeroLs Try.prog 73 = some (false, [D.raw Value.nilFunc]) := by kernel_rfl
@[go_sem] theorem f_tySize_74 : tySize Try.prog 74 = some 1 := by kernel_rfl
@[go_sem] theorem f_tyBytes_74 : tyBytes Try.prog 74 = some 8 := by kernel_rfl
@[go_sem] theorem f_tyAg_74 : tyAg Try.prog 74 = some false := by kernel_rfl
@[go_sem] theorem f_tyEl_74 : tyEl Try.prog 74 = none := by kernel_rfl
@[go_sem] theorem f_tyInt_74 : tyInt Try.prog 74 = none := by kernel_rfl
@[go_sem] theorem f_tyStr_74 : tyStr Try.prog 74 = false := by kernel_rfl
@[go_sem] theorem f_tyBool_74 : tyBool Try.prog 74 = false := by kernel_rfl
@[go_sem] theorem f_tyArr_74 : tyArr Try.prog 74 = none := by kernel_rfl
@[go_sem] theorem f_tyArrA_74 : tyArrA Try.prog 74 = none := by kernel_rfl
@[go_sem] theorem f_tyInts_74 : tyInts Try.prog 74 = none := by kernel_rfl
@[go_sem] theorem f_tyPlaces_74 : tyPlaces Try.prog 74 = none := by kernel_rfl
@[go_sem] theorem f_zeroLs_74 : zeroLs Try.prog 74 = some (false, [D.raw Value.nilFunc]) := by kernel_rfl
@[go_sem] theorem f_tySize_75 : tySize Try.prog 75 = some 1 := by kernel_rfl
@[go_sem] theorem f_tyBytes_75 : tyBytes Try.prog 75 = some 8 := by kernel_rfl
@[go_sem] theorem f_tyAg_75 : tyAg Try.prog 75 = some false := by kernel_rfl
@[go_sem] theorem f_tyEl_75 : tyEl Try.prog 75 = none := by kernel_rfl
@[go_sem] theorem f_tyInt_75 : tyInt Try.prog 75 = none := by kernel_rfl
@[go_sem] theorem f_tyStr_75 : tyStr Try.prog 75 = false := by kernel_rfl
@[go_sem] theorem f_tyBool_75 : tyBool Try.prog 75 = false := by kernel_rfl
@[go_sem] theorem f_tyArr_75 : tyArr Try.prog 75 = none := by kernel_rfl
@[go_sem] theorem f_tyArrA_75 : tyArrA Try.prog 75 = none := by kernel_rfl
@[go_sem] theorem f_tyInts_75 : tyInts Try.prog 75 = none := by kernel_rfl
@[go_sem] theorem f_tyPlaces_75 : tyPlaces Try.prog 75 = none := by kernel_rfl
@[go_sem] theorem f_zeroLs_75 : zeroLs Try.prog 75 = some (false, [D.raw Value.nilFunc]) := by kernel_rfl
@[go_sem] theorem f_tySize_77 : tySize Try.prog 77 = some 2 := by kernel_rfl
@[go_sem] theorem f_tyBytes_77 : tyBytes Try.prog 77 = some 16 := by kernel_rfl
@[go_sem] theorem f_tyAg_77 : tyAg Try.prog 77 = some true := by kernel_rfl
@[go_sem] theorem f_tyEl_77 : tyEl Try.prog 77 = none := by kernel_rfl
@[go_sem] theorem f_tyInt_77 : tyInt Try.prog 77 = none := by kernel_rfl
@[go_sem] theorem f_tyStr_77 : tyStr Try.prog 77 = false := by kernel_rfl
@[go_sem] theorem f_tyBool_77 : tyBool Try.prog 77 = false := by kernel_rfl
@[go_sem] theorem f_tyArr_77 : tyArr Try.prog 77 = none := by kernel_rfl
@[go_sem] theorem f_tyArrA_77 : tyArrA Try.prog 77 = none := by kernel_rfl
@[go_sem] theorem f_tyInts_77 : tyInts Try.prog 77 = none := by kernel_rfl
@[go_sem] theorem f_tyPlaces_77 : tyPlaces Try.prog 77 = some [(0, 1), (1, 1)] := by kernel_rfl
@[go_sem] theorem f_zeroLs_77 : zeroLs Try.prog 77 = some (true, [D.raw (Value.int IntKind.i64 (0)), D.raw Value.nilFunc]) := by kernel_rfl
@[go_sem] theorem f_tySize_78 : tySize Try.prog 78 = some 4 := by kernel_rfl
@[go_sem] theorem f_tyBytes_78 : tyBytes Try.prog 78 = some 32 := by kernel_rfl
@[go_sem] theorem f_tyAg_78 : tyAg Try.prog 78 = some true := by kernel_rfl
@[go_sem] theorem f_tyEl_78 : tyEl Try.prog 78 = none := by kernel_rfl
@[go_sem] theorem f_tyInt_78 : tyInt Try.prog 78 = none := by kernel_rfl
@[go_sem] theorem f_tyStr_78 : tyStr Try.prog 78 = false := by kernel_rfl
@[go_sem] theorem f_tyBool_78 : tyBool Try.prog 78 = false := by kernel_rfl
@[go_sem] theorem f_tyArr_78 : tyArr Try.prog 78 = some (2, 2) := by kernel_rfl
@[go_sem] theorem f_tyArrA_78 : tyArrA Try.prog 78 = some (2, 2, true) := by kernel_rfl
@[go_sem] theorem f_tyInts_78 : tyInts Try.prog 78 = none := by kernel_rfl
@[go_sem] theorem f_tyPlaces_78 : tyPlaces Try.prog 78 = some [(0, 2), (2, 2)] := by kernel_rfl
@[go_sem] theorem f_zeroLs_78 : zeroLs Try.prog 78 = some (true, [D.raw (Value.int IntKind.i64 (0)), D.raw Value.nilFunc, D.raw (Value.int IntKind.i64 (0)), D.raw Value.nilFunc]) := by kernel_rfl
@[go_sem] theorem f_tySize_82 : tySize Try.prog 82 = some 1 := by kernel_rfl
@[go_sem] theorem f_tyBytes_82 : tyBytes Try.prog 82 = some 8 := by kernel_rfl
@[go_sem] theorem f_tyAg_82 : tyAg Try.prog 82 = some false := by kernel_rfl
@[go_sem] theorem f_tyEl_82 : tyEl Try.prog 82 = none := by kernel_rfl
@[go_sem] theorem f_tyInt_82 : tyInt Try.prog 82 = some IntKind.u64 := by kernel_rfl
@[go_sem] theorem f_tyStr_82 : tyStr Try.prog 82 = false := by kernel_rfl
@[go_sem] theorem f_tyBool_82 : tyBool Try.prog 82 = false := by kernel_rfl
@[go_sem] theorem f_tyArr_82 : tyArr Try.prog 82 = none := by kernel_rfl
@[go_sem] theorem f_tyArrA_82 : tyArrA Try.prog 82 = none := by kernel_rfl
@[go_sem] theorem f_tyInts_82 : tyInts Try.prog 82 = none := by kernel_rfl
@[go_sem] theorem f_tyPlaces_82 : tyPlaces Try.prog 82 = none := by kernel_rfl
@[go_sem] theorem f_zeroLs_82 : zeroLs Try.prog 82 = some (false, [D.raw (Value.int IntKind.u64 (0))]) := by kernel_rfl
@[go_sem] theorem f_tySize_84 : tySize Try.prog 84 = some 1 := by kernel_rfl
@[go_sem] theorem f_tyBytes_84 : tyBytes Try.prog 84 = some 8 := by kernel_rfl
@[go_sem] theorem f_tyAg_84 : tyAg Try.prog 84 = some false := by kernel_rfl
@[go_sem] theorem f_tyEl_84 : tyEl Try.prog 84 = none := by kernel_rfl
@[go_sem] theorem f_tyInt_84 : tyInt Try.prog 84 = some IntKind.i64 := by kernel_rfl
@[go_sem] theorem f_tyStr_84 : tyStr Try.prog 84 = false := by kernel_rfl
@[go_sem] theorem f_tyBool_84 : tyBool Try.prog 84 = false := by kernel_rfl
@[go_sem] theorem f_tyArr_84 : tyArr Try.prog 84 = none := by kernel_rfl
@[go_sem] theorem f_tyArrA_84 : tyArrA Try.prog 84 = none := by kernel_rfl
@[go_sem] theorem f_tyInts_84 : tyInts Try.prog 84 = none := by kernel_rfl
@[go_sem] theorem f_tyPlaces_84 : tyPlaces Try.prog 84 = none := by kernel_rfl
@[go_sem] theorem f_zeroLs_84 : zeroLs Try.prog 84 = some (false, [D.raw (Value.int IntKind.i64 (0))]) := by kernel_rfl
@[go_sem] theorem f_tySize_93 : tySize Try.prog 93 = some 1 := by kernel_rfl
@[go_sem] theorem f_tyBytes_93 : tyBytes Try.prog 93 = some 8 := by kernel_rfl
@[go_sem] theorem f_tyAg_93 : tyAg Try.prog 93 = some false := by kernel_rfl
@[go_sem] theorem f_tyEl_93 : tyEl Try.prog 93 = none := by kernel_rfl
@[go_sem] theorem f_tyInt_93 : tyInt Try.prog 93 = some IntKind.u64 := by kernel_rfl
@[go_sem] theorem f_tyStr_93 : tyStr Try.prog 93 = false := by kernel_rfl
@[go_sem] theorem f_tyBool_93 : tyBool Try.prog 93 = false := by kernel_rfl
@[go_sem] theorem f_tyArr_93 : tyArr Try.prog 93 = none := by kernel_rfl
@[go_sem] theorem f_tyArrA_93 : tyArrA Try.prog 93 = none := by kernel_rfl
@[go_sem] theorem f_tyInts_93 : tyInts Try.prog 93 = none := by kernel_rfl
@[go_sem] theorem f_tyPlaces_93 : tyPlaces Try.prog 93 = none := by kernel_rfl
@[go_sem] theorem f_zeroLs_93 : zeroLs Try.prog 93 = some (false, [D.raw (Value.int IntKind.u64 (0))]) := by kernel_rfl
@[go_sem] theorem f_tySize_94 : tySize Try.prog 94 = some 1 := by kernel_rfl
@[go_sem] theorem f_tyBytes_94 : tyBytes Try.prog 94 = some 8 := by kernel_rfl
@[go_sem] theorem f_tyAg_94 : tyAg Try.prog 94 = some false := by kernel_rfl
@[go_sem] theorem f_tyEl_94 : tyEl Try.prog 94 = none := by kernel_rfl
@[go_sem] theorem f_tyInt_94 : tyInt Try.prog 94 = some IntKind.u64 := by kernel_rfl
@[go_sem] theorem f_tyStr_94 : tyStr Try.prog 94 = false := by kernel_rfl
@[go_sem] theorem f_tyBool_94 : tyBool Try.prog 94 = false := by kernel_rfl
@[go_sem] theorem f_tyArr_94 : tyArr Try.prog 94 = none := by kernel_rfl
@[go_sem] theorem f_tyArrA_94 : tyArrA Try.prog 94 = none := by kernel_rfl
@[go_sem] theorem f_tyInts_94 : tyInts Try.prog 94 = none := by kernel_rfl
@[go_sem] theorem f_tyPlaces_94 : tyPlaces Try.prog 94 = none := by kernel_rfl
@[go_sem] theorem f_zeroLs_94 : zeroLs Try.prog 94 = some (false, [D.raw (Value.int IntKind.u64 (0))]) := by kernel_rfl
@[go_sem] theorem f_tySize_98 : tySize Try.prog 98 = some 1 := by kernel_rfl
@[go_sem] theorem f_tyBytes_98 : tyBytes Try.prog 98 = some 8 := by kernel_rfl
@[go_sem] theorem f_tyAg_98 : tyAg Try.prog 98 = some false := by kernel_rfl
@[go_sem] theorem f_tyEl_98 : tyEl Try.prog 98 = none := by kernel_rfl
@[go_sem] theorem f_tyInt_98 : tyInt Try.prog 98 = none := by kernel_rfl
@[go_sem] theorem f_tyStr_98 : tyStr Try.prog 98 = false := by kernel_rfl
@[go_sem] theorem f_tyBool_98 : tyBool Try.prog 98 = false := by kernel_rfl
@[go_sem] theorem f_tyArr_98 : tyArr Try.prog 98 = none := by kernel_rfl
@[go_sem] theorem f_tyArrA_98 : tyArrA Try.prog 98 = none := by kernel_rfl
@[go_sem] theorem f_tyInts_98 : tyInts Try.prog 98 = none := by kernel_rfl
@[go_sem] theorem f_tyPlaces_98 : tyPlaces Try.prog 98 = none := by kernel_rfl
@[go_sem] theorem f_zeroLs_98 : zeroLs Try.prog 98 = some (false, [D.raw (Value.pointer none)]) := by kernel_rfl
@[go_sem] theorem f_tyFld_23_0 : tyFld Try.prog 23 0 = some (0, 1) := by kernel_rfl
@[go_sem] theorem f_tyFld_23_1 : tyFld Try.prog 23 1 = some (1, 1) := by kernel_rfl
@[go_sem] theorem f_tyFld_45_0 : tyFld Try.prog 45 0 = some (0, 1) := by kernel_rfl
@[go_sem] theorem f_tyFld_45_1 : tyFld Try.prog 45 1 = some (1, 1) := by kernel_rfl
@[go_sem] theorem f_tyFld_77_0 : tyFld Try.prog 77 0 = some (0, 1) := by kernel_rfl
@[go_sem] theorem f_tyFld_77_1 : tyFld Try.prog 77 1 = some (1, 1) := by kernel_rfl
@[go_sem] theorem f_canCall_1 : canCall Try.prog 1 = false := by kernel_rfl
@[go_sem] theorem f_canCall_9 : canCall Try.prog 9 = true := by kernel_rfl
@[go_sem] theorem f_canCall_10 : canCall Try.prog 10 = true := by kernel_rfl
@[go_sem] theorem f_canCall_11 : canCall Try.prog 11 = true := by kernel_rfl
@[go_sem] theorem f_canCall_12 : canCall Try.prog 12 = true := by kernel_rfl
@[go_sem] theorem f_canCall_13 : canCall Try.prog 13 = true := by kernel_rfl
@[go_sem] theorem f_canCall_14 : canCall Try.prog 14 = true := by kernel_rfl
@[go_sem] theorem f_canCall_15 : canCall Try.prog 15 = true := by kernel_rfl
@[go_sem] theorem f_canCall_16 : canCall Try.prog 16 = true := by kernel_rfl
@[go_sem] theorem f_canCall_17 : canCall Try.prog 17 = true := by kernel_rfl
@[go_sem] theorem f_canCall_18 : canCall Try.prog 18 = true := by kernel_rfl
@[go_sem] theorem f_canCall_19 : canCall Try.prog 19 = true := by kernel_rfl
@[go_sem] theorem f_canCall_20 : canCall Try.prog 20 = true := by kernel_rfl
@[go_sem] theorem f_canCall_21 : canCall Try.prog 21 = true := by kernel_rfl
@[go_sem] theorem f_canCall_22 : canCall Try.prog 22 = true := by kernel_rfl
@[go_sem] theorem f_canCall_23 : canCall Try.prog 23 = true := by kernel_rfl
@[go_sem] theorem f_canCall_24 : canCall Try.prog 24 = true := by kernel_rfl
@[go_sem] theorem f_canCall_25 : canCall Try.prog 25 = true := by kernel_rfl
@[go_sem] theorem f_canCall_26 : canCall Try.prog 26 = true := by kernel_rfl
@[go_sem] theorem f_canCall_27 : canCall Try.prog 27 = true := by kernel_rfl
@[go_sem] theorem f_canCall_28 : canCall Try.prog 28 = true := by kernel_rfl
@[go_sem] theorem f_canCall_29 : canCall Try.prog 29 = true := by kernel_rfl
@[go_sem] theorem f_canCall_30 : canCall Try.prog 30 = true := by kernel_rfl
@[go_sem] theorem f_canCall_31 : canCall Try.prog 31 = true := by kernel_rfl
@[go_sem] theorem f_canCall_32 : canCall Try.prog 32 = true := by kernel_rfl
@[go_sem] theorem f_canCall_33 : canCall Try.prog 33 = true := by kernel_rfl
@[go_sem] theorem f_canCall_34 : canCall Try.prog 34 = true := by kernel_rfl
@[go_sem] theorem f_canCall_35 : canCall Try.prog 35 = true := by kernel_rfl
@[go_sem] theorem f_canCall_36 : canCall Try.prog 36 = true := by kernel_rfl
@[go_sem] theorem f_canCall_37 : canCall Try.prog 37 = true := by kernel_rfl
@[go_sem] theorem f_canCall_38 : canCall Try.prog 38 = true := by kernel_rfl
@[go_sem] theorem f_canCall_39 : canCall Try.prog 39 = true := by kernel_rfl
@[go_sem] theorem f_canCall_40 : canCall Try.prog 40 = true := by kernel_rfl
@[go_sem] theorem f_canCall_41 : canCall Try.prog 41 = true := by kernel_rfl
@[go_sem] theorem f_canCall_42 : canCall Try.prog 42 = true := by kernel_rfl
@[go_sem] theorem f_canCall_43 : canCall Try.prog 43 = true := by kernel_rfl
@[go_sem] theorem f_canCall_44 : canCall Try.prog 44 = true := by kernel_rfl
@[go_sem] theorem f_canCall_45 : canCall Try.prog 45 = true := by kernel_rfl
@[go_sem] theorem f_canCall_46 : canCall Try.prog 46 = true := by kernel_rfl
@[go_sem] theorem f_canCall_47 : canCall Try.prog 47 = true := by kernel_rfl
@[go_sem] theorem f_canCall_48 : canCall Try.prog 48 = true := by kernel_rfl
@[go_sem] theorem f_canCall_49 : canCall Try.prog 49 = true := by kernel_rfl
@[go_sem] theorem f_canCall_50 : canCall Try.prog 50 = true := by kernel_rfl
@[go_sem] theorem f_canCall_51 : canCall Try.prog 51 = true := by kernel_rfl
@[go_sem] theorem f_canCall_52 : canCall Try.prog 52 = true := by kernel_rfl
@[go_sem] theorem f_canCall_53 : canCall Try.prog 53 = true := by kernel_rfl
@[go_sem] theorem f_canCall_54 : canCall Try.prog 54 = true := by kernel_rfl
@[go_sem] theorem f_canCall_55 : canCall Try.prog 55 = true := by kernel_rfl
@[go_sem] theorem f_canCall_56 : canCall Try.prog 56 = true := by kernel_rfl
@[go_sem] theorem f_canCall_57 : canCall Try.prog 57 = true := by kernel_rfl
@[go_sem] theorem f_canCall_58 : canCall Try.prog 58 = true := by kernel_rfl
@[go_sem] theorem f_canCall_59 : canCall Try.prog 59 = true := by kernel_rfl
@[go_sem] theorem f_canCall_60 : canCall Try.prog 60 = true := by kernel_rfl
@[go_sem] theorem f_canCall_61 : canCall Try.prog 61 = true := by kernel_rfl
@[go_sem] theorem f_canCall_62 : canCall Try.prog 62 = true := by kernel_rfl
@[go_sem] theorem f_canCall_63 : canCall Try.prog 63 = true := by kernel_rfl
@[go_sem] theorem f_canCall_64 : canCall Try.prog 64 = true := by kernel_rfl
@[go_sem] theorem f_canCall_65 : canCall Try.prog 65 = true := by kernel_rfl
@[go_sem] theorem f_canCall_66 : canCall Try.prog 66 = true := by kernel_rfl
@[go_sem] theorem f_canCall_67 : canCall Try.prog 67 = true := by kernel_rfl
@[go_sem] theorem f_canCall_68 : canCall Try.prog 68 = true := by kernel_rfl
@[go_sem] theorem f_canCall_69 : canCall Try.prog 69 = true := by kernel_rfl
@[go_sem] theorem f_canCall_70 : canCall Try.prog 70 = true := by kernel_rfl
@[go_sem] theorem f_canCall_71 : canCall Try.prog 71 = true := by kernel_rfl
@[go_sem] theorem f_canCall_72 : canCall Try.prog 72 = true := by kernel_rfl
@[go_sem] theorem f_canCall_73 : canCall Try.prog 73 = true := by kernel_rfl
@[go_sem] theorem f_canCall_74 : canCall Try.prog 74 = true := by kernel_rfl
@[go_sem] theorem f_canCall_75 : canCall Try.prog 75 = true := by kernel_rfl
@[go_sem] theorem f_canCall_76 : canCall Try.prog 76 = true := by kernel_rfl
@[go_sem] theorem f_Program_concrete_3 : Program.concrete Try.prog 3 = true := by kernel_rfl
@[go_sem] theorem f_Program_concrete_4 : Program.concrete Try.prog 4 = true := by kernel_rfl
@[go_sem] theorem f_Program_concrete_5 : Program.concrete Try.prog 5 = true := by kernel_rfl
@[go_sem] theorem f_Program_concrete_9 : Program.concrete Try.prog 9 = true := by kernel_rfl
@[go_sem] theorem f_Program_concrete_23 : Program.concrete Try.prog 23 = true := by kernel_rfl
@[go_sem] theorem f_Program_concrete_24 : Program.concrete Try.prog 24 = true := by kernel_rfl
@[go_sem] theorem f_Program_concrete_26 : Program.concrete Try.prog 26 = true := by kernel_rfl
@[go_sem] theorem f_Program_concrete_35 : Program.concrete Try.prog 35 = true := by kernel_rfl
@[go_sem] theorem f_Program_concrete_40 : Program.concrete Try.prog 40 = true := by kernel_rfl
@[go_sem] theorem f_Program_concrete_45 : Program.concrete Try.prog 45 = true := by kernel_rfl
@[go_sem] theorem f_Program_concrete_47 : Program.concrete Try.prog 47 = true := by kernel_rfl
@[go_sem] theorem f_Program_concrete_54 : Program.concrete Try.prog 54 = true := by kernel_rfl
@[go_sem] theorem f_Program_concrete_56 : Program.concrete Try.prog 56 = true := by kernel_rfl
@[go_sem] theorem f_Program_concrete_62 : Program.concrete Try.prog 62 = true := by kernel_rfl
@[go_sem] theorem f_Program_concrete_67 : Program.concrete Try.prog 67 = true := by kernel_rfl
@[go_sem] theorem f_Program_concrete_69 : Program.concrete Try.prog 69 = true := by kernel_rfl
@[go_sem] theorem f_Program_concrete_71 : Program.concrete Try.prog 71 = true := by kernel_rfl
@[go_sem] theorem f_Program_concrete_73 : Program.concrete Try.prog 73 = true := by kernel_rfl
@[go_sem] theorem f_Program_concrete_74 : Program.concrete Try.prog 74 = true := by kernel_rfl
@[go_sem] theorem f_Program_concrete_75 : Program.concrete Try.prog 75 = true := by kernel_rfl
@[go_sem] theorem f_Program_concrete_77 : Program.concrete Try.prog 77 = true := by kernel_rfl
@[go_sem] theorem f_Program_concrete_78 : Program.concrete Try.prog 78 = true := by kernel_rfl
@[go_sem] theorem f_Program_concrete_82 : Program.concrete Try.prog 82 = true := by kernel_rfl
@[go_sem] theorem f_Program_concrete_84 : Program.concrete Try.prog 84 = true := by kernel_rfl
@[go_sem] theorem f_Program_concrete_93 : Program.concrete Try.prog 93 = true := by kernel_rfl
@[go_sem] theorem f_Program_concrete_94 : Program.concrete Try.prog 94 = true := by kernel_rfl
@[go_sem] theorem f_Program_concrete_98 : Program.concrete Try.prog 98 = true := by kernel_rfl
end Go.Mw
namespace Go.Dr

structure Reg where
  drums : Int
  start : Int
deriving DecidableEq, Inhabited

def inD (n l h : Int) : Bool := decide (l ≤ n) && decide (n ≤ h)
theorem inD_iff {n l h : Int} : inD n l h = true ↔ l ≤ n ∧ n ≤ h := by simp [inD]
theorem inD_not {n l h : Int} : inD n l h = false ↔ n < l ∨ h < n := by rw [← Bool.not_eq_true, inD_iff]; omega
def pow10 : Nat → Int
  | 0 => 1
  | n + 1 => 10 * pow10 n
theorem pow10_succ (n : Nat) : pow10 (n + 1) = 10 * pow10 n := rfl
theorem pow10_pos : ∀ n, 1 ≤ pow10 n
  | 0 => by simp [pow10]
  | n + 1 => by have := pow10_pos n; rw [pow10_succ]; omega
theorem pow10_le {n m : Nat} (h : n ≤ m) : pow10 n ≤ pow10 m := by
  induction m with
  | zero => have : n = 0 := by omega
            subst this; exact Int.le_refl _
  | succ m ih =>
    rcases Nat.lt_or_eq_of_le h with h | rfl
    · have := ih (by omega)
      have := pow10_pos m
      rw [pow10_succ]; omega
    · exact Int.le_refl _
theorem tmod_e {a n : Int} (h : 0 ≤ a) : a.tmod n = a % n := Int.tmod_eq_emod_of_nonneg h
theorem tdiv_e {a n : Int} (h : 0 ≤ a) : a.tdiv n = a / n := Int.tdiv_eq_ediv_of_nonneg h
theorem tmod_c {a n : Int} (h : 0 < n) : (if a.tmod n < 0 then a.tmod n + n else a.tmod n) = a % n := by
  have h1 := Int.emod_nonneg a (show n ≠ 0 by omega)
  have h2 := Int.emod_lt_of_pos a h
  rw [Int.tmod_eq_emod]
  split
  · rw [if_neg (by omega)]; omega
  · rename_i hc
    have : a % n ≠ 0 := fun e => hc (.inr (Int.dvd_of_emod_eq_zero e))
    rw [if_pos (by omega)]; omega
def turnD (n : Int) : Int := 1000 * pow10 n.toNat
theorem turn_bnd {n : Int} (h : n ≤ 6) : 1000 ≤ turnD n ∧ turnD n ≤ 1000000000 := by
  have h1 := pow10_pos n.toNat
  have h2 := pow10_le (show n.toNat ≤ 6 by omega)
  have h3 : pow10 6 = 1000000 := by decide
  unfold turnD; omega
def regB (r : Reg) : Bool := inD r.drums 1 6 && inD r.start 0 (turnD r.drums - 1)
theorem reg_iff {r : Reg} : regB r = true ↔ (1 ≤ r.drums ∧ r.drums ≤ 6) ∧ 0 ≤ r.start ∧ r.start ≤ turnD r.drums - 1 := by
  unfold regB; rw [Bool.and_eq_true, inD_iff, inD_iff]

/-- Where a drum stands. -/
def placeD (t : Int) : Nat → Int
  | 0 => t % 10000
  | k + 1 => 1000 * (t / (1000 * pow10 (k + 1)) % 10) + max 0 (placeD t k - 9000)
theorem place_bnd (t : Int) : ∀ k, 0 ≤ placeD t k ∧ placeD t k ≤ 9999
  | 0 => by unfold placeD; omega
  | k + 1 => by
    have ih := place_bnd t k
    have e : placeD t (k + 1) = 1000 * (t / (1000 * pow10 (k + 1)) % 10) + max 0 (placeD t k - 9000) := rfl
    omega
def placesD (n : Nat) (t : Int) : List Int := (List.range n).map (placeD t)
def placesR (r : Reg) (t : Int) : List Int × Int := if regB r = false then ([], 1) else if inD t 0 (turnD r.drums - 1) = false then ([], 2) else (placesD r.drums.toNat t, 0)
def errD (r : Reg) (l : List Int) : Int := if regB r = false then 1 else if (32 : Int) < l.length then 3 else if l.all (fun n => inD n (-1099511627776) 1099511627776) = false then 2 else 0
/-- The remainder that is not below 0, in the document's words. -/
theorem mod_emod {a n : Int} (h : 0 < n) : (a.tmod n + n).tmod n = a % n := by
  have h1 := Int.emod_nonneg a (show n ≠ 0 by omega)
  have h2 := Int.emod_lt_of_pos a h
  have h3 : 0 ≤ a.tmod n + n := by
    have := tmod_c (a := a) h
    split at this <;> omega
  rw [tmod_e h3]
  have h4 := tmod_c (a := a) h
  split at h4
  · rw [h4, Int.emod_emod_of_dvd _ (Int.dvd_refl n)]
  · rw [h4, Int.add_emod_right, Int.emod_emod_of_dvd _ (Int.dvd_refl n)]
def sumD : List Int → Int
  | [] => 0
  | n :: l => n + sumD l
def totalD (r : Reg) (l : List Int) : Int := (r.start + sumD l) % turnD r.drums
def figD (p : Int) : Int := (p + 500) / 1000 % 10
def runR (r : Reg) (l : List Int) : Int × List Int × Int := if errD r l = 0 then (totalD r l, (placesD r.drums.toNat (totalD r l)).map figD, 0) else (0, [], errD r l)
end Go.Dr
namespace Go.Mw
section
variable {α : Type} (lt : α → α → Bool)
def scanE (x : α) (l : List α) : Nat → Nat
  | 0 => 0
  | n + 1 => match l[n]? with
    | some y => if lt x y = true then scanE x l n else n + 1
    | none => n + 1
def insE (x : α) (l : List α) : List α := l.take (scanE lt x l l.length) ++ [x] ++ l.drop (scanE lt x l l.length)
def isortE (l : List α) : List α := l.foldl (fun acc x => insE lt x acc) []
/-- A row in which x stands between what came in before. -/
def Lt (p t r : List α) (x : α) (c : Nat) : List α := p ++ (t.take c ++ [x] ++ t.drop c) ++ r

variable {lt}
theorem scanE_le (x : α) (l : List α) : ∀ n, scanE lt x l n ≤ n
  | 0 => Nat.le_refl 0
  | n + 1 => by
    unfold scanE
    split
    · split
      · exact Nat.le_succ_of_le (scanE_le x l n)
      · exact Nat.le_refl _
    · exact Nat.le_refl _
theorem scanE_yes {x y : α} {l : List α} {n : Nat} (h : l[n]? = some y) (hl : lt x y = true) : scanE lt x l (n + 1) = scanE lt x l n := by
  rw [scanE, h]; simp [hl]
theorem scanE_no {x y : α} {l : List α} {n : Nat} (h : l[n]? = some y) (hl : lt x y = false) : scanE lt x l (n + 1) = n + 1 := by
  rw [scanE, h]; simp [hl]
theorem len_insE (x : α) (l : List α) : (insE lt x l).length = l.length + 1 := by
  have := scanE_le (lt := lt) x l l.length
  unfold insE; simp; omega
theorem isortE_snoc (l : List α) (x : α) : isortE lt (l ++ [x]) = insE lt x (isortE lt l) := by
  unfold isortE; simp [List.foldl_append]
theorem len_isortE (l : List α) : (isortE lt l).length = l.length := by
  suffices h : ∀ (n : Nat) (l : List α), l.length = n → (isortE lt l).length = n from h _ l rfl
  intro n
  induction n with
  | zero => intro l h; rw [List.eq_nil_of_length_eq_zero h]; rfl
  | succ n ih =>
    intro l h
    obtain ⟨m, x, rfl⟩ : ∃ m x, l = m ++ [x] := by
      refine ⟨l.dropLast, l.getLast (by intro e; simp [e] at h), ?_⟩
      exact (List.dropLast_concat_getLast _).symm
    rw [isortE_snoc, len_insE, ih m (by simpa using h)]
theorem isortE_one (l : List α) : isortE lt (l.take 1) ++ l.drop 1 = l := by
  cases l with
  | nil => rfl
  | cons x l => simp [isortE, insE, scanE]
theorem Lt_len {p t r : List α} {x : α} {c : Nat} (h : c ≤ t.length) : (Lt p t r x c).length = p.length + (t.length + 1) + r.length := by
  unfold Lt; simp; omega
theorem Lt_x {p t r : List α} {x : α} {c : Nat} (h : c ≤ t.length) : (Lt p t r x c)[p.length + c]? = some x := by
  unfold Lt
  have h1 : (t.take c).length = c := by simp; omega
  rw [List.append_assoc, List.append_assoc, List.append_assoc, List.getElem?_append_right (by omega), Nat.add_sub_cancel_left, List.getElem?_append_right (by omega), h1, Nat.sub_self]
  simp
theorem Lt_y {p t r : List α} {x y : α} {c : Nat} (h : t[c]? = some y) : (Lt p t r x (c + 1))[p.length + c]? = some y := by
  have hc : c < t.length := (List.getElem?_eq_some_iff.1 h).1
  unfold Lt
  rw [List.append_assoc, List.append_assoc, List.append_assoc, List.getElem?_append_right (by omega), Nat.add_sub_cancel_left, List.getElem?_append_left (by simp; omega), List.getElem?_take, if_pos (by omega), h]
theorem Lt_set {p t r : List α} {x y : α} {c : Nat} (h : t[c]? = some y) : ((Lt p t r x (c + 1)).set (p.length + (c + 1)) y).set (p.length + c) x = Lt p t r x c := by
  have hc : c < t.length := (List.getElem?_eq_some_iff.1 h).1
  have hd : t.drop c = y :: t.drop (c + 1) := by
    obtain ⟨hk, rfl⟩ := List.getElem?_eq_some_iff.1 h
    exact (List.getElem_cons_drop hk).symm
  have ht : t.take (c + 1) = t.take c ++ [y] := by rw [List.take_succ, h]; rfl
  unfold Lt
  rw [hd, ht]
  have h1 : (t.take c).length = c := by simp; omega
  simp only [List.append_assoc]
  rw [List.set_append_right _ _ (by omega), List.set_append_right _ _ (by omega)]
  simp only [Nat.add_sub_cancel_left]
  rw [List.set_append_right _ _ (by omega), h1, List.set_append_right _ _ (by omega), h1]
  simp
theorem Lt_start {p t r : List α} {x : α} : Lt p t r x t.length = p ++ (t ++ [x]) ++ r := by unfold Lt; simp
theorem Lt_ins {p t r : List α} {x : α} : Lt p t r x (scanE lt x t t.length) = p ++ insE lt x t ++ r := rfl
end
end Go.Mw
namespace Go.Mw

section mg
variable {α : Type} (lt : α → α → Bool)
/-- The stable merge. -/
def mg : List α → List α → List α
  | [], r => r
  | a :: l, [] => a :: l
  | a :: l, b :: r => if lt b a = true then b :: mg (a :: l) r else a :: mg l (b :: r)
termination_by l r => l.length + r.length
variable {lt}
theorem mg_nil (l : List α) : mg lt l [] = l := by
  cases l with
  | nil => rw [mg]
  | cons a l => rw [mg]
theorem mg_nl (r : List α) : mg lt [] r = r := by rw [mg]
theorem mg_right {a b : α} {l r : List α} (h : lt b a = true) : mg lt (a :: l) (b :: r) = b :: mg lt (a :: l) r := by rw [mg, if_pos h]
theorem mg_left {a b : α} {l r : List α} (h : lt b a = false) : mg lt (a :: l) (b :: r) = a :: mg lt l (b :: r) := by rw [mg, if_neg (by simp [h])]
theorem mg_len : ∀ (l r : List α), (mg lt l r).length = l.length + r.length
  | [], r => by rw [mg_nl]; simp
  | a :: l, [] => by rw [mg_nil]; simp
  | a :: l, b :: r => by
    cases h : lt b a with
    | true => rw [mg_right h, List.length_cons, mg_len (a :: l) r]; simp; omega
    | false => rw [mg_left h, List.length_cons, mg_len l (b :: r)]; simp; omega
termination_by l r => l.length + r.length
/-- Two rows that are cut so that the first parts come before the second ones can be merged part by part. -/
theorem mg_split : ∀ (l1 r1 : List α) {l2 r2 : List α}, (∀ x ∈ l1, ∀ y ∈ r2, lt y x = false) → (∀ x ∈ l2, ∀ y ∈ r1, lt y x = true) → mg lt (l1 ++ l2) (r1 ++ r2) = mg lt l1 r1 ++ mg lt l2 r2
  | [], [], l2, r2, _, _ => by rw [mg_nl]; rfl
  | [], b :: r1, l2, r2, h1, h2 => by
    have ih := mg_split [] r1 (l2 := l2) (r2 := r2) (fun x hx => by simp at hx) fun x hx y hy => h2 x hx y (by simp [hy])
    rw [mg_nl, List.nil_append] at *
    cases l2 with
    | nil => rw [mg_nl, mg_nl]
    | cons a l2 =>
      have := h2 a (by simp) b (by simp)
      rw [List.cons_append, mg_right this, ih]; rfl
  | a :: l1, [], l2, r2, h1, h2 => by
    have ih := mg_split l1 [] (l2 := l2) (r2 := r2) (fun x hx y hy => h1 x (by simp [hx]) y hy) (fun x _ y hy => by simp at hy)
    rw [mg_nil, List.nil_append] at *
    cases r2 with
    | nil => rw [mg_nil, mg_nil]
    | cons b r2 =>
      have := h1 a (by simp) b (by simp)
      rw [List.cons_append, mg_left this, ih]; rfl
  | a :: l1, b :: r1, l2, r2, h1, h2 => by
    cases h : lt b a with
    | true =>
      have ih := mg_split (a :: l1) r1 (l2 := l2) (r2 := r2) h1 fun x hx y hy => h2 x hx y (by simp [hy])
      rw [List.cons_append, List.cons_append, mg_right h, mg_right h, ← List.cons_append, ih]; rfl
    | false =>
      have ih := mg_split l1 (b :: r1) (l2 := l2) (r2 := r2) (fun x hx y hy => h1 x (by simp [hx]) y hy) h2
      rw [List.cons_append, List.cons_append, mg_left h, mg_left h, ← List.cons_append, ih]; rfl
termination_by l1 r1 => l1.length + r1.length
/-- In order: what comes later is not before what came earlier. -/
def InO (lt : α → α → Bool) (l : List α) : Prop := l.Pairwise fun x y => lt y x = false
/-- An order in which things can be alike. -/
structure Weak (lt : α → α → Bool) : Prop where
  irr : ∀ x, lt x x = false
  tr : ∀ x y z, lt x y = true → lt y z = true → lt x z = true
  nt : ∀ x y z, lt x y = false → lt y z = false → lt x z = false
theorem Weak.asym (h : Weak lt) {x y : α} (hxy : lt x y = true) : lt y x = false := by
  cases hc : lt y x with
  | false => rfl
  | true => have := h.tr x y x hxy hc; rw [h.irr] at this; cases this
/-- x before y, and z no later than x: z before y. -/
theorem Weak.le_lt (h : Weak lt) {x y z : α} (h1 : lt x z = false) (h2 : lt x y = true) : lt z y = true := by
  cases hc : lt z y with
  | true => rfl
  | false => have := h.nt x z y h1 hc; rw [h2] at this; cases this
theorem Weak.lt_le (h : Weak lt) {x y z : α} (h1 : lt x y = true) (h2 : lt z y = false) : lt x z = true := by
  cases hc : lt x z with
  | true => rfl
  | false => have := h.nt x z y hc h2; rw [h1] at this; cases this
/-- Where a new one comes in. -/
theorem scan_cut (h : Weak lt) {x : α} {l : List α} (ho : InO lt l) : ∀ n, n ≤ l.length → (∀ y ∈ (l.take n).take (scanE lt x l n), lt x y = false) ∧ (∀ y ∈ (l.take n).drop (scanE lt x l n), lt x y = true)
  | 0, _ => by simp
  | n + 1, hn => by
    have hx : l[n]? = some l[n] := List.getElem?_eq_getElem (by omega)
    have ih := scan_cut h (x := x) ho n (by omega)
    have hle := scanE_le (lt := lt) x l n
    have ht : l.take (n + 1) = l.take n ++ [l[n]] := by rw [List.take_add_one, hx]; rfl
    have hl : (l.take n).length = n := by simp; omega
    cases hc : lt x l[n] with
    | true =>
      rw [scanE_yes hx hc, ht]
      refine ⟨fun y hy => ?_, fun y hy => ?_⟩
      · rw [List.take_append_of_le_length (by omega)] at hy
        exact ih.1 y hy
      · rw [List.drop_append_of_le_length (by omega)] at hy
        rcases List.mem_append.1 hy with hy | hy
        · exact ih.2 y hy
        · rw [List.mem_singleton.1 hy]; exact hc
    | false =>
      rw [scanE_no hx hc, ht]
      refine ⟨fun y hy => ?_, fun y hy => ?_⟩
      · rw [List.take_of_length_le (by simp; omega)] at hy
        rcases List.mem_append.1 hy with hy | hy
        · obtain ⟨i, hi⟩ := List.getElem?_of_mem hy
          rw [List.getElem?_take] at hi
          split at hi
          · rename_i hin
            obtain ⟨q1, q2⟩ := List.getElem?_eq_some_iff.1 hi
            have := List.pairwise_iff_getElem.1 ho i n q1 (by omega) hin
            rw [q2] at this
            exact h.nt x l[n] y hc this
          · cases hi
        · rw [List.mem_singleton.1 hy]; exact hc
      · rw [List.drop_of_length_le (by simp; omega)] at hy
        simp at hy
theorem ins_cut (h : Weak lt) {x : α} {l : List α} (ho : InO lt l) : ∃ l1 l2, l = l1 ++ l2 ∧ insE lt x l = l1 ++ [x] ++ l2 ∧ (∀ y ∈ l1, lt x y = false) ∧ (∀ y ∈ l2, lt x y = true) := by
  have hc := scan_cut h (x := x) ho l.length (Nat.le_refl _)
  rw [List.take_length] at hc
  exact ⟨l.take (scanE lt x l l.length), l.drop (scanE lt x l l.length), (List.take_append_drop _ _).symm, rfl, hc.1, hc.2⟩
/-- Where it comes in is settled by what is before it and what is behind it. -/
theorem ins_at {x : α} : ∀ {l2 l1 : List α}, (∀ y ∈ l1, lt x y = false) → (∀ y ∈ l2, lt x y = true) → insE lt x (l1 ++ l2) = l1 ++ [x] ++ l2 := by
  intro l2 l1 h1 h2
  have key : ∀ n, n ≤ l2.length → scanE lt x (l1 ++ l2) (l1.length + n) = l1.length := by
    intro n
    induction n with
    | zero =>
      intro _
      rw [Nat.add_zero]
      cases hl : l1.length with
      | zero => rfl
      | succ m =>
        have hm : m < l1.length := by omega
        have hg : (l1 ++ l2)[m]? = some l1[m] := by rw [List.getElem?_append_left hm]; exact List.getElem?_eq_getElem hm
        exact scanE_no hg (h1 _ (List.getElem_mem hm))
    | succ n ih =>
      intro hn
      have hg : (l1 ++ l2)[l1.length + n]? = some l2[n] := by rw [List.getElem?_append_right (by omega), Nat.add_sub_cancel_left]; exact List.getElem?_eq_getElem (by omega)
      rw [← Nat.add_assoc, scanE_yes hg (h2 _ (List.getElem_mem (by omega)))]
      exact ih (by omega)
  unfold insE
  rw [List.length_append, key _ (Nat.le_refl _), List.take_left, List.drop_left]
theorem ino_ins (h : Weak lt) {x : α} {l : List α} (ho : InO lt l) : InO lt (insE lt x l) := by
  obtain ⟨l1, l2, rfl, e, h1, h2⟩ := ins_cut h (x := x) ho
  rw [e]
  unfold InO at *
  rw [List.pairwise_append] at ho
  rw [List.append_assoc, List.pairwise_append]
  refine ⟨ho.1, ?_, fun y hy z hz => ?_⟩
  · show ((x :: l2)).Pairwise _
    rw [List.pairwise_cons]
    exact ⟨fun y hy => h.asym (h2 y hy), ho.2.1⟩
  · rcases List.mem_append.1 hz with hz | hz
    · rw [List.mem_singleton.1 hz]; exact h1 y hy
    · exact ho.2.2 y hy z hz
theorem snoc_ind {p : List α → Prop} (h0 : p []) (h1 : ∀ l x, p l → p (l ++ [x])) : ∀ l, p l := by
  intro l
  have : ∀ n (l : List α), l.length = n → p l := by
    intro n
    induction n with
    | zero => intro l hl; rw [List.eq_nil_of_length_eq_zero hl]; exact h0
    | succ n ih =>
      intro l hl
      have hne : l ≠ [] := fun e => by subst e; simp at hl
      rw [← List.dropLast_concat_getLast hne]
      exact h1 _ _ (ih _ (by simp; omega))
  exact this _ l rfl
theorem ino_sort (h : Weak lt) : ∀ l : List α, InO lt (isortE lt l) := by
  refine snoc_ind (by unfold InO isortE; simp) fun l x ih => ?_
  rw [isortE_snoc]
  exact ino_ins h ih
theorem ins_mg (h : Weak lt) {x : α} {l r : List α} (hl : InO lt l) (hr : InO lt r) : insE lt x (mg lt l r) = mg lt l (insE lt x r) := by
  obtain ⟨l1, l2, rfl, -, a1, a2⟩ := ins_cut h (x := x) hl
  obtain ⟨r1, r2, rfl, e, b1, b2⟩ := ins_cut h (x := x) hr
  have hmem : ∀ (l r : List α) (y : α), y ∈ mg lt l r → y ∈ l ∨ y ∈ r := by
    intro l r
    induction l, r using mg.induct (lt := lt) with
    | case1 r => intro y hy; rw [mg_nl] at hy; exact .inr hy
    | case2 a l => intro y hy; rw [mg_nil] at hy; exact .inl hy
    | case3 a l b r hc ih =>
      intro y hy
      rw [mg_right hc] at hy
      rcases List.mem_cons.1 hy with rfl | hy
      · exact .inr (by simp)
      · rcases ih y hy with h | h
        · exact .inl h
        · exact .inr (by simp [h])
    | case4 a l b r hc ih =>
      intro y hy
      rw [mg_left (by simpa using hc)] at hy
      rcases List.mem_cons.1 hy with rfl | hy
      · exact .inl (by simp)
      · rcases ih y hy with h | h
        · exact .inl (by simp [h])
        · exact .inr h
  have c1 : ∀ u ∈ l1, ∀ v ∈ r2, lt v u = false := fun u hu v hv => h.nt v x u (h.asym (b2 v hv)) (a1 u hu)
  have c2 : ∀ u ∈ l2, ∀ v ∈ r1, lt v u = true := fun u hu v hv => h.le_lt (b1 v hv) (a2 u hu)
  rw [e, mg_split l1 r1 c1 c2, ins_at]
  · have e1 : mg lt l1 (r1 ++ [x]) = mg lt l1 r1 ++ [x] := by
      have := mg_split (lt := lt) l1 r1 (l2 := []) (r2 := [x]) (fun u hu v hv => by rw [List.mem_singleton.1 hv]; exact a1 u hu) (fun u hu => by simp at hu)
      rw [List.append_nil, mg_nl] at this
      exact this
    rw [mg_split l1 (r1 ++ [x]) c1 (fun u hu v hv => by
      rcases List.mem_append.1 hv with hv | hv
      · exact c2 u hu v hv
      · rw [List.mem_singleton.1 hv]; exact a2 u hu), e1]
  · intro y hy
    rcases hmem _ _ _ hy with hy | hy
    · exact a1 y hy
    · exact b1 y hy
  · intro y hy
    rcases hmem _ _ _ hy with hy | hy
    · exact a2 y hy
    · exact b2 y hy
theorem sort_app (h : Weak lt) (l : List α) : ∀ m : List α, isortE lt (l ++ m) = mg lt (isortE lt l) (isortE lt m) := by
  refine snoc_ind (by rw [List.append_nil]; exact (mg_nil _).symm) fun m x ih => ?_
  rw [← List.append_assoc, isortE_snoc, isortE_snoc, ih, ins_mg h (ino_sort h l) (ino_sort h m)]
end mg
end Go.Mw
namespace Go.Dr

structure PS where
  all : Int
  ct : Int
  now : Int
  last : Int
  any : Bool
def lowI (now n : Int) : Int := if n < 0 then now + n else now + 1
def highI (now n : Int) : Int := if n < 0 then now - 1 else now + n
def leastI (at_ L : Int) : Int := L + (at_ - L) % 10000
def mostI (at_ H : Int) : Int := H - (H - at_) % 10000
def timesI (at_ now n : Int) : Int := (mostI at_ (highI now n) - leastI at_ (lowI now n)) / 10000 + 1
def beginI (at_ now n : Int) : Int := if n < 0 then mostI at_ (highI now n) else leastI at_ (lowI now n)
def endI (at_ now n : Int) : Int := if n < 0 then leastI at_ (lowI now n) else mostI at_ (highI now n)
def pStep (at_ : Int) (s : PS) (n : Int) : PS := if leastI at_ (lowI s.now n) > mostI at_ (highI s.now n) then { s with now := s.now + n }
  else ⟨s.all + timesI at_ s.now n, s.ct + timesI at_ s.now n - (if s.any = true ∧ beginI at_ s.now n = s.last then 1 else 0), s.now + n, endI at_ s.now n, true⟩
def pS (at_ start : Int) (l : List Int) : PS := l.foldl (pStep at_) ⟨0, 0, start, 0, false⟩
theorem pS_snoc (at_ start : Int) (l : List Int) (n : Int) : pS at_ start (l ++ [n]) = pStep at_ (pS at_ start l) n := by unfold pS; rw [List.foldl_append]; rfl
theorem pS_nil (at_ start : Int) : pS at_ start [] = ⟨0, 0, start, 0, false⟩ := rfl
def pulsesR (r : Reg) (l : List Int) (at_ : Int) : Int × Int × Int := if errD r l = 0 then (if inD at_ 0 9999 = true then ((pS at_ r.start l).ct, (pS at_ r.start l).all, 0) else (0, 0, 2)) else (0, 0, errD r l)

theorem least_le {at_ L H : Int} (h : leastI at_ L ≤ H) : mostI at_ H = leastI at_ L + 10000 * ((H - leastI at_ L) / 10000) ∧ leastI at_ L ≤ mostI at_ H := by
  unfold leastI mostI at *; omega
theorem least_gt {at_ L H : Int} (h : ¬ leastI at_ L ≤ H) : mostI at_ H < leastI at_ L := by
  unfold leastI mostI at *; omega
theorem least_no (at_ L : Int) : leastI at_ L ≠ at_ + 1 := by unfold leastI; omega
theorem most_no (at_ H : Int) : mostI at_ H ≠ at_ + 1 := by unfold mostI; omega
theorem begin_no (at_ now n : Int) : beginI at_ now n ≠ at_ + 1 := by
  unfold beginI; split
  · exact most_no _ _
  · exact least_no _ _
theorem sum_snoc (l : List Int) (n : Int) : sumD (l ++ [n]) = sumD l + n := by
  induction l with
  | nil => simp [sumD]
  | cons a l ih => simp only [List.cons_append, sumD, ih]; omega
theorem step_now (at_ : Int) (s : PS) (n : Int) : (pStep at_ s n).now = s.now + n := by unfold pStep; split <;> rfl
theorem step_all (at_ : Int) (s : PS) (n : Int) : s.all ≤ (pStep at_ s n).all ∧ s.ct ≤ (pStep at_ s n).ct ∧ (pStep at_ s n).all - (pStep at_ s n).ct ≥ s.all - s.ct := by
  unfold pStep
  split
  · exact ⟨Int.le_refl _, Int.le_refl _, Int.le_refl _⟩
  · rename_i h
    have : 1 ≤ timesI at_ s.now n := by unfold timesI; omega
    simp only
    split <;> omega
/-- A snoc-list's induction. -/
theorem snoc_ind {α : Type} {p : List α → Prop} (h0 : p []) (h1 : ∀ l a, p l → p (l ++ [a])) (l : List α) : p l := by
  have : ∀ k, k ≤ l.length → p (l.take k) := by
    intro k
    induction k with
    | zero => intro _; simpa using h0
    | succ k ih =>
      intro hk
      have e : l.take (k + 1) = l.take k ++ [l[k]] := List.take_succ_eq_append_getElem (by omega)
      rw [e]
      exact h1 _ _ (ih (by omega))
  simpa using this l.length (Nat.le_refl _)
theorem pS_now (at_ start : Int) (l : List Int) : (pS at_ start l).now = start + sumD l := by
  refine snoc_ind (p := fun l => (pS at_ start l).now = start + sumD l) ?_ (fun l a h => ?_) l
  · simp [pS_nil, sumD]
  · rw [pS_snoc, step_now, h, sum_snoc]; omega
theorem sum_bnd : ∀ {l : List Int}, (∀ n ∈ l, -1099511627776 ≤ n ∧ n ≤ 1099511627776) → -1099511627776 * (l.length : Int) ≤ sumD l ∧ sumD l ≤ 1099511627776 * (l.length : Int)
  | [], _ => by simp [sumD]
  | n :: l, h => by
    have h1 := h n (by simp)
    have h2 := sum_bnd (l := l) fun x hx => h x (List.mem_cons_of_mem _ hx)
    simp only [sumD, List.length_cons]
    omega

/-- Where a row of runs has gone, and how often it has turned. -/
structure US where
  up : Bool
  turns : Int
  lastr : Int
def uStep (s : US) (n : Int) : US := ⟨s.up && decide (n ≥ 0), if n ≠ 0 then (if s.lastr ≠ 0 ∧ ¬ (s.lastr > 0 ↔ n > 0) then s.turns + 1 else s.turns) else s.turns, if n ≠ 0 then n else s.lastr⟩
def uS (l : List Int) : US := l.foldl uStep ⟨true, 0, 0⟩
theorem uS_snoc (l : List Int) (n : Int) : uS (l ++ [n]) = uStep (uS l) n := by unfold uS; rw [List.foldl_append]; rfl
def untilI (at_ x : Int) : Int := (x - at_ + 10000) / 10000
theorem low_up {now n : Int} (h : 0 ≤ n) : lowI now n = now + 1 ∧ highI now n = now + n := by unfold lowI highI; rw [if_neg (by omega), if_neg (by omega)]; exact ⟨rfl, rfl⟩
theorem low_dn {now n : Int} (h : n < 0) : lowI now n = now + n ∧ highI now n = now - 1 := by unfold lowI highI; rw [if_pos h, if_pos h]; exact ⟨rfl, rfl⟩
theorem be_up {at_ now n : Int} (h : 0 ≤ n) : beginI at_ now n = leastI at_ (now + 1) ∧ endI at_ now n = mostI at_ (now + n) := by
  have := low_up (now := now) h
  unfold beginI endI; rw [if_neg (by omega), if_neg (by omega), this.1, this.2]; exact ⟨rfl, rfl⟩
theorem be_dn {at_ now n : Int} (h : n < 0) : beginI at_ now n = mostI at_ (now - 1) ∧ endI at_ now n = leastI at_ (now + n) := by
  have := low_dn (now := now) h
  unfold beginI endI; rw [if_pos h, if_pos h, this.1, this.2]; exact ⟨rfl, rfl⟩
theorem least_ge (at_ L : Int) : L ≤ leastI at_ L := by unfold leastI; omega
theorem most_le (at_ H : Int) : mostI at_ H ≤ H := by unfold mostI; omega
def InvT (p : PS) (u : US) : Prop := 0 ≤ u.turns ∧ 0 ≤ p.ct ∧ p.ct ≤ p.all ∧ ∃ T0, p.all - p.ct ≤ T0 ∧ T0 ≤ u.turns ∧ (p.any = true → u.turns = T0 → (u.lastr > 0 ∧ p.last ≤ p.now) ∨ (u.lastr < 0 ∧ p.now ≤ p.last)) ∧ (p.any = false → p.all - p.ct = 0)
theorem inv_step {at_ : Int} {p : PS} {u : US} (h : InvT p u) (n : Int) : InvT (pStep at_ p n) (uStep u n) := by
  obtain ⟨h1, h2, h3, T0, h4, h5, h6, h7⟩ := h
  obtain ⟨al, ct, now, last, any⟩ := p
  obtain ⟨up, turns, lastr⟩ := u
  simp only at h1 h2 h3 h4 h5 h6 h7
  rcases Int.lt_trichotomy n 0 with hn | hn | hn
  · have hd := low_dn (now := now) hn
    have hb := be_dn (at_ := at_) (now := now) hn
    have g1 := least_ge at_ (now + n)
    have g2 := most_le at_ (now - 1)
    unfold pStep uStep
    simp only [hd.1, hd.2, hb.1, hb.2, if_pos (show n ≠ 0 by omega)]
    have ht : 1 ≤ timesI at_ now n ∨ leastI at_ (now + n) > mostI at_ (now - 1) := by unfold timesI; rw [hd.1, hd.2]; omega
    generalize timesI at_ now n = tt at *
    generalize leastI at_ (now + n) = lo at *
    generalize mostI at_ (now - 1) = hi at *
    by_cases hc : lo > hi
    · rw [if_pos hc]
      refine ⟨by simp only; split <;> omega, h2, h3, T0, h4, by simp only; split <;> omega, fun ha ht0 => ?_, h7⟩
      simp only at ha ht0 ⊢
      right
      by_cases hl : lastr ≠ 0 ∧ ¬ (lastr > 0 ↔ n > 0)
      · rw [if_pos hl] at ht0; omega
      · rw [if_neg hl] at ht0
        rcases h6 ha ht0 with h | h
        · exfalso; apply hl; omega
        · omega
    · rw [if_neg hc]
      have ht : 1 ≤ tt := by omega
      refine ⟨by simp only; split <;> omega, by simp only; split <;> omega, by simp only; split <;> omega, _, ?_, Int.le_refl _, fun _ _ => .inr ⟨hn, by simp only; omega⟩, fun h => by cases h⟩
      simp only
      by_cases hbn : any = true ∧ hi = last
      · rw [if_pos hbn]
        by_cases hl : lastr ≠ 0 ∧ ¬ (lastr > 0 ↔ n > 0)
        · rw [if_pos hl]; omega
        · rw [if_neg hl]
          by_cases ht0 : turns = T0
          · rcases h6 hbn.1 ht0 with h | h
            · exfalso; apply hl; omega
            · omega
          · omega
      · rw [if_neg hbn]; split <;> omega
  · subst hn
    have hd := low_up (now := now) (Int.le_refl 0)
    have g1 := least_ge at_ (now + 1)
    have g2 := most_le at_ (now + 0)
    unfold pStep uStep
    simp only [hd.1, hd.2]
    rw [if_pos (by omega)]
    refine ⟨by simpa using h1, h2, h3, T0, h4, by simpa using h5, fun ha ht0 => ?_, h7⟩
    simp only [Int.add_zero] at ha ht0 ⊢
    exact h6 ha (by simpa using ht0)
  · have hd := low_up (now := now) (Int.le_of_lt hn)
    have hb := be_up (at_ := at_) (now := now) (Int.le_of_lt hn)
    have g1 := least_ge at_ (now + 1)
    have g2 := most_le at_ (now + n)
    unfold pStep uStep
    simp only [hd.1, hd.2, hb.1, hb.2, if_pos (show n ≠ 0 by omega)]
    have ht : 1 ≤ timesI at_ now n ∨ leastI at_ (now + 1) > mostI at_ (now + n) := by unfold timesI; rw [hd.1, hd.2]; omega
    generalize timesI at_ now n = tt at *
    generalize leastI at_ (now + 1) = lo at *
    generalize mostI at_ (now + n) = hi at *
    by_cases hc : lo > hi
    · rw [if_pos hc]
      refine ⟨by simp only; split <;> omega, h2, h3, T0, h4, by simp only; split <;> omega, fun ha ht0 => ?_, h7⟩
      simp only at ha ht0 ⊢
      left
      by_cases hl : lastr ≠ 0 ∧ ¬ (lastr > 0 ↔ n > 0)
      · rw [if_pos hl] at ht0; omega
      · rw [if_neg hl] at ht0
        rcases h6 ha ht0 with h | h
        · omega
        · exfalso; apply hl; omega
    · rw [if_neg hc]
      have ht : 1 ≤ tt := by omega
      refine ⟨by simp only; split <;> omega, by simp only; split <;> omega, by simp only; split <;> omega, _, ?_, Int.le_refl _, fun _ _ => .inl ⟨hn, by simp only; omega⟩, fun h => by cases h⟩
      simp only
      by_cases hbn : any = true ∧ lo = last
      · rw [if_pos hbn]
        by_cases hl : lastr ≠ 0 ∧ ¬ (lastr > 0 ↔ n > 0)
        · rw [if_pos hl]; omega
        · rw [if_neg hl]
          by_cases ht0 : turns = T0
          · rcases h6 hbn.1 ht0 with h | h
            · omega
            · exfalso; apply hl; omega
          · omega
      · rw [if_neg hbn]; split <;> omega
theorem inv_all (at_ start : Int) (l : List Int) : InvT (pS at_ start l) (uS l) := by
  refine snoc_ind (p := fun l => InvT (pS at_ start l) (uS l)) ?_ (fun l a h => ?_) l
  · exact ⟨by simp [uS], by simp [pS], by simp [pS], 0, by simp [pS], by simp [uS], fun h => by simp [pS] at h, fun _ => by simp [pS]⟩
  · rw [pS_snoc, uS_snoc]; exact inv_step h a
theorem pulse_turns (at_ start : Int) (l : List Int) : 0 ≤ (pS at_ start l).ct ∧ (pS at_ start l).ct ≤ (pS at_ start l).all ∧ (pS at_ start l).all - (pS at_ start l).ct ≤ (uS l).turns := by
  obtain ⟨h1, h2, h3, T0, h4, h5, _⟩ := inv_all at_ start l
  exact ⟨h2, h3, by omega⟩
/-- Runs of which none is below 0. -/
theorem pulse_up (at_ start : Int) (l : List Int) : (uS l).up = true → (pS at_ start l).ct = (pS at_ start l).all ∧ (pS at_ start l).all = untilI at_ (start + sumD l) - untilI at_ start ∧ ((pS at_ start l).any = true → (pS at_ start l).last ≤ start + sumD l) := by
  refine snoc_ind (p := fun l => (uS l).up = true → (pS at_ start l).ct = (pS at_ start l).all ∧ (pS at_ start l).all = untilI at_ (start + sumD l) - untilI at_ start ∧ ((pS at_ start l).any = true → (pS at_ start l).last ≤ start + sumD l)) ?_ (fun l n ih hu => ?_) l
  · intro _; simp [pS, sumD]
  · rw [uS_snoc] at hu
    unfold uStep at hu
    simp only [Bool.and_eq_true, decide_eq_true_eq] at hu
    obtain ⟨i1, i2, i3⟩ := ih hu.1
    have hn := hu.2
    have hnow := pS_now at_ start l
    rw [pS_snoc, sum_snoc]
    generalize pS at_ start l = p at *
    obtain ⟨al, ct, now, last, any⟩ := p
    simp only at i1 i2 i3 hnow
    have hd := low_up (now := now) hn
    have hb := be_up (at_ := at_) (now := now) hn
    unfold pStep
    simp only [hd.1, hd.2, hb.1, hb.2]
    have g1 := least_ge at_ (now + 1)
    have g2 := most_le at_ (now + n)
    by_cases hc : leastI at_ (now + 1) > mostI at_ (now + n)
    · rw [if_pos hc]
      refine ⟨i1, ?_, fun ha => ?_⟩
      · simp only
        unfold leastI mostI untilI at *
        omega
      · have := i3 ha
        simp only; omega
    · rw [if_neg hc]
      have hnb : ¬ (any = true ∧ leastI at_ (now + 1) = last) := fun h => by
        have := i3 h.1; omega
      rw [if_neg hnb]
      refine ⟨by simp only; omega, ?_, fun _ => by simp only; omega⟩
      simp only
      unfold timesI
      rw [hd.1, hd.2]
      unfold leastI mostI untilI at *
      omega
/-- A run and the same run back. -/
theorem pulse_back (at_ start : Int) (l : List Int) {n : Int} (hn : 0 < n) : -1 ≤ ((pS at_ start (l ++ [n] ++ [-n])).all - (pS at_ start (l ++ [n])).all) - ((pS at_ start (l ++ [n])).all - (pS at_ start l).all) ∧
    ((pS at_ start (l ++ [n] ++ [-n])).all - (pS at_ start (l ++ [n])).all) - ((pS at_ start (l ++ [n])).all - (pS at_ start l).all) ≤ 1 := by
  rw [pS_snoc at_ start (l ++ [n]), pS_snoc]
  generalize pS at_ start l = p
  have key : ∀ (p : PS) (m : Int), (pStep at_ p m).all - p.all = if leastI at_ (lowI p.now m) > mostI at_ (highI p.now m) then 0 else timesI at_ p.now m := fun p m => by
    unfold pStep
    split
    · simp
    · simp only; omega
  rw [key, key, step_now]
  have hd := low_up (now := p.now) (Int.le_of_lt hn)
  have hd2 := low_dn (now := p.now + n) (n := -n) (by omega)
  unfold timesI
  rw [hd.1, hd.2, hd2.1, hd2.2]
  unfold leastI mostI
  constructor
  · split <;> split <;> omega
  · split <;> split <;> omega
end Go.Dr
namespace Go.Dr

structure Span where
  lo : Int
  hi : Int
deriving DecidableEq, Inhabited
def withinB (p x m : Int) : Bool := inD (p - 1000 * x) (-m) m || inD (p - 1000 * x - 10000) (-m) m
theorem within_iff {p x m : Int} : withinB p x m = true ↔ (-m ≤ p - 1000 * x ∧ p - 1000 * x ≤ m) ∨ (-m ≤ p - 1000 * x - 10000 ∧ p - 1000 * x - 10000 ≤ m) := by
  unfold withinB; rw [Bool.or_eq_true, inD_iff, inD_iff]
/-- Does each drum stand as it was read? -/
def fitsB (fs : List Int) (t m : Int) : Bool := (List.range fs.length).all fun k => withinB (placeD t k) (fs[k]?.getD 0) m
theorem fits_iff {fs : List Int} {t m : Int} : fitsB fs t m = true ↔ ∀ k x, fs[k]? = some x → withinB (placeD t k) x m = true := by
  unfold fitsB
  rw [List.all_eq_true]
  constructor
  · intro h k x hx
    have := h k (List.mem_range.2 (List.getElem?_eq_some_iff.1 hx).1)
    rw [hx] at this; exact this
  · intro h k hk
    have hk := List.mem_range.1 hk
    rw [List.getElem?_eq_getElem hk]
    exact h k _ (List.getElem?_eq_getElem hk)

/-- The drums from some one on, with what the one before it carries. -/
def fitsH (m : Int) : List Int → Int → Int → Prop
  | [], Q, _ => Q = 0
  | x :: r, Q, c => withinB (1000 * (Q % 10) + c) x m = true ∧ fitsH m r (Q / 10) (if Q % 10 = 9 then c else 0)
theorem fitsH_cons (m x : Int) (r : List Int) (Q c : Int) : fitsH m (x :: r) Q c = (withinB (1000 * (Q % 10) + c) x m = true ∧ fitsH m r (Q / 10) (if Q % 10 = 9 then c else 0)) := rfl
def carryD (p : Int) : Int := max 0 (p - 9000)
theorem pow10_div (t : Int) (k : Nat) : t / (1000 * pow10 (k + 1)) = t / (1000 * pow10 k) / 10 := by
  have h := pow10_pos k
  rw [pow10_succ, Int.ediv_ediv_of_nonneg (by omega), Int.mul_assoc, Int.mul_comm (pow10 k) 10]
theorem fitsH_from {m t : Int} : ∀ (r : List Int) (k : Nat), fitsH m r (t / (1000 * pow10 (k + 1))) (carryD (placeD t k)) ↔ (∀ j x, r[j]? = some x → withinB (placeD t (k + 1 + j)) x m = true) ∧ t / (1000 * pow10 (k + 1 + r.length)) = 0
  | [], k => by
    constructor
    · intro h
      exact ⟨fun j x hx => by simp at hx, h⟩
    · intro h; exact h.2
  | x :: r, k => by
    have e : placeD t (k + 1) = 1000 * (t / (1000 * pow10 (k + 1)) % 10) + carryD (placeD t k) := rfl
    have hc : carryD (placeD t (k + 1)) = if t / (1000 * pow10 (k + 1)) % 10 = 9 then carryD (placeD t k) else 0 := by
      have hb := place_bnd t k
      rw [e]
      unfold carryD
      split <;> omega
    have ih := fitsH_from r (k + 1) (m := m) (t := t)
    rw [hc, pow10_div t (k + 1)] at ih
    rw [fitsH_cons, ← e, ih]
    have hl : k + 1 + (x :: r).length = k + 1 + 1 + r.length := by simp only [List.length_cons]; omega
    rw [hl]
    constructor
    · rintro ⟨h1, h2, h3⟩
      refine ⟨fun j y hy => ?_, h3⟩
      cases j with
      | zero => simp at hy; subst hy; exact h1
      | succ j =>
        have := h2 j y (by simpa using hy)
        rw [show k + 1 + (j + 1) = k + 1 + 1 + j by omega]; exact this
    · rintro ⟨h1, h3⟩
      refine ⟨h1 0 x rfl, fun j y hy => ?_, h3⟩
      have := h1 (j + 1) y (by simpa using hy)
      rw [show k + 1 + 1 + j = k + 1 + (j + 1) by omega]; exact this
theorem div_lt {t n : Int} (hn : 0 < n) (ht : 0 ≤ t) : t / n = 0 ↔ t < n := by
  constructor
  · intro h
    have := Int.lt_mul_ediv_self_add (x := t) hn
    rw [h] at this; omega
  · intro h; exact Int.ediv_eq_zero_of_lt ht h
/-- All drums: the first one, and those from the second one on. -/
theorem fits_split {x : Int} {r : List Int} {t m : Int} (ht : 0 ≤ t) : (fitsB (x :: r) t m = true ∧ t < 1000 * pow10 (r.length + 1)) ↔ withinB (t % 10000) x m = true ∧ fitsH m r (t / 10000) (carryD (t % 10000)) := by
  have h := fitsH_from (m := m) (t := t) r 0
  have e0 : placeD t 0 = t % 10000 := rfl
  have e1 : (1000 : Int) * pow10 (0 + 1) = 10000 := by decide
  have hp := pow10_pos (r.length + 1)
  rw [e0, e1, show 0 + 1 + r.length = r.length + 1 by omega, div_lt (by omega) ht] at h
  rw [h, fits_iff]
  constructor
  · rintro ⟨h1, h2⟩
    exact ⟨h1 0 x rfl, fun j y hy => by rw [show 0 + 1 + j = j + 1 by omega]; exact h1 (j + 1) y (by simpa using hy), h2⟩
  · rintro ⟨h1, h2, h3⟩
    refine ⟨fun k y hy => ?_, h3⟩
    cases k with
    | zero => simp at hy; subst hy; exact h1
    | succ j => rw [show j + 1 = 0 + 1 + j by omega]; exact h2 j y (by simpa using hy)

/-- The totals of a reading, without those of the first drum, and what it must carry. -/
def totR (m : Int) : List Int → Int → Int → Bool → Int → Int → List (Int × Int × Int)
  | [], b, _, _, lo, hi => [(b, lo, hi)]
  | x :: r, b, pw, true, lo, hi => (if lo > min hi m then [] else totR m r (b + x * pw) (10 * pw) (x == 9) lo (min hi m)) ++ (if max lo (1000 - m) > hi then [] else totR m r (b + (x + 9) % 10 * pw) (10 * pw) ((x + 9) % 10 == 9) (max lo (1000 - m)) hi)
  | x :: r, b, pw, false, lo, hi => totR m r (b + x * pw) (10 * pw) false lo hi
theorem totR_t (m x : Int) (r : List Int) (b pw lo hi : Int) : totR m (x :: r) b pw true lo hi = (if lo > min hi m then [] else totR m r (b + x * pw) (10 * pw) (x == 9) lo (min hi m)) ++ (if max lo (1000 - m) > hi then [] else totR m r (b + (x + 9) % 10 * pw) (10 * pw) ((x + 9) % 10 == 9) (max lo (1000 - m)) hi) := rfl
theorem totR_f (m x : Int) (r : List Int) (b pw lo hi : Int) : totR m (x :: r) b pw false lo hi = totR m r (b + x * pw) (10 * pw) false lo hi := rfl
def figsB (l : List Int) : Bool := l.all (fun n => inD n 0 9) && inD l.length 1 6
theorem tot_base {m : Int} : ∀ {fs : List Int} {b pw : Int} {ch : Bool} {lo hi : Int} {e : Int × Int × Int}, (∀ x ∈ fs, 0 ≤ x ∧ x ≤ 9) → e ∈ totR m fs b pw ch lo hi → ∃ Q, 0 ≤ Q ∧ e.1 = b + Q * pw
  | [], b, pw, ch, lo, hi, e, _, h => by
    unfold totR at h
    rw [List.mem_singleton.1 h]
    exact ⟨0, by omega, by simp⟩
  | x :: r, b, pw, ch, lo, hi, e, hf, h => by
    have hx := hf x (by simp)
    have hr : ∀ x ∈ r, 0 ≤ x ∧ x ≤ 9 := fun y hy => hf y (List.mem_cons_of_mem _ hy)
    have key : ∀ {d : Int} {ch lo hi}, 0 ≤ d → e ∈ totR m r (b + d * pw) (10 * pw) ch lo hi → ∃ Q, 0 ≤ Q ∧ e.1 = b + Q * pw := fun {d ch lo hi} hd h => by
      obtain ⟨Q, hQ, hE⟩ := tot_base hr h
      refine ⟨d + 10 * Q, by omega, ?_⟩
      rw [hE, Int.add_mul, Int.add_assoc, ← Int.mul_assoc, Int.mul_comm Q 10]
    cases ch with
    | false => exact key hx.1 h
    | true =>
      rw [totR_t] at h
      rcases List.mem_append.1 h with h | h
      · split at h
        · cases h
        · exact key hx.1 h
      · split at h
        · cases h
        · exact key (by omega) h
theorem tot_mem {m : Int} (hm : 0 ≤ m ∧ m ≤ 999) {c : Int} (hc : 0 ≤ c ∧ c ≤ 999) : ∀ {fs : List Int} {b pw : Int} {ch : Bool} {lo hi Q : Int}, (∀ x ∈ fs, 0 ≤ x ∧ x ≤ 9) → 0 < pw → 0 ≤ Q →
    ((∃ e ∈ totR m fs b pw ch lo hi, e.1 = b + Q * pw ∧ e.2.1 ≤ c ∧ c ≤ e.2.2) ↔ (lo ≤ c ∧ c ≤ hi) ∧ fitsH m fs Q (if ch = true then c else 0))
  | [], b, pw, ch, lo, hi, Q, _, hp, hQ => by
    unfold totR fitsH
    constructor
    · rintro ⟨e, he, h1, h2⟩
      rw [List.mem_singleton.1 he] at h1 h2
      refine ⟨h2, ?_⟩
      have : Q * pw = 0 := by simp only at h1; omega
      rcases Int.mul_eq_zero.1 this with h | h
      · exact h
      · omega
    · rintro ⟨h1, h2⟩
      exact ⟨_, List.mem_singleton.2 rfl, by rw [h2]; simp, h1⟩
  | x :: r, b, pw, ch, lo, hi, Q, hf, hp, hQ => by
    have hx := hf x (by simp)
    have hr : ∀ x ∈ r, 0 ≤ x ∧ x ≤ 9 := fun y hy => hf y (List.mem_cons_of_mem _ hy)
    have sub : ∀ {d : Int} {ch lo hi}, 0 ≤ d → d ≤ 9 → ((∃ e ∈ totR m r (b + d * pw) (10 * pw) ch lo hi, e.1 = b + Q * pw ∧ e.2.1 ≤ c ∧ c ≤ e.2.2) ↔ Q % 10 = d ∧ (lo ≤ c ∧ c ≤ hi) ∧ fitsH m r (Q / 10) (if ch = true then c else 0)) := fun {d ch lo hi} hd hd9 => by
      have ih := tot_mem hm hc (fs := r) (b := b + d * pw) (pw := 10 * pw) (ch := ch) (lo := lo) (hi := hi) (Q := Q / 10) hr (by omega) (by omega)
      constructor
      · rintro ⟨e, he, h1, h2⟩
        obtain ⟨Q', hQ', hE⟩ := tot_base hr he
        have h3 : (Q - (d + 10 * Q')) * pw = 0 := by
          have e1 : (Q - (d + 10 * Q')) * pw = Q * pw - (d * pw + Q' * (10 * pw)) := by
            rw [Int.sub_mul, Int.add_mul, ← Int.mul_assoc Q' 10, Int.mul_comm Q' 10]
          omega
        have h4 : Q = d + 10 * Q' := by
          rcases Int.mul_eq_zero.1 h3 with h | h <;> omega
        have h5 : Q % 10 = d ∧ Q / 10 = Q' := by omega
        refine ⟨h5.1, ih.1 ⟨e, he, ?_, h2⟩⟩
        rw [h5.2]; exact hE
      · rintro ⟨h1, h2⟩
        obtain ⟨e, he, h3, h4⟩ := ih.2 h2
        refine ⟨e, he, ?_, h4⟩
        rw [h3]
        have h6 : Q = d + 10 * (Q / 10) := by omega
        have e1 : Q * pw = d * pw + Q / 10 * (10 * pw) := by
          conv => lhs; rw [h6]
          rw [Int.add_mul, ← Int.mul_assoc (Q / 10) 10, Int.mul_comm (Q / 10) 10]
        omega
    have hq : 0 ≤ Q % 10 ∧ Q % 10 ≤ 9 := by omega
    cases ch with
    | false =>
      show (∃ e ∈ totR m r (b + x * pw) (10 * pw) false lo hi, e.1 = b + Q * pw ∧ e.2.1 ≤ c ∧ c ≤ e.2.2) ↔ _
      rw [sub hx.1 hx.2]
      rw [fitsH_cons]
      simp only [Bool.false_eq_true, if_false, ite_self, Int.add_zero]
      rw [within_iff]
      constructor
      · rintro ⟨h1, h2, h3⟩; exact ⟨h2, by omega, h3⟩
      · rintro ⟨h2, h1, h3⟩; exact ⟨by omega, h2, h3⟩
    | true =>
      have e1 : (∃ e ∈ totR m (x :: r) b pw true lo hi, e.1 = b + Q * pw ∧ e.2.1 ≤ c ∧ c ≤ e.2.2) ↔
          (∃ e ∈ (if lo > min hi m then [] else totR m r (b + x * pw) (10 * pw) (x == 9) lo (min hi m)), e.1 = b + Q * pw ∧ e.2.1 ≤ c ∧ c ≤ e.2.2) ∨ (∃ e ∈ (if max lo (1000 - m) > hi then [] else totR m r (b + (x + 9) % 10 * pw) (10 * pw) ((x + 9) % 10 == 9) (max lo (1000 - m)) hi), e.1 = b + Q * pw ∧ e.2.1 ≤ c ∧ c ≤ e.2.2) := by
        rw [totR_t]
        constructor
        · rintro ⟨e, he, h⟩
          rcases List.mem_append.1 he with he | he
          · exact .inl ⟨e, he, h⟩
          · exact .inr ⟨e, he, h⟩
        · rintro (⟨e, he, h⟩ | ⟨e, he, h⟩)
          · exact ⟨e, List.mem_append.2 (.inl he), h⟩
          · exact ⟨e, List.mem_append.2 (.inr he), h⟩
      have a1 : (∃ e ∈ (if lo > min hi m then [] else totR m r (b + x * pw) (10 * pw) (x == 9) lo (min hi m)), e.1 = b + Q * pw ∧ e.2.1 ≤ c ∧ c ≤ e.2.2) ↔ Q % 10 = x ∧ (lo ≤ c ∧ c ≤ min hi m) ∧ fitsH m r (Q / 10) (if (x == 9) = true then c else 0) := by
        split
        · constructor
          · rintro ⟨e, he, _⟩; cases he
          · rintro ⟨_, h, _⟩; omega
        · exact sub hx.1 hx.2
      have a2 : (∃ e ∈ (if max lo (1000 - m) > hi then [] else totR m r (b + (x + 9) % 10 * pw) (10 * pw) ((x + 9) % 10 == 9) (max lo (1000 - m)) hi), e.1 = b + Q * pw ∧ e.2.1 ≤ c ∧ c ≤ e.2.2) ↔ Q % 10 = (x + 9) % 10 ∧ (max lo (1000 - m) ≤ c ∧ c ≤ hi) ∧ fitsH m r (Q / 10) (if ((x + 9) % 10 == 9) = true then c else 0) := by
        split
        · constructor
          · rintro ⟨e, he, _⟩; cases he
          · rintro ⟨_, h, _⟩; omega
        · exact sub (by omega) (by omega)
      rw [e1, a1, a2]
      rw [fitsH_cons]
      simp only [if_true]
      rw [within_iff]
      simp only [beq_iff_eq]
      constructor
      · rintro (⟨h1, h2, h3⟩ | ⟨h1, h2, h3⟩)
        · refine ⟨by omega, by omega, ?_⟩
          rw [h1]; exact h3
        · refine ⟨by omega, by omega, ?_⟩
          rw [h1]; exact h3
      · rintro ⟨h2, h1, h3⟩
        have : Q % 10 = x ∧ c ≤ m ∨ Q % 10 = (x + 9) % 10 ∧ 1000 - m ≤ c := by omega
        rcases this with ⟨h4, h5⟩ | ⟨h4, h5⟩
        · exact .inl ⟨h4, by omega, by rw [← h4]; exact h3⟩
        · exact .inr ⟨h4, by omega, by rw [← h4]; exact h3⟩
theorem tot_len {m : Int} : ∀ {fs : List Int} {b pw : Int} {ch : Bool} {lo hi : Int}, (∀ x ∈ fs, 0 ≤ x ∧ x ≤ 9) → (totR m fs b pw ch lo hi).length ≤ if ch = true then fs.length + 1 else 1
  | [], b, pw, ch, lo, hi, _ => by unfold totR; split <;> simp
  | x :: r, b, pw, ch, lo, hi, hf => by
    have hx := hf x (by simp)
    have hr : ∀ x ∈ r, 0 ≤ x ∧ x ≤ 9 := fun y hy => hf y (List.mem_cons_of_mem _ hy)
    cases ch with
    | false =>
      have := tot_len (m := m) (fs := r) (b := b + x * pw) (pw := 10 * pw) (ch := false) (lo := lo) (hi := hi) hr
      exact this
    | true =>
      rw [totR_t, List.length_append, if_pos rfl]
      have h1 : (if lo > min hi m then [] else totR m r (b + x * pw) (10 * pw) (x == 9) lo (min hi m)).length ≤ if (x == 9) = true then r.length + 1 else 1 := by
        split
        · simp
        · exact tot_len hr
      have h2 : (if max lo (1000 - m) > hi then [] else totR m r (b + (x + 9) % 10 * pw) (10 * pw) ((x + 9) % 10 == 9) (max lo (1000 - m)) hi).length ≤ if ((x + 9) % 10 == 9) = true then r.length + 1 else 1 := by
        split
        · simp
        · exact tot_len hr
      simp only [beq_iff_eq] at h1 h2
      simp only [List.length_cons]
      by_cases hx9 : x = 9
      · rw [if_pos hx9] at h1
        rw [if_neg (show ¬ (x + 9) % 10 = 9 by omega)] at h2
        omega
      · rw [if_neg hx9] at h1
        by_cases h9 : (x + 9) % 10 = 9
        · rw [if_pos h9] at h2; omega
        · rw [if_neg h9] at h2; omega
end Go.Dr
namespace Go.Dr

def firstR (x m : Int) : List Span := ⟨max 0 (x * 1000 - m), min 9999 (x * 1000 + m)⟩ :: if x = 0 ∧ 0 < m then [⟨10000 - m, 9999⟩] else []
def canS (e : Int × Int × Int) : Span := ⟨if e.2.1 = 0 then 0 else 9000 + e.2.1, 9000 + e.2.2⟩
def meetS (b : Int) (c s : Span) : List Span := if max s.lo c.lo ≤ min s.hi c.hi then [⟨b + max s.lo c.lo, b + min s.hi c.hi⟩] else []
def rawE (x m : Int) (e : Int × Int × Int) : List Span := (firstR x m).flatMap (meetS e.1 (canS e))
def totL (m : Int) (fs : List Int) : List (Int × Int × Int) := totR m (fs.drop 1) 0 10000 true 0 999
def rawR (fs : List Int) (m : Int) : List Span := (totL m fs).flatMap (rawE (fs[0]?.getD 0) m)
def inU (t : Int) (l : List Span) : Prop := ∃ s ∈ l, s.lo ≤ t ∧ t ≤ s.hi
theorem inU_nil (t : Int) : ¬ inU t [] := fun ⟨_, h, _⟩ => by cases h
theorem inU_cons {t : Int} {s : Span} {l : List Span} : inU t (s :: l) ↔ (s.lo ≤ t ∧ t ≤ s.hi) ∨ inU t l := by
  unfold inU; simp only [List.mem_cons, exists_eq_or_imp]
theorem inU_app {t : Int} {l m : List Span} : inU t (l ++ m) ↔ inU t l ∨ inU t m := by
  unfold inU; simp only [List.mem_append, or_and_right, exists_or]
theorem inU_fm {α : Type} {t : Int} {f : α → List Span} {l : List α} : inU t (l.flatMap f) ↔ ∃ a ∈ l, inU t (f a) := by
  unfold inU
  constructor
  · rintro ⟨s, hs, h⟩
    obtain ⟨a, ha, hs⟩ := List.mem_flatMap.1 hs
    exact ⟨a, ha, s, hs, h⟩
  · rintro ⟨a, ha, s, hs, h⟩
    exact ⟨s, List.mem_flatMap.2 ⟨a, ha, hs⟩, h⟩
theorem inU_meet {t b : Int} {c s : Span} : inU t (meetS b c s) ↔ (s.lo ≤ t - b ∧ t - b ≤ s.hi) ∧ c.lo ≤ t - b ∧ t - b ≤ c.hi := by
  unfold meetS
  split
  · rw [inU_cons]
    constructor
    · rintro (h | h)
      · simp only at h; omega
      · exact absurd h (inU_nil _)
    · intro h; left; simp only; omega
  · constructor
    · intro h; exact absurd h (inU_nil _)
    · intro h; omega
theorem inU_first {x m p : Int} (hx : 0 ≤ x ∧ x ≤ 9) (hm : 0 ≤ m ∧ m ≤ 999) (hp : 0 ≤ p ∧ p ≤ 9999) : inU p (firstR x m) ↔ withinB p x m = true := by
  unfold firstR
  rw [inU_cons, within_iff]
  simp only
  split
  · rw [inU_cons]
    simp only
    constructor
    · rintro (h | h | h)
      · omega
      · omega
      · exact absurd h (inU_nil _)
    · intro h
      by_cases h1 : max 0 (x * 1000 - m) ≤ p ∧ p ≤ min 9999 (x * 1000 + m)
      · exact .inl h1
      · right; left; omega
  · constructor
    · rintro (h | h)
      · omega
      · exact absurd h (inU_nil _)
    · intro h; left; omega
theorem first_in {x m : Int} {s : Span} (h : s ∈ firstR x m) (hm : 0 ≤ m ∧ m ≤ 999) : 0 ≤ s.lo ∧ s.hi ≤ 9999 := by
  unfold firstR at h
  rcases List.mem_cons.1 h with rfl | h
  · simp only; omega
  · split at h
    · rw [List.mem_singleton.1 h]; simp only; omega
    · cases h
theorem tot_span {m : Int} (hm : 0 ≤ m ∧ m ≤ 999) : ∀ {fs : List Int} {b pw : Int} {ch : Bool} {lo hi : Int} {e : Int × Int × Int}, 0 ≤ lo ∧ lo ≤ hi ∧ hi ≤ 999 → e ∈ totR m fs b pw ch lo hi → 0 ≤ e.2.1 ∧ e.2.1 ≤ e.2.2 ∧ e.2.2 ≤ 999
  | [], b, pw, ch, lo, hi, e, h0, h => by
    unfold totR at h
    rw [List.mem_singleton.1 h]; exact h0
  | x :: r, b, pw, ch, lo, hi, e, h0, h => by
    cases ch with
    | false =>
      rw [totR_f] at h
      exact tot_span (fs := r) hm h0 h
    | true =>
      rw [totR_t] at h
      rcases List.mem_append.1 h with h | h
      · split at h
        · cases h
        · exact tot_span hm (by omega) h
      · split at h
        · cases h
        · exact tot_span hm (by omega) h
theorem figs_iff {fs : List Int} : figsB fs = true ↔ (∀ x ∈ fs, 0 ≤ x ∧ x ≤ 9) ∧ 1 ≤ fs.length ∧ fs.length ≤ 6 := by
  unfold figsB
  rw [Bool.and_eq_true, List.all_eq_true, inD_iff]
  constructor
  · rintro ⟨h1, h2⟩; exact ⟨fun x hx => inD_iff.1 (h1 x hx), by omega, by omega⟩
  · rintro ⟨h1, h2⟩; exact ⟨fun x hx => inD_iff.2 (h1 x hx), by omega, by omega⟩
/-- What the spans hold is what fits. -/
theorem raw_mem {fs : List Int} {m t : Int} (hf : figsB fs = true) (hm : 0 ≤ m ∧ m ≤ 999) : inU t (rawR fs m) ↔ (0 ≤ t ∧ t < 1000 * pow10 fs.length) ∧ fitsB fs t m = true := by
  obtain ⟨h1, h2, h3⟩ := figs_iff.1 hf
  match fs, h1, h2 with
  | x :: r, h1, _ =>
  have hx := h1 x (by simp)
  have hr : ∀ y ∈ r, 0 ≤ y ∧ y ≤ 9 := fun y hy => h1 y (List.mem_cons_of_mem _ hy)
  have hE : ∀ e ∈ totR m r 0 10000 true 0 999, (0 ≤ e.2.1 ∧ e.2.1 ≤ e.2.2 ∧ e.2.2 ≤ 999) ∧ ∃ Q, 0 ≤ Q ∧ e.1 = Q * 10000 := fun e he => by
    obtain ⟨Q, hQ, h⟩ := tot_base hr he
    exact ⟨tot_span hm (by omega) he, Q, hQ, by omega⟩
  have hU : inU t (rawR (x :: r) m) ↔ ∃ e ∈ totR m r 0 10000 true 0 999, inU (t - e.1) (firstR x m) ∧ (canS e).lo ≤ t - e.1 ∧ t - e.1 ≤ (canS e).hi := by
    unfold rawR
    rw [inU_fm]
    show (∃ e ∈ totR m r 0 10000 true 0 999, inU t ((firstR x m).flatMap (meetS e.1 (canS e)))) ↔ _
    constructor
    · rintro ⟨e, he, h⟩
      rw [inU_fm] at h
      obtain ⟨s, hs, h⟩ := h
      rw [inU_meet] at h
      exact ⟨e, he, ⟨s, hs, h.1⟩, h.2⟩
    · rintro ⟨e, he, ⟨s, hs, h⟩, h'⟩
      refine ⟨e, he, inU_fm.2 ⟨s, hs, inU_meet.2 ⟨h, h'⟩⟩⟩
  rw [hU]
  have hc : ∀ p : Int, 0 ≤ p → p ≤ 9999 → 0 ≤ carryD p ∧ carryD p ≤ 999 := fun p h h' => by unfold carryD; omega
  have hcan : ∀ (e : Int × Int × Int) (p : Int), (0 ≤ e.2.1 ∧ e.2.1 ≤ e.2.2 ∧ e.2.2 ≤ 999) → 0 ≤ p → p ≤ 9999 → (((canS e).lo ≤ p ∧ p ≤ (canS e).hi) ↔ (e.2.1 ≤ carryD p ∧ carryD p ≤ e.2.2)) := fun e p h h' h'' => by
    unfold canS carryD
    simp only
    split <;> omega
  constructor
  · rintro ⟨e, he, hu, hcn⟩
    obtain ⟨hs, Q, hQ, hb⟩ := hE e he
    have hp : 0 ≤ t - e.1 ∧ t - e.1 ≤ 9999 := by
      obtain ⟨s, hs', hu'⟩ := hu
      have := first_in hs' hm
      omega
    have ht : t % 10000 = t - e.1 ∧ t / 10000 = Q ∧ 0 ≤ t := by omega
    have hfit := (tot_mem hm (hc _ hp.1 hp.2) (fs := r) (b := 0) (pw := 10000) (ch := true) (lo := 0) (hi := 999) (Q := Q) hr (by omega) hQ).1 ⟨e, he, by omega, (hcan e _ hs hp.1 hp.2).1 hcn⟩
    have hsp := (fits_split (x := x) (r := r) (m := m) ht.2.2).2 ⟨by rw [ht.1]; exact (inU_first hx hm hp).1 hu, by rw [ht.1, ht.2.1]; exact hfit.2⟩
    exact ⟨⟨ht.2.2, hsp.2⟩, hsp.1⟩
  · rintro ⟨⟨ht0, ht1⟩, hfi⟩
    obtain ⟨g1, g2⟩ := (fits_split (x := x) (r := r) (m := m) ht0).1 ⟨hfi, ht1⟩
    have hp : 0 ≤ t % 10000 ∧ t % 10000 ≤ 9999 := by omega
    have hcc := hc _ hp.1 hp.2
    obtain ⟨e, he, h4, h5⟩ := (tot_mem hm hcc (fs := r) (b := 0) (pw := 10000) (ch := true) (lo := 0) (hi := 999) (Q := t / 10000) hr (by omega) (by omega)).2 ⟨by omega, g2⟩
    have hte : t - e.1 = t % 10000 := by omega
    refine ⟨e, he, ?_, ?_⟩
    · rw [hte]; exact (inU_first hx hm hp).2 g1
    · rw [hte]; exact (hcan e _ (hE e he).1 hp.1 hp.2).2 h5
theorem meet_ok {b : Int} {c s y : Span} (h : y ∈ meetS b c s) : y.lo ≤ y.hi := by
  unfold meetS at h
  split at h
  · rw [List.mem_singleton.1 h]; simp only; omega
  · cases h
theorem raw_ok {fs : List Int} {m : Int} {s : Span} (h : s ∈ rawR fs m) : s.lo ≤ s.hi := by
  unfold rawR at h
  obtain ⟨e, _, h⟩ := List.mem_flatMap.1 h
  unfold rawE at h
  obtain ⟨f, _, h⟩ := List.mem_flatMap.1 h
  exact meet_ok h
theorem fm_len {α β : Type} {f : α → List β} {n : Nat} (h : ∀ a, (f a).length ≤ n) : ∀ l : List α, (l.flatMap f).length ≤ l.length * n
  | [] => by simp
  | a :: l => by
    have := fm_len h l
    have := h a
    rw [List.flatMap_cons, List.length_append, List.length_cons, Nat.add_mul]; omega
theorem rawE_len (x m : Int) (e : Int × Int × Int) : (rawE x m e).length ≤ 2 := by
  have h1 : ∀ s, (meetS e.1 (canS e) s).length ≤ 1 := fun s => by unfold meetS; split <;> simp
  have h2 := fm_len h1 (firstR x m)
  have h3 : (firstR x m).length ≤ 2 := by unfold firstR; split <;> simp
  unfold rawE
  omega
theorem raw_len {fs : List Int} {m : Int} (hf : figsB fs = true) : (rawR fs m).length ≤ 12 := by
  obtain ⟨h1, h2, h3⟩ := figs_iff.1 hf
  have h4 := fm_len (rawE_len (fs[0]?.getD 0) m) (totL m fs)
  have h5 : (totL m fs).length ≤ 6 := by
    have := tot_len (m := m) (fs := fs.drop 1) (b := 0) (pw := 10000) (ch := true) (lo := 0) (hi := 999) fun x hx => h1 x (List.mem_of_mem_drop hx)
    rw [if_pos rfl, List.length_drop] at this
    unfold totL
    omega
  unfold rawR
  omega

/-- Spans that rise and do not touch. -/
def GapL (l : List Span) : Prop := l.Pairwise (fun a b => a.hi + 1 < b.lo) ∧ ∀ s ∈ l, s.lo ≤ s.hi
theorem gap_uniq : ∀ {l m : List Span}, GapL l → GapL m → (∀ t, inU t l ↔ inU t m) → l = m
  | [], [], _, _, _ => rfl
  | [], b :: m, _, hm, h => absurd ((h b.lo).2 (inU_cons.2 (.inl ⟨Int.le_refl _, hm.2 b (by simp)⟩))) (inU_nil _)
  | a :: l, [], hl, _, h => absurd ((h a.lo).1 (inU_cons.2 (.inl ⟨Int.le_refl _, hl.2 a (by simp)⟩))) (inU_nil _)
  | a :: l, b :: m, hl, hm, h => by
    obtain ⟨hl1, hl2⟩ := List.pairwise_cons.1 hl.1
    obtain ⟨hm1, hm2⟩ := List.pairwise_cons.1 hm.1
    have ha := hl.2 a (by simp)
    have hb := hm.2 b (by simp)
    have low : ∀ t, inU t (a :: l) → a.lo ≤ t := fun t ht => by
      rcases inU_cons.1 ht with h | ⟨s, hs, h⟩
      · exact h.1
      · have := hl1 s hs; omega
    have low' : ∀ t, inU t (b :: m) → b.lo ≤ t := fun t ht => by
      rcases inU_cons.1 ht with h | ⟨s, hs, h⟩
      · exact h.1
      · have := hm1 s hs; omega
    have e1 : a.lo = b.lo := Int.le_antisymm (low _ ((h _).2 (inU_cons.2 (.inl ⟨Int.le_refl _, hb⟩)))) (low' _ ((h _).1 (inU_cons.2 (.inl ⟨Int.le_refl _, ha⟩))))
    have nota : ¬ inU (a.hi + 1) (a :: l) := fun ht => by
      rcases inU_cons.1 ht with h | ⟨s, hs, h⟩
      · omega
      · have := hl1 s hs; omega
    have notb : ¬ inU (b.hi + 1) (b :: m) := fun ht => by
      rcases inU_cons.1 ht with h | ⟨s, hs, h⟩
      · omega
      · have := hm1 s hs; omega
    have e2 : a.hi = b.hi := by
      rcases Int.lt_trichotomy a.hi b.hi with h1 | h1 | h1
      · exact absurd ((h _).2 (inU_cons.2 (.inl ⟨by omega, by omega⟩))) nota
      · exact h1
      · exact absurd ((h _).1 (inU_cons.2 (.inl ⟨by omega, by omega⟩))) notb
    have e3 : a = b := by cases a; cases b; simp only at e1 e2; rw [e1, e2]
    subst e3
    have e4 := gap_uniq (l := l) (m := m) ⟨hl2, fun s hs => hl.2 s (List.mem_cons_of_mem _ hs)⟩ ⟨hm2, fun s hs => hm.2 s (List.mem_cons_of_mem _ hs)⟩ fun t => by
      constructor
      · intro ht
        rcases inU_cons.1 ((h t).1 (inU_cons.2 (.inr ht))) with h1 | h1
        · obtain ⟨s, hs, h2⟩ := ht
          have := hl1 s hs; omega
        · exact h1
      · intro ht
        rcases inU_cons.1 ((h t).2 (inU_cons.2 (.inr ht))) with h1 | h1
        · obtain ⟨s, hs, h2⟩ := ht
          have := hm1 s hs; omega
        · exact h1
    rw [e4]
/-- Spans that touch are joined. -/
def jStep (out : List Span) (s : Span) : List Span := match out.getLast? with
  | some y => if s.lo ≤ y.hi + 1 then out.dropLast ++ [⟨y.lo, max y.hi s.hi⟩] else out ++ [s]
  | none => [s]
def joinR (l : List Span) : List Span := l.foldl jStep []
theorem join_snoc (l : List Span) (s : Span) : joinR (l ++ [s]) = jStep (joinR l) s := by unfold joinR; rw [List.foldl_append]; rfl
theorem jStep_nil (s : Span) : jStep [] s = [s] := rfl
theorem jStep_snoc (l : List Span) (y s : Span) : jStep (l ++ [y]) s = if s.lo ≤ y.hi + 1 then l ++ [⟨y.lo, max y.hi s.hi⟩] else l ++ [y] ++ [s] := by
  unfold jStep; simp
theorem snoc_cases {α : Type} (l : List α) : l = [] ∨ ∃ m a, l = m ++ [a] := by
  rcases l.eq_nil_or_concat with h | ⟨m, a, h⟩
  · exact .inl h
  · exact .inr ⟨m, a, by simpa using h⟩
theorem join_all (l : List Span) (hs : l.Pairwise fun a b => a.lo ≤ b.lo) (hk : ∀ s ∈ l, s.lo ≤ s.hi) : GapL (joinR l) ∧ (∀ t, inU t (joinR l) ↔ inU t l) ∧ ∀ y ∈ joinR l, ∀ b, (∀ s ∈ l, s.lo ≤ b) → y.lo ≤ b := by
  have key : ∀ k, k ≤ l.length → GapL (joinR (l.take k)) ∧ (∀ t, inU t (joinR (l.take k)) ↔ inU t (l.take k)) ∧ ∀ y ∈ joinR (l.take k), ∀ b, (∀ s ∈ l.take k, s.lo ≤ b) → y.lo ≤ b := by
    intro k
    induction k with
    | zero => intro _; exact ⟨⟨List.Pairwise.nil, fun s hs => by simp [joinR] at hs⟩, fun t => by simp [joinR], fun y hy => by simp [joinR] at hy⟩
    | succ k ih =>
      intro hk'
      obtain ⟨⟨i1, i2⟩, i3, i4⟩ := ih (by omega)
      have e : l.take (k + 1) = l.take k ++ [l[k]] := List.take_succ_eq_append_getElem (by omega)
      rw [e, join_snoc]
      have hsk : ∀ s ∈ l.take k, s.lo ≤ (l[k]).lo := fun s hs' => by
        obtain ⟨i, hi⟩ := List.getElem?_of_mem hs'
        rw [List.getElem?_take] at hi
        split at hi
        · obtain ⟨hi1, rfl⟩ := List.getElem?_eq_some_iff.1 hi
          exact List.pairwise_iff_getElem.1 hs i k hi1 (by omega) (by omega)
        · cases hi
      have hok := hk l[k] (List.getElem_mem _)
      generalize l[k] = s at *
      rcases snoc_cases (joinR (l.take k)) with h0 | ⟨o, y, h0⟩
      · rw [h0] at i3 ⊢
        rw [jStep_nil]
        refine ⟨⟨List.pairwise_singleton _ _, fun x hx => by rw [List.mem_singleton.1 hx]; exact hok⟩, fun t => ?_, fun z hz b hb => by rw [List.mem_singleton.1 hz]; exact hb s (by simp)⟩
        rw [inU_app, ← i3 t]
        simp only [inU_nil, false_or]
      · rw [h0] at i1 i2 i3 i4 ⊢
        rw [jStep_snoc]
        have hy := i2 y (by simp)
        obtain ⟨p1, p2, p3⟩ := List.pairwise_append.1 i1
        have hyl := i4 y (by simp) s.lo hsk
        split
        · rename_i hc
          refine ⟨⟨?_, fun x hx => ?_⟩, fun t => ?_, fun z hz b hb => ?_⟩
          · rw [List.pairwise_append]
            exact ⟨p1, List.pairwise_singleton _ _, fun a ha b hb => by rw [List.mem_singleton.1 hb]; exact p3 a ha y (by simp)⟩
          · rcases List.mem_append.1 hx with hx | hx
            · exact i2 x (by simp [hx])
            · rw [List.mem_singleton.1 hx]; simp only; omega
          · rw [inU_app, inU_app (m := [s]), ← i3 t, inU_app, inU_cons, inU_cons, inU_cons]
            simp only [inU_nil, or_false]
            constructor
            · rintro (h | h)
              · exact .inl (.inl h)
              · by_cases h2 : t ≤ y.hi
                · exact .inl (.inr ⟨h.1, h2⟩)
                · right; omega
            · rintro ((h | h) | h)
              · exact .inl h
              · right; omega
              · right; omega
          · rcases List.mem_append.1 hz with hz | hz
            · exact i4 z (by simp [hz]) b fun x hx => hb x (by simp [hx])
            · rw [List.mem_singleton.1 hz]
              exact i4 y (by simp) b fun x hx => hb x (by simp [hx])
        · rename_i hc
          refine ⟨⟨?_, fun x hx => ?_⟩, fun t => ?_, fun z hz b hb => ?_⟩
          · rw [List.pairwise_append]
            refine ⟨i1, List.pairwise_singleton _ _, fun a ha b hb => ?_⟩
            rw [List.mem_singleton.1 hb]
            rcases List.mem_append.1 ha with ha | ha
            · have := p3 a ha y (by simp); omega
            · rw [List.mem_singleton.1 ha]; omega
          · rcases List.mem_append.1 hx with hx | hx
            · exact i2 x hx
            · rw [List.mem_singleton.1 hx]; exact hok
          · rw [inU_app, inU_app (m := [s]), ← i3 t]
          · rcases List.mem_append.1 hz with hz | hz
            · exact i4 z hz b fun x hx => hb x (by simp [hx])
            · rw [List.mem_singleton.1 hz]; exact hb s (by simp)
  have := key l.length (Nat.le_refl _)
  rwa [List.take_length] at this
end Go.Dr
namespace Go.Dr
open Go.Mw (isortE InO Weak ino_sort len_isortE insE scanE)

def cmpS (a b : Span) : Int := if a.lo < b.lo then -1 else if a.lo > b.lo then 1 else 0
def ltS (a b : Span) : Bool := decide (cmpS a b < 0)
theorem ltS_iff {a b : Span} : ltS a b = true ↔ a.lo < b.lo := by
  unfold ltS cmpS; rw [decide_eq_true_iff]; split
  · omega
  · split <;> omega
theorem ltS_not {a b : Span} : ltS a b = false ↔ b.lo ≤ a.lo := by rw [← Bool.not_eq_true, ltS_iff]; omega
theorem weakS : Weak ltS := ⟨fun x => ltS_not.2 (Int.le_refl _), fun x y z h1 h2 => by rw [ltS_iff] at *; omega, fun x y z h1 h2 => by rw [ltS_not] at *; omega⟩
theorem mem_insE {α : Type} {lt : α → α → Bool} {x y : α} {l : List α} : y ∈ insE lt x l ↔ y = x ∨ y ∈ l := by
  unfold insE
  conv => rhs; rw [← List.take_append_drop (scanE lt x l l.length) l]
  simp only [List.mem_append, List.mem_singleton]
  constructor
  · rintro ((h | h) | h)
    · exact .inr (.inl h)
    · exact .inl h
    · exact .inr (.inr h)
  · rintro (h | h | h)
    · exact .inl (.inr h)
    · exact .inl (.inl h)
    · exact .inr h
theorem mem_isort {α : Type} {lt : α → α → Bool} {y : α} (l : List α) : y ∈ isortE lt l ↔ y ∈ l := by
  refine snoc_ind (p := fun l => y ∈ isortE lt l ↔ y ∈ l) (by simp [isortE]) (fun l a h => ?_) l
  rw [Go.Mw.isortE_snoc, mem_insE, h, List.mem_append, List.mem_singleton, or_comm]
def fitL (fs : List Int) (m : Int) : List Span := joinR (isortE ltS (rawR fs m))
def fitR (fs : List Int) (m : Int) : List Span × Int := if figsB fs = false then ([], 1) else if inD m 0 999 = false then ([], 2) else if fitL fs m = [] then ([], 4) else (fitL fs m, 0)
theorem fit_ok {fs : List Int} {m : Int} (hf : figsB fs = true) (hm : 0 ≤ m ∧ m ≤ 999) : GapL (fitL fs m) ∧ ∀ t, inU t (fitL fs m) ↔ (0 ≤ t ∧ t < 1000 * pow10 fs.length) ∧ fitsB fs t m = true := by
  have h := join_all (isortE ltS (rawR fs m)) ((ino_sort weakS _).imp fun {a b} h => ltS_not.1 h) (fun s hs => raw_ok ((mem_isort _).1 hs))
  refine ⟨h.1, fun t => ?_⟩
  rw [← raw_mem hf hm]
  refine (h.2.1 t).trans ?_
  unfold inU
  simp only [mem_isort]
theorem fit_zero {fs : List Int} {m : Int} (h : (fitR fs m).2 = 0) : figsB fs = true ∧ (0 ≤ m ∧ m ≤ 999) ∧ (fitR fs m).1 = fitL fs m ∧ fitL fs m ≠ [] := by
  unfold fitR at h ⊢
  split at h
  · simp at h
  rename_i h1
  split at h
  · simp at h
  rename_i h2
  split at h
  · simp at h
  rename_i h3
  rw [if_neg h1, if_neg h2, if_neg h3]
  exact ⟨by simpa using h1, inD_iff.1 (by simpa using h2), rfl, h3⟩
theorem fit_is {fs : List Int} {m : Int} (hf : figsB fs = true) (hm : 0 ≤ m ∧ m ≤ 999) : fitR fs m = (fitL fs m, if fitL fs m = [] then 4 else 0) := by
  unfold fitR
  rw [if_neg (by simp [hf]), if_neg (by simp [inD_iff.2 hm])]
  split
  · rename_i h; rw [h]
  · rfl
theorem fit_err {fs : List Int} {m : Int} (h : ¬ (fitR fs m).2 = 0) : (fitR fs m).1 = [] ∧ (((fitR fs m).2 == 4) = (figsB fs && (decide (m ≥ 0) && decide (m ≤ 999)))) := by
  unfold fitR at h ⊢
  split
  · rename_i h1; simp [h1]
  rename_i h1
  have h1 : figsB fs = true := by simpa using h1
  split
  · rename_i h2
    have := inD_not.1 h2
    rw [h1]
    refine ⟨rfl, ?_⟩
    simp only [Bool.true_and]
    symm
    rw [show ((2 : Int) == 4) = false by decide, Bool.and_eq_false_iff, decide_eq_false_iff_not, decide_eq_false_iff_not]
    omega
  rename_i h2
  have h2' := inD_iff.1 (by simpa using h2 : inD m 0 999 = true)
  split
  · simp [h1]; omega
  · rename_i h3
    rw [if_neg (by simp [h1]), if_neg h2, if_neg h3] at h
    simp at h
theorem gap_out {l : List Span} (h : GapL l) {s : Span} (hs : s ∈ l) : ¬ inU (s.lo - 1) l ∧ ¬ inU (s.hi + 1) l := by
  obtain ⟨i, hi⟩ := List.getElem?_of_mem hs
  obtain ⟨hil, rfl⟩ := List.getElem?_eq_some_iff.1 hi
  have hok := h.2 _ hs
  have pw := List.pairwise_iff_getElem.1 h.1
  constructor
  · rintro ⟨q, hq, h1, h2⟩
    obtain ⟨j, hj⟩ := List.getElem?_of_mem hq
    obtain ⟨hjl, rfl⟩ := List.getElem?_eq_some_iff.1 hj
    rcases Nat.lt_trichotomy i j with hij | hij | hij
    · have := pw i j hil hjl hij; omega
    · subst hij; omega
    · have := pw j i hjl hil hij; omega
  · rintro ⟨q, hq, h1, h2⟩
    obtain ⟨j, hj⟩ := List.getElem?_of_mem hq
    obtain ⟨hjl, rfl⟩ := List.getElem?_eq_some_iff.1 hj
    rcases Nat.lt_trichotomy i j with hij | hij | hij
    · have := pw i j hil hjl hij; omega
    · subst hij; omega
    · have := pw j i hjl hil hij; omega
theorem gap_whole {m : List Span} (h : GapL m) {a b : Int} (hab : a ≤ b) (hin : ∀ t, a ≤ t → t ≤ b → inU t m) : ∃ s ∈ m, s.lo ≤ a ∧ b ≤ s.hi := by
  obtain ⟨s, hs, h1, h2⟩ := hin a (Int.le_refl _) hab
  refine ⟨s, hs, h1, ?_⟩
  rcases Int.lt_or_le s.hi b with h3 | h3
  · exact absurd (hin (s.hi + 1) (by omega) (by omega)) (gap_out h hs).2
  · exact h3
theorem within_mono {p x m n : Int} (h : m ≤ n) (hw : withinB p x m = true) : withinB p x n = true := by
  rw [within_iff] at *; omega
theorem fits_mono {fs : List Int} {t m n : Int} (h : m ≤ n) (hw : fitsB fs t m = true) : fitsB fs t n = true := by
  rw [fits_iff] at *
  exact fun k x hx => within_mono h (hw k x hx)
/-- What a reading can stand for: the ends, and what is next to them. -/
theorem fit_span {fs : List Int} {m : Int} (h : (fitR fs m).2 = 0) {s : Span} (hs : s ∈ (fitR fs m).1) : (0 ≤ s.lo ∧ s.lo ≤ s.hi ∧ s.hi < 1000 * pow10 fs.length) ∧ (∀ t, s.lo ≤ t → t ≤ s.hi → fitsB fs t m = true) ∧ (0 < s.lo → fitsB fs (s.lo - 1) m = false) ∧ (s.hi + 1 < 1000 * pow10 fs.length → fitsB fs (s.hi + 1) m = false) := by
  obtain ⟨h1, h2, h3, _⟩ := fit_zero h
  rw [h3] at hs
  have hk := fit_ok h1 h2
  have hok := hk.1.2 s hs
  have a := (hk.2 s.lo).1 ⟨s, hs, Int.le_refl _, hok⟩
  have b := (hk.2 s.hi).1 ⟨s, hs, hok, Int.le_refl _⟩
  have g := gap_out hk.1 hs
  refine ⟨⟨a.1.1, hok, b.1.2⟩, fun t h4 h5 => ((hk.2 t).1 ⟨s, hs, h4, h5⟩).2, fun h4 => ?_, fun h4 => ?_⟩
  · rw [← Bool.not_eq_true]
    exact fun hf => g.1 ((hk.2 _).2 ⟨by omega, hf⟩)
  · rw [← Bool.not_eq_true]
    exact fun hf => g.2 ((hk.2 _).2 ⟨by omega, hf⟩)
theorem fit_gap {fs : List Int} {m : Int} (h : (fitR fs m).2 = 0) {i : Nat} {a b : Span} (ha : (fitR fs m).1[i]? = some a) (hb : (fitR fs m).1[i + 1]? = some b) : a.hi + 1 < b.lo := by
  obtain ⟨h1, h2, h3, _⟩ := fit_zero h
  rw [h3] at ha hb
  obtain ⟨p, rfl⟩ := List.getElem?_eq_some_iff.1 ha
  obtain ⟨q, rfl⟩ := List.getElem?_eq_some_iff.1 hb
  exact List.pairwise_iff_getElem.1 (fit_ok h1 h2).1.1 i (i + 1) p q (by omega)
/-- A number is in one of the spans just if it fits. -/
theorem fit_in {fs : List Int} {m t : Int} (hf : figsB fs = true) (hm : 0 ≤ m ∧ m ≤ 999) (ht : 0 ≤ t ∧ t < 1000 * pow10 fs.length) : (fitR fs m).1.any (fun s => decide (s.lo ≤ t) && decide (t ≤ s.hi)) = fitsB fs t m := by
  rw [fit_is hf hm, Bool.eq_iff_iff, List.any_eq_true]
  have h := (fit_ok hf hm).2 t
  constructor
  · rintro ⟨s, hs, h1⟩
    simp only [Bool.and_eq_true, decide_eq_true_eq] at h1
    exact (h.1 ⟨s, hs, h1⟩).2
  · intro h1
    obtain ⟨s, hs, h2⟩ := h.2 ⟨ht, h1⟩
    exact ⟨s, hs, by simpa using h2⟩
/-- Wider bounds tell no less. -/
theorem fit_wide {fs : List Int} {m n : Int} (h : (fitR fs m).2 = 0) (hmn : m ≤ n) (hn : n ≤ 999) : (fitR fs n).2 = 0 ∧ ∀ s ∈ (fitR fs m).1, (fitR fs n).1.any (fun q => decide (q.lo ≤ s.lo) && decide (s.hi ≤ q.hi)) = true := by
  obtain ⟨h1, h2, h3, h4⟩ := fit_zero h
  have hm2 : 0 ≤ n ∧ n ≤ 999 := by omega
  have hk := fit_ok h1 h2
  have hk2 := fit_ok h1 hm2
  have key : ∀ s ∈ fitL fs m, ∃ q ∈ fitL fs n, q.lo ≤ s.lo ∧ s.hi ≤ q.hi := fun s hs => by
    refine gap_whole hk2.1 (hk.1.2 s hs) fun t h5 h6 => ?_
    have := (hk.2 t).1 ⟨s, hs, h5, h6⟩
    exact (hk2.2 t).2 ⟨this.1, fits_mono hmn this.2⟩
  have hne : ¬ fitL fs n = [] := fun e => by
    cases hl : fitL fs m with
    | nil => exact h4 hl
    | cons s r =>
      obtain ⟨q, hq, _⟩ := key s (by rw [hl]; simp)
      rw [e] at hq; cases hq
  rw [fit_is h1 hm2, h3]
  refine ⟨if_neg hne, fun s hs => ?_⟩
  obtain ⟨q, hq, h5⟩ := key s hs
  exact List.any_eq_true.2 ⟨q, hq, by simpa using h5⟩

/-- The document's spans: all totals are tried. -/
def refF (fs : List Int) (m : Int) : Nat → List Span
  | 0 => []
  | k + 1 => if fitsB fs k m = true then (match (refF fs m k).getLast? with
      | some y => if y.hi = (k : Int) - 1 then (refF fs m k).dropLast ++ [⟨y.lo, k⟩] else refF fs m k ++ [⟨k, k⟩]
      | none => [⟨k, k⟩]) else refF fs m k
theorem refF_ok (fs : List Int) (m : Int) : ∀ k : Nat, GapL (refF fs m k) ∧ (∀ s ∈ refF fs m k, s.hi < (k : Int)) ∧ ∀ t, inU t (refF fs m k) ↔ (0 ≤ t ∧ t < (k : Int)) ∧ fitsB fs t m = true
  | 0 => ⟨⟨List.Pairwise.nil, fun s h => by cases h⟩, fun s h => (by cases h), fun t => ⟨fun h => absurd h (inU_nil _), fun h => by omega⟩⟩
  | k + 1 => by
    obtain ⟨⟨i1, i2⟩, i3, i4⟩ := refF_ok fs m k
    unfold refF
    by_cases hf : fitsB fs k m = true
    · rw [if_pos hf]
      have hlast : ∀ t : Int, ((0 ≤ t ∧ t < (k : Int)) ∧ fitsB fs t m = true) ∨ t = k ↔ (0 ≤ t ∧ t < ((k + 1 : Nat) : Int)) ∧ fitsB fs t m = true := fun t => by
        constructor
        · rintro (h | rfl)
          · exact ⟨by omega, h.2⟩
          · exact ⟨by omega, hf⟩
        · rintro ⟨h1, h2⟩
          by_cases e : t = k
          · exact .inr e
          · exact .inl ⟨by omega, h2⟩
      rcases snoc_cases (refF fs m k) with h0 | ⟨o, y, h0⟩
      · rw [h0] at i4 ⊢
        simp only [List.getLast?_nil]
        refine ⟨⟨List.pairwise_singleton _ _, fun s hs => by rw [List.mem_singleton.1 hs]; exact Int.le_refl _⟩, fun s hs => by rw [List.mem_singleton.1 hs]; simp only; omega, fun t => ?_⟩
        rw [← hlast t, ← i4 t, inU_cons]
        simp only [inU_nil, or_false, false_or]
        omega
      · rw [h0] at i1 i2 i3 i4 ⊢
        have hy := i2 y (by simp)
        have hy3 := i3 y (by simp)
        obtain ⟨p1, p2, p3⟩ := List.pairwise_append.1 i1
        simp only [List.getLast?_append, List.getLast?_singleton, Option.some_or, List.dropLast_concat]
        split
        · rename_i he
          refine ⟨⟨?_, fun s hs => ?_⟩, fun s hs => ?_, fun t => ?_⟩
          · rw [List.pairwise_append]
            exact ⟨p1, List.pairwise_singleton _ _, fun a ha b hb => by rw [List.mem_singleton.1 hb]; exact p3 a ha y (by simp)⟩
          · rcases List.mem_append.1 hs with hs | hs
            · exact i2 s (by simp [hs])
            · rw [List.mem_singleton.1 hs]; simp only; omega
          · rcases List.mem_append.1 hs with hs | hs
            · have := i3 s (by simp [hs]); omega
            · rw [List.mem_singleton.1 hs]; simp only; omega
          · rw [← hlast t, ← i4 t, inU_app, inU_app, inU_cons, inU_cons]
            simp only [inU_nil, or_false, or_assoc]
            constructor
            · rintro (h | h)
              · exact .inl h
              · right; omega
            · rintro (h | h | h)
              · exact .inl h
              · right; omega
              · right; omega
        · rename_i he
          refine ⟨⟨?_, fun s hs => ?_⟩, fun s hs => ?_, fun t => ?_⟩
          · rw [List.pairwise_append]
            refine ⟨i1, List.pairwise_singleton _ _, fun a ha b hb => ?_⟩
            rw [List.mem_singleton.1 hb]
            simp only
            rcases List.mem_append.1 ha with ha | ha
            · have := p3 a ha y (by simp); omega
            · rw [List.mem_singleton.1 ha]; omega
          · rcases List.mem_append.1 hs with hs | hs
            · exact i2 s hs
            · rw [List.mem_singleton.1 hs]; exact Int.le_refl _
          · rcases List.mem_append.1 hs with hs | hs
            · have := i3 s hs; omega
            · rw [List.mem_singleton.1 hs]; simp only; omega
          · rw [← hlast t, ← i4 t, inU_app, inU_cons]
            simp only [inU_nil, or_false]
            constructor
            · rintro (h | h)
              · exact .inl h
              · right; omega
            · rintro (h | h)
              · exact .inl h
              · right; omega
    · rw [if_neg hf]
      refine ⟨⟨i1, i2⟩, fun s hs => by have := i3 s hs; omega, fun t => ?_⟩
      rw [i4 t]
      constructor
      · rintro ⟨h1, h2⟩; exact ⟨by omega, h2⟩
      · rintro ⟨h1, h2⟩
        by_cases e : t = k
        · subst e; exact absurd h2 hf
        · exact ⟨by omega, h2⟩
theorem refF_fit {fs : List Int} {m : Int} (hf : figsB fs = true) (hm : 0 ≤ m ∧ m ≤ 999) {N : Nat} (hN : (N : Int) = 1000 * pow10 fs.length) : refF fs m N = fitL fs m := by
  obtain ⟨h1, _, h3⟩ := refF_ok fs m N
  obtain ⟨h4, h5⟩ := fit_ok hf hm
  exact gap_uniq h1 h4 fun t => by rw [h3 t, h5 t, hN]

/-- Runs that are put together. -/
theorem err_app {r : Reg} {l m : List Int} (h : errD r l = 0) (hl : l.length + m.length ≤ 32) (hm : ∀ n ∈ m, -1099511627776 ≤ n ∧ n ≤ 1099511627776) : errD r (l ++ m) = 0 := by
  unfold errD at h ⊢
  split at h
  · simp at h
  rename_i h1
  split at h
  · simp at h
  split at h
  · simp at h
  rename_i h3
  rw [if_neg h1, if_neg (by rw [List.length_append]; omega), if_neg]
  rw [List.all_append]
  have : m.all (fun n => inD n (-1099511627776) 1099511627776) = true := List.all_eq_true.2 fun n hn => inD_iff.2 (hm n hn)
  rw [this]
  simpa using h3
theorem err_zero {r : Reg} {l : List Int} (h : errD r l = 0) : regB r = true ∧ l.length ≤ 32 ∧ ∀ n ∈ l, -1099511627776 ≤ n ∧ n ≤ 1099511627776 := by
  unfold errD at h
  split at h
  · simp at h
  rename_i h1
  split at h
  · simp at h
  split at h
  · simp at h
  rename_i h2 h3
  refine ⟨by simpa using h1, by omega, fun n hn => ?_⟩
  have h3 : l.all (fun n => inD n (-1099511627776) 1099511627776) = true := by simpa using h3
  exact inD_iff.1 (List.all_eq_true.1 h3 n hn)
theorem err_take {r : Reg} {l m : List Int} (h : errD r (l ++ m) = 0) : errD r l = 0 := by
  obtain ⟨h1, h2, h3⟩ := err_zero h
  unfold errD
  rw [List.length_append] at h2
  rw [if_neg (by simp [h1]), if_neg (by omega), if_neg]
  have : l.all (fun n => inD n (-1099511627776) 1099511627776) = true := List.all_eq_true.2 fun n hn => inD_iff.2 (h3 n (by simp [hn]))
  simp [this]
theorem sum_app (l m : List Int) : sumD (l ++ m) = sumD l + sumD m := by
  induction l with
  | nil => simp [sumD]
  | cons a l ih => simp only [List.cons_append, sumD, ih]; omega
theorem total_app (r : Reg) (l m : List Int) : totalD r (l ++ m) = (totalD r l + sumD m) % turnD r.drums := by
  unfold totalD
  rw [Int.emod_add_emod, sum_app, Int.add_assoc]
theorem total_bnd {r : Reg} (h : regB r = true) (l : List Int) : 0 ≤ totalD r l ∧ totalD r l < turnD r.drums := by
  have h1 := (reg_iff.1 h).1
  have h2 := turn_bnd h1.2
  exact ⟨Int.emod_nonneg _ (by omega), Int.emod_lt_of_pos _ (by omega)⟩
theorem run_zero {r : Reg} {l : List Int} (h : errD r l = 0) : runR r l = (totalD r l, (placesD r.drums.toNat (totalD r l)).map figD, 0) := if_pos h
theorem back_total {r : Reg} {l : List Int} (h : errD r l = 0) (more : Int) : totalD r (l ++ [more]) = totalD ⟨r.drums, totalD r l⟩ [more] ∧ totalD r (l ++ [more, -more]) = totalD r l ∧ totalD r (l ++ [turnD r.drums]) = totalD r l ∧ totalD r [sumD l + more] = totalD r (l ++ [more]) := by
  have hb := total_bnd (err_zero h).1 l
  refine ⟨?_, ?_, ?_, ?_⟩
  · rw [total_app]; rfl
  · rw [total_app]
    simp only [sumD]
    rw [show totalD r l + (more + (-more + 0)) = totalD r l by omega]
    exact Int.emod_eq_of_lt hb.1 hb.2
  · rw [total_app]
    simp only [sumD]
    rw [show totalD r l + (turnD r.drums + 0) = totalD r l + turnD r.drums by omega, Int.add_emod_right]
    exact Int.emod_eq_of_lt hb.1 hb.2
  · unfold totalD
    rw [sum_app]
    simp only [sumD]
    rw [show r.start + (sumD l + more + 0) = r.start + (sumD l + (more + 0)) by omega]

/-- The figures that are shown fit. -/
theorem fig_in {p : Int} (h : 0 ≤ p ∧ p ≤ 9999) : 0 ≤ figD p ∧ figD p ≤ 9 := by unfold figD; omega
theorem fig_within {p : Int} (h : 0 ≤ p ∧ p ≤ 9999) : withinB p (figD p) 500 = true := by
  rw [within_iff]; unfold figD; omega
theorem shown_fits (n : Nat) (t : Int) : fitsB ((placesD n t).map figD) t 500 = true := by
  rw [fits_iff]
  intro k x hx
  unfold placesD at hx
  rw [List.getElem?_map, List.getElem?_map] at hx
  cases hr : (List.range n)[k]? with
  | none => rw [hr] at hx; simp at hx
  | some j =>
    rw [hr] at hx
    have : j = k := by
      obtain ⟨h1, h2⟩ := List.getElem?_eq_some_iff.1 hr
      rw [List.getElem_range] at h2; exact h2.symm
    subst this
    simp only [Option.map_some, Option.some.injEq] at hx
    rw [← hx]
    exact fig_within (place_bnd t j)
end Go.Dr
namespace Go.Mw
open Go.Proofs Go.Dr
theorem follows_mixed : Try.prog.follows .mixedOrders = true := by kernel_rfl
abbrev D.i (n : Int) : D := .raw (.int .i64 n)
@[go_sem] def encInt (n : Int) : List D := [.i n]
@[go_sem] def encSpan (s : Go.Dr.Span) : List D := [.i s.lo, .i s.hi]
abbrev regV (r : Reg) : AV := .val true [.d (.i r.drums), .d (.i r.start)]
abbrev spanV (s : Go.Dr.Span) : AV := .val true [.d (.i s.lo), .d (.i s.hi)]
abbrev intsD (l : List Int) : D := .sl 1 (l.map encInt)
abbrev spansD (l : List Go.Dr.Span) : D := .sl 2 (l.map encSpan)
abbrev tupI (l : List Int) : AV := .tup (l.map fun n => (false, [.d (.i n)]))
abbrev placesV (p : List Int × Int) : AV := .tup [(false, [.d (intsD p.1)]), (false, [.d (.i p.2)])]
abbrev runV (p : Int × List Int × Int) : AV := .tup [(false, [.d (.i p.1)]), (false, [.d (intsD p.2.1)]), (false, [.d (.i p.2.2)])]
abbrev fitV (p : List Go.Dr.Span × Int) : AV := .tup [(false, [.d (spansD p.1)]), (false, [.d (.i p.2)])]
theorem pick_max (a b : Int) : pick2 false a b = max a b := by simp only [pick2, cond_false]; split <;> omega
theorem pick_min (a b : Int) : pick2 true a b = min a b := by simp only [pick2, cond_true]; split <;> omega
theorem pow10_zero : pow10 0 = 1 := rfl
theorem pow_le6 {k : Nat} (h : k ≤ 6) : 1 ≤ pow10 k ∧ pow10 k ≤ 1000000 := by
  have h1 := pow10_pos k
  have h2 := pow10_le h
  have h3 : pow10 6 = 1000000 := by decide
  omega
end Go.Mw
namespace Go.Mw
open Go.Proofs Go.RowKit Go.ChangeShapes Go.WideShapes Go.Dr

theorem read_int (r : List Value) (h : All2 LK.has [.int .i64] r) : ∃ x : Int, r.map D.raw = encInt x := by
  obtain ⟨a, r, rfl, ⟨n, hn, _⟩, h⟩ := all2_inv h
  have := all2_nil h
  subst hn this
  exact ⟨n, rfl⟩
section
variable {H : Type} {enc : TypeId × Value → H} {W : World} {v : Value} {d : DataW H} {ps : List MemPlace}
set_option maxRecDepth 20000 in
theorem reg_read {b0 : Nat} {r : Reach} (hv : Value.okWide Try.prog W r b0 23 v) (h : DataW.Trod enc Try.prog W 0 (fun _ => true) true 23 v d ps) :
    ∃ x : Reg, RepV (fun b _ => b < W.heap.size) noVal (look []) W (regV x) v := by
  obtain ⟨cs, rfl⟩ := struct_agg (by kernel_rfl) hv
  obtain ⟨fuel, hf⟩ := h
  have ha := flat_read (P := Try.prog) (t := 23) (ks := [.int .i64, .int .i64]) (by kernel_rfl) hf
  have hcs : (Value.agg cs).cells.toList = cs.toList := rfl
  rw [hcs] at ha
  obtain ⟨a, r1, hl, ⟨n, hn, _⟩, ha⟩ := all2_inv ha
  obtain ⟨b, r2, rfl, ⟨m, hm, _⟩, ha⟩ := all2_inv ha
  have := all2_nil ha
  subst this hn hm
  refine ⟨⟨n, m⟩, [.int .i64 n, .int .i64 m], ?_, .raw _ rfl, .raw _ rfl, trivial⟩
  show Value.agg cs = Value.agg [Value.int .i64 n, Value.int .i64 m].toArray
  rw [← hl]
set_option maxRecDepth 20000 in
theorem ints_read {b0 : Nat} {r : Reach} (hv : Value.okWide Try.prog W r b0 24 v) (h : DataW.Trod enc Try.prog W 0 (fun _ => true) true 24 v d ps) :
    ∃ l : List Int, RepV (fun b _ => b < W.heap.size) noVal (look []) W (.leaf (.d (.sl 1 (l.map encInt)))) v := by
  obtain ⟨rows, hr, hd⟩ := sl_read (P := Try.prog) (e := 3) (ks := [.int .i64]) (by kernel_rfl) (by kernel_rfl) (by kernel_rfl) (by decide) hv h
  obtain ⟨l, hl⟩ := rows_enc read_int hr
  rw [hl] at hd
  exact ⟨l, hd⟩
end
end Go.Mw
