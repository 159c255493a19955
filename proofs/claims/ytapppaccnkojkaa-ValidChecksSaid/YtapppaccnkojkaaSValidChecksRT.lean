/- What the rows of the program's types tell. No conditions. Written by gent.py. -/
import Derived.Test.YtapppaccnkojkaaProg
import Derived.Test.YtapppaccnkojkaaRBld
set_option linter.unusedVariables false
set_option maxRecDepth 100000
namespace Go.Proofs.Ytapppaccnkojkaa.R
open Go Go.RowKit Go.Proofs.Ytapppaccnkojkaa
theorem row_1 : rowOf Try.prog 1 = some none := nd (by kernel_rfl)
theorem sz_1 : szOf Try.prog 1 = some 1 := nd (by kernel_rfl)
theorem by_1 : bytesA Try.prog 1 = some 8 := nd (by kernel_rfl)
theorem ze_1 : zeroOf Try.prog 1 = some #[.nilFunc] := nd (by kernel_rfl)
theorem us_1 : (Try.prog.underlying 1).isSome = true := nd (by kernel_rfl)
theorem row_3 : rowOf Try.prog 3 = some none := nd (by kernel_rfl)
theorem sz_3 : szOf Try.prog 3 = some 1 := nd (by kernel_rfl)
theorem by_3 : bytesA Try.prog 3 = some 8 := nd (by kernel_rfl)
theorem ze_3 : zeroOf Try.prog 3 = some #[(.int .i64 0)] := nd (by kernel_rfl)
theorem us_3 : (Try.prog.underlying 3).isSome = true := nd (by kernel_rfl)
theorem un_3 : Try.prog.underlying 3 = some (.int .i64) := nd (by kernel_rfl)
theorem row_4 : rowOf Try.prog 4 = some none := nd (by kernel_rfl)
theorem sz_4 : szOf Try.prog 4 = some 1 := nd (by kernel_rfl)
theorem by_4 : bytesA Try.prog 4 = some 1 := nd (by kernel_rfl)
theorem ze_4 : zeroOf Try.prog 4 = some #[(.bool false)] := nd (by kernel_rfl)
theorem us_4 : (Try.prog.underlying 4).isSome = true := nd (by kernel_rfl)
theorem ib_4 : isBoolT Try.prog 4 = true := nd (by kernel_rfl)
theorem row_9 : rowOf Try.prog 9 = some none := nd (by kernel_rfl)
theorem sz_9 : szOf Try.prog 9 = some 1 := nd (by kernel_rfl)
theorem by_9 : bytesA Try.prog 9 = some 16 := nd (by kernel_rfl)
theorem ze_9 : zeroOf Try.prog 9 = some #[(.string ⟨#[]⟩)] := nd (by kernel_rfl)
theorem us_9 : (Try.prog.underlying 9).isSome = true := nd (by kernel_rfl)
theorem un_9 : Try.prog.underlying 9 = some .string := nd (by kernel_rfl)
theorem row_32 : rowOf Try.prog 32 = some none := nd (by kernel_rfl)
theorem sz_32 : szOf Try.prog 32 = some 1 := nd (by kernel_rfl)
theorem by_32 : bytesA Try.prog 32 = some 8 := nd (by kernel_rfl)
theorem ze_32 : zeroOf Try.prog 32 = some #[(.int .i64 0)] := nd (by kernel_rfl)
theorem us_32 : (Try.prog.underlying 32).isSome = true := nd (by kernel_rfl)
theorem un_32 : Try.prog.underlying 32 = some (.int .i64) := nd (by kernel_rfl)
theorem row_35 : rowOf Try.prog 35 = some none := nd (by kernel_rfl)
theorem sz_35 : szOf Try.prog 35 = some 1 := nd (by kernel_rfl)
theorem by_35 : bytesA Try.prog 35 = some 8 := nd (by kernel_rfl)
theorem ze_35 : zeroOf Try.prog 35 = some #[.nilFunc] := nd (by kernel_rfl)
theorem us_35 : (Try.prog.underlying 35).isSome = true := nd (by kernel_rfl)
theorem row_76 : rowOf Try.prog 76 = some none := nd (by kernel_rfl)
theorem sz_76 : szOf Try.prog 76 = some 1 := nd (by kernel_rfl)
theorem by_76 : bytesA Try.prog 76 = some 24 := nd (by kernel_rfl)
theorem ze_76 : zeroOf Try.prog 76 = some #[(.slice none 0 0)] := nd (by kernel_rfl)
theorem us_76 : (Try.prog.underlying 76).isSome = true := nd (by kernel_rfl)
theorem sl_76 : slOf Try.prog 76 = some (3, 1) := nd (by kernel_rfl)
theorem isl_76 : isSlT Try.prog 76 = true := nd (by kernel_rfl)
theorem row_85 : rowOf Try.prog 85 = some none := nd (by kernel_rfl)
theorem sz_85 : szOf Try.prog 85 = some 1 := nd (by kernel_rfl)
theorem by_85 : bytesA Try.prog 85 = some 24 := nd (by kernel_rfl)
theorem ze_85 : zeroOf Try.prog 85 = some #[(.slice none 0 0)] := nd (by kernel_rfl)
theorem us_85 : (Try.prog.underlying 85).isSome = true := nd (by kernel_rfl)
theorem sl_85 : slOf Try.prog 85 = some (94, 6) := nd (by kernel_rfl)
theorem isl_85 : isSlT Try.prog 85 = true := nd (by kernel_rfl)
theorem row_86 : rowOf Try.prog 86 = some (some 2) := nd (by kernel_rfl)
theorem sz_86 : szOf Try.prog 86 = some 2 := nd (by kernel_rfl)
theorem by_86 : bytesA Try.prog 86 = some 48 := nd (by kernel_rfl)
theorem ze_86 : zeroOf Try.prog 86 = some #[(.slice none 0 0), (.slice none 0 0)] := nd (by kernel_rfl)
theorem us_86 : (Try.prog.underlying 86).isSome = true := nd (by kernel_rfl)
theorem ar_86 : arrOf Try.prog 86 = some (2, 1, none) := nd (by kernel_rfl)
theorem row_87 : rowOf Try.prog 87 = some (some 3) := nd (by kernel_rfl)
theorem sz_87 : szOf Try.prog 87 = some 3 := nd (by kernel_rfl)
theorem by_87 : bytesA Try.prog 87 = some 56 := nd (by kernel_rfl)
theorem ze_87 : zeroOf Try.prog 87 = some #[(.int .i64 0), (.slice none 0 0), (.slice none 0 0)] := nd (by kernel_rfl)
theorem us_87 : (Try.prog.underlying 87).isSome = true := nd (by kernel_rfl)
theorem fo_87_0 : fieldOff Try.prog 87 0 = some 0 := nd (by kernel_rfl)
theorem fr_87_0 : fieldRow Try.prog 87 0 = some (0, none) := nd (by kernel_rfl)
theorem fo_87_1 : fieldOff Try.prog 87 1 = some 1 := nd (by kernel_rfl)
theorem fr_87_1 : fieldRow Try.prog 87 1 = some (1, some 2) := nd (by kernel_rfl)
theorem row_88 : rowOf Try.prog 88 = some (some 3) := nd (by kernel_rfl)
theorem sz_88 : szOf Try.prog 88 = some 3 := nd (by kernel_rfl)
theorem by_88 : bytesA Try.prog 88 = some 56 := nd (by kernel_rfl)
theorem ze_88 : zeroOf Try.prog 88 = some #[(.int .i64 0), (.slice none 0 0), (.slice none 0 0)] := nd (by kernel_rfl)
theorem us_88 : (Try.prog.underlying 88).isSome = true := nd (by kernel_rfl)
theorem fo_88_0 : fieldOff Try.prog 88 0 = some 0 := nd (by kernel_rfl)
theorem fr_88_0 : fieldRow Try.prog 88 0 = some (0, none) := nd (by kernel_rfl)
theorem fo_88_1 : fieldOff Try.prog 88 1 = some 1 := nd (by kernel_rfl)
theorem fr_88_1 : fieldRow Try.prog 88 1 = some (1, some 2) := nd (by kernel_rfl)
theorem row_93 : rowOf Try.prog 93 = some (some 6) := nd (by kernel_rfl)
theorem sz_93 : szOf Try.prog 93 = some 6 := nd (by kernel_rfl)
theorem by_93 : bytesA Try.prog 93 = some 80 := nd (by kernel_rfl)
theorem ze_93 : zeroOf Try.prog 93 = some #[(.int .i64 0), (.int .i64 0), (.int .i64 0), (.int .i64 0), (.slice none 0 0), (.slice none 0 0)] := nd (by kernel_rfl)
theorem us_93 : (Try.prog.underlying 93).isSome = true := nd (by kernel_rfl)
theorem fo_93_0 : fieldOff Try.prog 93 0 = some 0 := nd (by kernel_rfl)
theorem fr_93_0 : fieldRow Try.prog 93 0 = some (0, none) := nd (by kernel_rfl)
theorem fo_93_1 : fieldOff Try.prog 93 1 = some 1 := nd (by kernel_rfl)
theorem fr_93_1 : fieldRow Try.prog 93 1 = some (1, none) := nd (by kernel_rfl)
theorem fo_93_2 : fieldOff Try.prog 93 2 = some 2 := nd (by kernel_rfl)
theorem fr_93_2 : fieldRow Try.prog 93 2 = some (2, none) := nd (by kernel_rfl)
theorem fo_93_3 : fieldOff Try.prog 93 3 = some 3 := nd (by kernel_rfl)
theorem fr_93_3 : fieldRow Try.prog 93 3 = some (3, none) := nd (by kernel_rfl)
theorem fo_93_4 : fieldOff Try.prog 93 4 = some 4 := nd (by kernel_rfl)
theorem fr_93_4 : fieldRow Try.prog 93 4 = some (4, none) := nd (by kernel_rfl)
theorem fo_93_5 : fieldOff Try.prog 93 5 = some 5 := nd (by kernel_rfl)
theorem fr_93_5 : fieldRow Try.prog 93 5 = some (5, none) := nd (by kernel_rfl)
theorem row_94 : rowOf Try.prog 94 = some (some 6) := nd (by kernel_rfl)
theorem sz_94 : szOf Try.prog 94 = some 6 := nd (by kernel_rfl)
theorem by_94 : bytesA Try.prog 94 = some 80 := nd (by kernel_rfl)
theorem ze_94 : zeroOf Try.prog 94 = some #[(.int .i64 0), (.int .i64 0), (.int .i64 0), (.int .i64 0), (.slice none 0 0), (.slice none 0 0)] := nd (by kernel_rfl)
theorem us_94 : (Try.prog.underlying 94).isSome = true := nd (by kernel_rfl)
theorem fo_94_0 : fieldOff Try.prog 94 0 = some 0 := nd (by kernel_rfl)
theorem fr_94_0 : fieldRow Try.prog 94 0 = some (0, none) := nd (by kernel_rfl)
theorem fo_94_1 : fieldOff Try.prog 94 1 = some 1 := nd (by kernel_rfl)
theorem fr_94_1 : fieldRow Try.prog 94 1 = some (1, none) := nd (by kernel_rfl)
theorem fo_94_2 : fieldOff Try.prog 94 2 = some 2 := nd (by kernel_rfl)
theorem fr_94_2 : fieldRow Try.prog 94 2 = some (2, none) := nd (by kernel_rfl)
theorem fo_94_3 : fieldOff Try.prog 94 3 = some 3 := nd (by kernel_rfl)
theorem fr_94_3 : fieldRow Try.prog 94 3 = some (3, none) := nd (by kernel_rfl)
theorem fo_94_4 : fieldOff Try.prog 94 4 = some 4 := nd (by kernel_rfl)
theorem fr_94_4 : fieldRow Try.prog 94 4 = some (4, none) := nd (by kernel_rfl)
theorem fo_94_5 : fieldOff Try.prog 94 5 = some 5 := nd (by kernel_rfl)
theorem fr_94_5 : fieldRow Try.prog 94 5 = some (5, none) := nd (by kernel_rfl)
theorem row_97 : rowOf Try.prog 97 = some (some 8) := nd (by kernel_rfl)
theorem sz_97 : szOf Try.prog 97 = some 8 := nd (by kernel_rfl)
theorem by_97 : bytesA Try.prog 97 = some 64 := nd (by kernel_rfl)
theorem ze_97 : zeroOf Try.prog 97 = some #[(.int .i64 0), (.int .i64 0), (.int .i64 0), (.int .i64 0), (.int .i64 0), (.int .i64 0), (.int .i64 0), (.bool false)] := nd (by kernel_rfl)
theorem us_97 : (Try.prog.underlying 97).isSome = true := nd (by kernel_rfl)
theorem fo_97_0 : fieldOff Try.prog 97 0 = some 0 := nd (by kernel_rfl)
theorem fr_97_0 : fieldRow Try.prog 97 0 = some (0, none) := nd (by kernel_rfl)
theorem fo_97_1 : fieldOff Try.prog 97 1 = some 1 := nd (by kernel_rfl)
theorem fr_97_1 : fieldRow Try.prog 97 1 = some (1, none) := nd (by kernel_rfl)
theorem fo_97_2 : fieldOff Try.prog 97 2 = some 2 := nd (by kernel_rfl)
theorem fr_97_2 : fieldRow Try.prog 97 2 = some (2, none) := nd (by kernel_rfl)
theorem fo_97_3 : fieldOff Try.prog 97 3 = some 3 := nd (by kernel_rfl)
theorem fr_97_3 : fieldRow Try.prog 97 3 = some (3, none) := nd (by kernel_rfl)
theorem fo_97_4 : fieldOff Try.prog 97 4 = some 4 := nd (by kernel_rfl)
theorem fr_97_4 : fieldRow Try.prog 97 4 = some (4, none) := nd (by kernel_rfl)
theorem fo_97_5 : fieldOff Try.prog 97 5 = some 5 := nd (by kernel_rfl)
theorem fr_97_5 : fieldRow Try.prog 97 5 = some (5, none) := nd (by kernel_rfl)
theorem fo_97_6 : fieldOff Try.prog 97 6 = some 6 := nd (by kernel_rfl)
theorem fr_97_6 : fieldRow Try.prog 97 6 = some (6, none) := nd (by kernel_rfl)
theorem fo_97_7 : fieldOff Try.prog 97 7 = some 7 := nd (by kernel_rfl)
theorem fr_97_7 : fieldRow Try.prog 97 7 = some (7, none) := nd (by kernel_rfl)
theorem row_98 : rowOf Try.prog 98 = some (some 8) := nd (by kernel_rfl)
theorem sz_98 : szOf Try.prog 98 = some 8 := nd (by kernel_rfl)
theorem by_98 : bytesA Try.prog 98 = some 64 := nd (by kernel_rfl)
theorem ze_98 : zeroOf Try.prog 98 = some #[(.int .i64 0), (.int .i64 0), (.int .i64 0), (.int .i64 0), (.int .i64 0), (.int .i64 0), (.int .i64 0), (.bool false)] := nd (by kernel_rfl)
theorem us_98 : (Try.prog.underlying 98).isSome = true := nd (by kernel_rfl)
theorem fo_98_0 : fieldOff Try.prog 98 0 = some 0 := nd (by kernel_rfl)
theorem fr_98_0 : fieldRow Try.prog 98 0 = some (0, none) := nd (by kernel_rfl)
theorem fo_98_1 : fieldOff Try.prog 98 1 = some 1 := nd (by kernel_rfl)
theorem fr_98_1 : fieldRow Try.prog 98 1 = some (1, none) := nd (by kernel_rfl)
theorem fo_98_2 : fieldOff Try.prog 98 2 = some 2 := nd (by kernel_rfl)
theorem fr_98_2 : fieldRow Try.prog 98 2 = some (2, none) := nd (by kernel_rfl)
theorem fo_98_3 : fieldOff Try.prog 98 3 = some 3 := nd (by kernel_rfl)
theorem fr_98_3 : fieldRow Try.prog 98 3 = some (3, none) := nd (by kernel_rfl)
theorem fo_98_4 : fieldOff Try.prog 98 4 = some 4 := nd (by kernel_rfl)
theorem fr_98_4 : fieldRow Try.prog 98 4 = some (4, none) := nd (by kernel_rfl)
theorem fo_98_5 : fieldOff Try.prog 98 5 = some 5 := nd (by kernel_rfl)
theorem fr_98_5 : fieldRow Try.prog 98 5 = some (5, none) := nd (by kernel_rfl)
theorem fo_98_6 : fieldOff Try.prog 98 6 = some 6 := nd (by kernel_rfl)
theorem fr_98_6 : fieldRow Try.prog 98 6 = some (6, none) := nd (by kernel_rfl)
theorem fo_98_7 : fieldOff Try.prog 98 7 = some 7 := nd (by kernel_rfl)
theorem fr_98_7 : fieldRow Try.prog 98 7 = some (7, none) := nd (by kernel_rfl)
theorem row_135 : rowOf Try.prog 135 = some none := nd (by kernel_rfl)
theorem sz_135 : szOf Try.prog 135 = some 1 := nd (by kernel_rfl)
theorem by_135 : bytesA Try.prog 135 = some 24 := nd (by kernel_rfl)
theorem ze_135 : zeroOf Try.prog 135 = some #[(.slice none 0 0)] := nd (by kernel_rfl)
theorem us_135 : (Try.prog.underlying 135).isSome = true := nd (by kernel_rfl)
theorem sl_135 : slOf Try.prog 135 = some (143, 6) := nd (by kernel_rfl)
theorem isl_135 : isSlT Try.prog 135 = true := nd (by kernel_rfl)
theorem row_137 : rowOf Try.prog 137 = some (some 2) := nd (by kernel_rfl)
theorem sz_137 : szOf Try.prog 137 = some 2 := nd (by kernel_rfl)
theorem by_137 : bytesA Try.prog 137 = some 48 := nd (by kernel_rfl)
theorem ze_137 : zeroOf Try.prog 137 = some #[(.slice none 0 0), (.slice none 0 0)] := nd (by kernel_rfl)
theorem us_137 : (Try.prog.underlying 137).isSome = true := nd (by kernel_rfl)
theorem ar_137 : arrOf Try.prog 137 = some (2, 1, none) := nd (by kernel_rfl)
theorem row_138 : rowOf Try.prog 138 = some (some 3) := nd (by kernel_rfl)
theorem sz_138 : szOf Try.prog 138 = some 3 := nd (by kernel_rfl)
theorem by_138 : bytesA Try.prog 138 = some 24 := nd (by kernel_rfl)
theorem ze_138 : zeroOf Try.prog 138 = some #[(.int .i64 0), (.int .i64 0), (.int .i64 0)] := nd (by kernel_rfl)
theorem us_138 : (Try.prog.underlying 138).isSome = true := nd (by kernel_rfl)
theorem fo_138_0 : fieldOff Try.prog 138 0 = some 0 := nd (by kernel_rfl)
theorem fr_138_0 : fieldRow Try.prog 138 0 = some (0, none) := nd (by kernel_rfl)
theorem fo_138_1 : fieldOff Try.prog 138 1 = some 1 := nd (by kernel_rfl)
theorem fr_138_1 : fieldRow Try.prog 138 1 = some (1, none) := nd (by kernel_rfl)
theorem fo_138_2 : fieldOff Try.prog 138 2 = some 2 := nd (by kernel_rfl)
theorem fr_138_2 : fieldRow Try.prog 138 2 = some (2, none) := nd (by kernel_rfl)
theorem row_139 : rowOf Try.prog 139 = some (some 3) := nd (by kernel_rfl)
theorem sz_139 : szOf Try.prog 139 = some 3 := nd (by kernel_rfl)
theorem by_139 : bytesA Try.prog 139 = some 24 := nd (by kernel_rfl)
theorem ze_139 : zeroOf Try.prog 139 = some #[(.int .i64 0), (.int .i64 0), (.int .i64 0)] := nd (by kernel_rfl)
theorem us_139 : (Try.prog.underlying 139).isSome = true := nd (by kernel_rfl)
theorem fo_139_0 : fieldOff Try.prog 139 0 = some 0 := nd (by kernel_rfl)
theorem fr_139_0 : fieldRow Try.prog 139 0 = some (0, none) := nd (by kernel_rfl)
theorem fo_139_1 : fieldOff Try.prog 139 1 = some 1 := nd (by kernel_rfl)
theorem fr_139_1 : fieldRow Try.prog 139 1 = some (1, none) := nd (by kernel_rfl)
theorem fo_139_2 : fieldOff Try.prog 139 2 = some 2 := nd (by kernel_rfl)
theorem fr_139_2 : fieldRow Try.prog 139 2 = some (2, none) := nd (by kernel_rfl)
theorem row_143 : rowOf Try.prog 143 = some (some 6) := nd (by kernel_rfl)
theorem sz_143 : szOf Try.prog 143 = some 6 := nd (by kernel_rfl)
theorem by_143 : bytesA Try.prog 143 = some 80 := nd (by kernel_rfl)
theorem ze_143 : zeroOf Try.prog 143 = some #[(.int .i64 0), (.int .i64 0), (.int .i64 0), (.int .i64 0), (.slice none 0 0), (.slice none 0 0)] := nd (by kernel_rfl)
theorem us_143 : (Try.prog.underlying 143).isSome = true := nd (by kernel_rfl)
theorem fo_143_0 : fieldOff Try.prog 143 0 = some 0 := nd (by kernel_rfl)
theorem fr_143_0 : fieldRow Try.prog 143 0 = some (0, none) := nd (by kernel_rfl)
theorem fo_143_1 : fieldOff Try.prog 143 1 = some 1 := nd (by kernel_rfl)
theorem fr_143_1 : fieldRow Try.prog 143 1 = some (1, none) := nd (by kernel_rfl)
theorem fo_143_2 : fieldOff Try.prog 143 2 = some 2 := nd (by kernel_rfl)
theorem fr_143_2 : fieldRow Try.prog 143 2 = some (2, none) := nd (by kernel_rfl)
theorem fo_143_3 : fieldOff Try.prog 143 3 = some 3 := nd (by kernel_rfl)
theorem fr_143_3 : fieldRow Try.prog 143 3 = some (3, none) := nd (by kernel_rfl)
theorem fo_143_4 : fieldOff Try.prog 143 4 = some 4 := nd (by kernel_rfl)
theorem fr_143_4 : fieldRow Try.prog 143 4 = some (4, none) := nd (by kernel_rfl)
theorem fo_143_5 : fieldOff Try.prog 143 5 = some 5 := nd (by kernel_rfl)
theorem fr_143_5 : fieldRow Try.prog 143 5 = some (5, none) := nd (by kernel_rfl)
theorem row_166 : rowOf Try.prog 166 = some none := nd (by kernel_rfl)
theorem sz_166 : szOf Try.prog 166 = some 1 := nd (by kernel_rfl)
theorem by_166 : bytesA Try.prog 166 = some 24 := nd (by kernel_rfl)
theorem ze_166 : zeroOf Try.prog 166 = some #[(.slice none 0 0)] := nd (by kernel_rfl)
theorem us_166 : (Try.prog.underlying 166).isSome = true := nd (by kernel_rfl)
theorem sl_166 : slOf Try.prog 166 = some (98, 8) := nd (by kernel_rfl)
theorem isl_166 : isSlT Try.prog 166 = true := nd (by kernel_rfl)
theorem row_198 : rowOf Try.prog 198 = some none := nd (by kernel_rfl)
theorem sz_198 : szOf Try.prog 198 = some 1 := nd (by kernel_rfl)
theorem by_198 : bytesA Try.prog 198 = some 8 := nd (by kernel_rfl)
theorem ze_198 : zeroOf Try.prog 198 = some #[(.map none)] := nd (by kernel_rfl)
theorem us_198 : (Try.prog.underlying 198).isSome = true := nd (by kernel_rfl)
theorem bd_86 : ∀ parts : List (Nat × Value), Try.prog.built 86 parts = bld #[(.slice none 0 0), (.slice none 0 0)] [(0, 1), (1, 1)] parts := built_bld ze_86 (by kernel_rfl) (by kernel_rfl)
theorem bd_87 : ∀ parts : List (Nat × Value), Try.prog.built 87 parts = bld #[(.int .i64 0), (.slice none 0 0), (.slice none 0 0)] [(0, 1), (1, 2)] parts := built_bld ze_87 (by kernel_rfl) (by kernel_rfl)
theorem bd_88 : ∀ parts : List (Nat × Value), Try.prog.built 88 parts = bld #[(.int .i64 0), (.slice none 0 0), (.slice none 0 0)] [(0, 1), (1, 2)] parts := built_bld ze_88 (by kernel_rfl) (by kernel_rfl)
theorem bd_93 : ∀ parts : List (Nat × Value), Try.prog.built 93 parts = bld #[(.int .i64 0), (.int .i64 0), (.int .i64 0), (.int .i64 0), (.slice none 0 0), (.slice none 0 0)] [(0, 1), (1, 1), (2, 1), (3, 1), (4, 1), (5, 1)] parts := built_bld ze_93 (by kernel_rfl) (by kernel_rfl)
theorem bd_94 : ∀ parts : List (Nat × Value), Try.prog.built 94 parts = bld #[(.int .i64 0), (.int .i64 0), (.int .i64 0), (.int .i64 0), (.slice none 0 0), (.slice none 0 0)] [(0, 1), (1, 1), (2, 1), (3, 1), (4, 1), (5, 1)] parts := built_bld ze_94 (by kernel_rfl) (by kernel_rfl)
theorem bd_97 : ∀ parts : List (Nat × Value), Try.prog.built 97 parts = bld #[(.int .i64 0), (.int .i64 0), (.int .i64 0), (.int .i64 0), (.int .i64 0), (.int .i64 0), (.int .i64 0), (.bool false)] [(0, 1), (1, 1), (2, 1), (3, 1), (4, 1), (5, 1), (6, 1), (7, 1)] parts := built_bld ze_97 (by kernel_rfl) (by kernel_rfl)
theorem bd_98 : ∀ parts : List (Nat × Value), Try.prog.built 98 parts = bld #[(.int .i64 0), (.int .i64 0), (.int .i64 0), (.int .i64 0), (.int .i64 0), (.int .i64 0), (.int .i64 0), (.bool false)] [(0, 1), (1, 1), (2, 1), (3, 1), (4, 1), (5, 1), (6, 1), (7, 1)] parts := built_bld ze_98 (by kernel_rfl) (by kernel_rfl)
theorem bd_137 : ∀ parts : List (Nat × Value), Try.prog.built 137 parts = bld #[(.slice none 0 0), (.slice none 0 0)] [(0, 1), (1, 1)] parts := built_bld ze_137 (by kernel_rfl) (by kernel_rfl)
theorem bd_138 : ∀ parts : List (Nat × Value), Try.prog.built 138 parts = bld #[(.int .i64 0), (.int .i64 0), (.int .i64 0)] [(0, 1), (1, 1), (2, 1)] parts := built_bld ze_138 (by kernel_rfl) (by kernel_rfl)
theorem bd_139 : ∀ parts : List (Nat × Value), Try.prog.built 139 parts = bld #[(.int .i64 0), (.int .i64 0), (.int .i64 0)] [(0, 1), (1, 1), (2, 1)] parts := built_bld ze_139 (by kernel_rfl) (by kernel_rfl)
theorem bd_143 : ∀ parts : List (Nat × Value), Try.prog.built 143 parts = bld #[(.int .i64 0), (.int .i64 0), (.int .i64 0), (.int .i64 0), (.slice none 0 0), (.slice none 0 0)] [(0, 1), (1, 1), (2, 1), (3, 1), (4, 1), (5, 1)] parts := built_bld ze_143 (by kernel_rfl) (by kernel_rfl)
theorem ty_1 : rowOf Try.prog 1 = some none ∧ szOf Try.prog 1 = some 1 ∧ bytesA Try.prog 1 = some 8 ∧ zeroOf Try.prog 1 = some #[.nilFunc] ∧ (Try.prog.underlying 1).isSome = true := ⟨row_1, sz_1, by_1, ze_1, us_1⟩
theorem ty_3 : rowOf Try.prog 3 = some none ∧ szOf Try.prog 3 = some 1 ∧ bytesA Try.prog 3 = some 8 ∧ zeroOf Try.prog 3 = some #[(.int .i64 0)] ∧ (Try.prog.underlying 3).isSome = true ∧ Try.prog.underlying 3 = some (.int .i64) := ⟨row_3, sz_3, by_3, ze_3, us_3, un_3⟩
theorem ty_4 : rowOf Try.prog 4 = some none ∧ szOf Try.prog 4 = some 1 ∧ bytesA Try.prog 4 = some 1 ∧ zeroOf Try.prog 4 = some #[(.bool false)] ∧ (Try.prog.underlying 4).isSome = true ∧ isBoolT Try.prog 4 = true := ⟨row_4, sz_4, by_4, ze_4, us_4, ib_4⟩
theorem ty_9 : rowOf Try.prog 9 = some none ∧ szOf Try.prog 9 = some 1 ∧ bytesA Try.prog 9 = some 16 ∧ zeroOf Try.prog 9 = some #[(.string ⟨#[]⟩)] ∧ (Try.prog.underlying 9).isSome = true ∧ Try.prog.underlying 9 = some .string := ⟨row_9, sz_9, by_9, ze_9, us_9, un_9⟩
theorem ty_32 : rowOf Try.prog 32 = some none ∧ szOf Try.prog 32 = some 1 ∧ bytesA Try.prog 32 = some 8 ∧ zeroOf Try.prog 32 = some #[(.int .i64 0)] ∧ (Try.prog.underlying 32).isSome = true ∧ Try.prog.underlying 32 = some (.int .i64) := ⟨row_32, sz_32, by_32, ze_32, us_32, un_32⟩
theorem ty_35 : rowOf Try.prog 35 = some none ∧ szOf Try.prog 35 = some 1 ∧ bytesA Try.prog 35 = some 8 ∧ zeroOf Try.prog 35 = some #[.nilFunc] ∧ (Try.prog.underlying 35).isSome = true := ⟨row_35, sz_35, by_35, ze_35, us_35⟩
theorem ty_76 : rowOf Try.prog 76 = some none ∧ szOf Try.prog 76 = some 1 ∧ bytesA Try.prog 76 = some 24 ∧ zeroOf Try.prog 76 = some #[(.slice none 0 0)] ∧ (Try.prog.underlying 76).isSome = true ∧ slOf Try.prog 76 = some (3, 1) ∧ isSlT Try.prog 76 = true := ⟨row_76, sz_76, by_76, ze_76, us_76, sl_76, isl_76⟩
theorem ty_85 : rowOf Try.prog 85 = some none ∧ szOf Try.prog 85 = some 1 ∧ bytesA Try.prog 85 = some 24 ∧ zeroOf Try.prog 85 = some #[(.slice none 0 0)] ∧ (Try.prog.underlying 85).isSome = true ∧ slOf Try.prog 85 = some (94, 6) ∧ isSlT Try.prog 85 = true := ⟨row_85, sz_85, by_85, ze_85, us_85, sl_85, isl_85⟩
theorem ty_86 : rowOf Try.prog 86 = some (some 2) ∧ szOf Try.prog 86 = some 2 ∧ bytesA Try.prog 86 = some 48 ∧ zeroOf Try.prog 86 = some #[(.slice none 0 0), (.slice none 0 0)] ∧ (Try.prog.underlying 86).isSome = true ∧ arrOf Try.prog 86 = some (2, 1, none) ∧ ∀ parts : List (Nat × Value), Try.prog.built 86 parts = bld #[(.slice none 0 0), (.slice none 0 0)] [(0, 1), (1, 1)] parts := ⟨row_86, sz_86, by_86, ze_86, us_86, ar_86, bd_86⟩
theorem ty_87 : rowOf Try.prog 87 = some (some 3) ∧ szOf Try.prog 87 = some 3 ∧ bytesA Try.prog 87 = some 56 ∧ zeroOf Try.prog 87 = some #[(.int .i64 0), (.slice none 0 0), (.slice none 0 0)] ∧ (Try.prog.underlying 87).isSome = true ∧ fieldOff Try.prog 87 0 = some 0 ∧ fieldRow Try.prog 87 0 = some (0, none) ∧ fieldOff Try.prog 87 1 = some 1 ∧ fieldRow Try.prog 87 1 = some (1, some 2) ∧ ∀ parts : List (Nat × Value), Try.prog.built 87 parts = bld #[(.int .i64 0), (.slice none 0 0), (.slice none 0 0)] [(0, 1), (1, 2)] parts := ⟨row_87, sz_87, by_87, ze_87, us_87, fo_87_0, fr_87_0, fo_87_1, fr_87_1, bd_87⟩
theorem ty_88 : rowOf Try.prog 88 = some (some 3) ∧ szOf Try.prog 88 = some 3 ∧ bytesA Try.prog 88 = some 56 ∧ zeroOf Try.prog 88 = some #[(.int .i64 0), (.slice none 0 0), (.slice none 0 0)] ∧ (Try.prog.underlying 88).isSome = true ∧ fieldOff Try.prog 88 0 = some 0 ∧ fieldRow Try.prog 88 0 = some (0, none) ∧ fieldOff Try.prog 88 1 = some 1 ∧ fieldRow Try.prog 88 1 = some (1, some 2) ∧ ∀ parts : List (Nat × Value), Try.prog.built 88 parts = bld #[(.int .i64 0), (.slice none 0 0), (.slice none 0 0)] [(0, 1), (1, 2)] parts := ⟨row_88, sz_88, by_88, ze_88, us_88, fo_88_0, fr_88_0, fo_88_1, fr_88_1, bd_88⟩
theorem ty_93 : rowOf Try.prog 93 = some (some 6) ∧ szOf Try.prog 93 = some 6 ∧ bytesA Try.prog 93 = some 80 ∧ zeroOf Try.prog 93 = some #[(.int .i64 0), (.int .i64 0), (.int .i64 0), (.int .i64 0), (.slice none 0 0), (.slice none 0 0)] ∧ (Try.prog.underlying 93).isSome = true ∧ fieldOff Try.prog 93 0 = some 0 ∧ fieldRow Try.prog 93 0 = some (0, none) ∧ fieldOff Try.prog 93 1 = some 1 ∧ fieldRow Try.prog 93 1 = some (1, none) ∧ fieldOff Try.prog 93 2 = some 2 ∧ fieldRow Try.prog 93 2 = some (2, none) ∧ fieldOff Try.prog 93 3 = some 3 ∧ fieldRow Try.prog 93 3 = some (3, none) ∧ fieldOff Try.prog 93 4 = some 4 ∧ fieldRow Try.prog 93 4 = some (4, none) ∧ fieldOff Try.prog 93 5 = some 5 ∧ fieldRow Try.prog 93 5 = some (5, none) ∧ ∀ parts : List (Nat × Value), Try.prog.built 93 parts = bld #[(.int .i64 0), (.int .i64 0), (.int .i64 0), (.int .i64 0), (.slice none 0 0), (.slice none 0 0)] [(0, 1), (1, 1), (2, 1), (3, 1), (4, 1), (5, 1)] parts := ⟨row_93, sz_93, by_93, ze_93, us_93, fo_93_0, fr_93_0, fo_93_1, fr_93_1, fo_93_2, fr_93_2, fo_93_3, fr_93_3, fo_93_4, fr_93_4, fo_93_5, fr_93_5, bd_93⟩
theorem ty_94 : rowOf Try.prog 94 = some (some 6) ∧ szOf Try.prog 94 = some 6 ∧ bytesA Try.prog 94 = some 80 ∧ zeroOf Try.prog 94 = some #[(.int .i64 0), (.int .i64 0), (.int .i64 0), (.int .i64 0), (.slice none 0 0), (.slice none 0 0)] ∧ (Try.prog.underlying 94).isSome = true ∧ fieldOff Try.prog 94 0 = some 0 ∧ fieldRow Try.prog 94 0 = some (0, none) ∧ fieldOff Try.prog 94 1 = some 1 ∧ fieldRow Try.prog 94 1 = some (1, none) ∧ fieldOff Try.prog 94 2 = some 2 ∧ fieldRow Try.prog 94 2 = some (2, none) ∧ fieldOff Try.prog 94 3 = some 3 ∧ fieldRow Try.prog 94 3 = some (3, none) ∧ fieldOff Try.prog 94 4 = some 4 ∧ fieldRow Try.prog 94 4 = some (4, none) ∧ fieldOff Try.prog 94 5 = some 5 ∧ fieldRow Try.prog 94 5 = some (5, none) ∧ ∀ parts : List (Nat × Value), Try.prog.built 94 parts = bld #[(.int .i64 0), (.int .i64 0), (.int .i64 0), (.int .i64 0), (.slice none 0 0), (.slice none 0 0)] [(0, 1), (1, 1), (2, 1), (3, 1), (4, 1), (5, 1)] parts := ⟨row_94, sz_94, by_94, ze_94, us_94, fo_94_0, fr_94_0, fo_94_1, fr_94_1, fo_94_2, fr_94_2, fo_94_3, fr_94_3, fo_94_4, fr_94_4, fo_94_5, fr_94_5, bd_94⟩
theorem ty_97 : rowOf Try.prog 97 = some (some 8) ∧ szOf Try.prog 97 = some 8 ∧ bytesA Try.prog 97 = some 64 ∧ zeroOf Try.prog 97 = some #[(.int .i64 0), (.int .i64 0), (.int .i64 0), (.int .i64 0), (.int .i64 0), (.int .i64 0), (.int .i64 0), (.bool false)] ∧ (Try.prog.underlying 97).isSome = true ∧ fieldOff Try.prog 97 0 = some 0 ∧ fieldRow Try.prog 97 0 = some (0, none) ∧ fieldOff Try.prog 97 1 = some 1 ∧ fieldRow Try.prog 97 1 = some (1, none) ∧ fieldOff Try.prog 97 2 = some 2 ∧ fieldRow Try.prog 97 2 = some (2, none) ∧ fieldOff Try.prog 97 3 = some 3 ∧ fieldRow Try.prog 97 3 = some (3, none) ∧ fieldOff Try.prog 97 4 = some 4 ∧ fieldRow Try.prog 97 4 = some (4, none) ∧ fieldOff Try.prog 97 5 = some 5 ∧ fieldRow Try.prog 97 5 = some (5, none) ∧ fieldOff Try.prog 97 6 = some 6 ∧ fieldRow Try.prog 97 6 = some (6, none) ∧ fieldOff Try.prog 97 7 = some 7 ∧ fieldRow Try.prog 97 7 = some (7, none) ∧ ∀ parts : List (Nat × Value), Try.prog.built 97 parts = bld #[(.int .i64 0), (.int .i64 0), (.int .i64 0), (.int .i64 0), (.int .i64 0), (.int .i64 0), (.int .i64 0), (.bool false)] [(0, 1), (1, 1), (2, 1), (3, 1), (4, 1), (5, 1), (6, 1), (7, 1)] parts := ⟨row_97, sz_97, by_97, ze_97, us_97, fo_97_0, fr_97_0, fo_97_1, fr_97_1, fo_97_2, fr_97_2, fo_97_3, fr_97_3, fo_97_4, fr_97_4, fo_97_5, fr_97_5, fo_97_6, fr_97_6, fo_97_7, fr_97_7, bd_97⟩
theorem ty_98 : rowOf Try.prog 98 = some (some 8) ∧ szOf Try.prog 98 = some 8 ∧ bytesA Try.prog 98 = some 64 ∧ zeroOf Try.prog 98 = some #[(.int .i64 0), (.int .i64 0), (.int .i64 0), (.int .i64 0), (.int .i64 0), (.int .i64 0), (.int .i64 0), (.bool false)] ∧ (Try.prog.underlying 98).isSome = true ∧ fieldOff Try.prog 98 0 = some 0 ∧ fieldRow Try.prog 98 0 = some (0, none) ∧ fieldOff Try.prog 98 1 = some 1 ∧ fieldRow Try.prog 98 1 = some (1, none) ∧ fieldOff Try.prog 98 2 = some 2 ∧ fieldRow Try.prog 98 2 = some (2, none) ∧ fieldOff Try.prog 98 3 = some 3 ∧ fieldRow Try.prog 98 3 = some (3, none) ∧ fieldOff Try.prog 98 4 = some 4 ∧ fieldRow Try.prog 98 4 = some (4, none) ∧ fieldOff Try.prog 98 5 = some 5 ∧ fieldRow Try.prog 98 5 = some (5, none) ∧ fieldOff Try.prog 98 6 = some 6 ∧ fieldRow Try.prog 98 6 = some (6, none) ∧ fieldOff Try.prog 98 7 = some 7 ∧ fieldRow Try.prog 98 7 = some (7, none) ∧ ∀ parts : List (Nat × Value), Try.prog.built 98 parts = bld #[(.int .i64 0), (.int .i64 0), (.int .i64 0), (.int .i64 0), (.int .i64 0), (.int .i64 0), (.int .i64 0), (.bool false)] [(0, 1), (1, 1), (2, 1), (3, 1), (4, 1), (5, 1), (6, 1), (7, 1)] parts := ⟨row_98, sz_98, by_98, ze_98, us_98, fo_98_0, fr_98_0, fo_98_1, fr_98_1, fo_98_2, fr_98_2, fo_98_3, fr_98_3, fo_98_4, fr_98_4, fo_98_5, fr_98_5, fo_98_6, fr_98_6, fo_98_7, fr_98_7, bd_98⟩
theorem ty_135 : rowOf Try.prog 135 = some none ∧ szOf Try.prog 135 = some 1 ∧ bytesA Try.prog 135 = some 24 ∧ zeroOf Try.prog 135 = some #[(.slice none 0 0)] ∧ (Try.prog.underlying 135).isSome = true ∧ slOf Try.prog 135 = some (143, 6) ∧ isSlT Try.prog 135 = true := ⟨row_135, sz_135, by_135, ze_135, us_135, sl_135, isl_135⟩
theorem ty_137 : rowOf Try.prog 137 = some (some 2) ∧ szOf Try.prog 137 = some 2 ∧ bytesA Try.prog 137 = some 48 ∧ zeroOf Try.prog 137 = some #[(.slice none 0 0), (.slice none 0 0)] ∧ (Try.prog.underlying 137).isSome = true ∧ arrOf Try.prog 137 = some (2, 1, none) ∧ ∀ parts : List (Nat × Value), Try.prog.built 137 parts = bld #[(.slice none 0 0), (.slice none 0 0)] [(0, 1), (1, 1)] parts := ⟨row_137, sz_137, by_137, ze_137, us_137, ar_137, bd_137⟩
theorem ty_138 : rowOf Try.prog 138 = some (some 3) ∧ szOf Try.prog 138 = some 3 ∧ bytesA Try.prog 138 = some 24 ∧ zeroOf Try.prog 138 = some #[(.int .i64 0), (.int .i64 0), (.int .i64 0)] ∧ (Try.prog.underlying 138).isSome = true ∧ fieldOff Try.prog 138 0 = some 0 ∧ fieldRow Try.prog 138 0 = some (0, none) ∧ fieldOff Try.prog 138 1 = some 1 ∧ fieldRow Try.prog 138 1 = some (1, none) ∧ fieldOff Try.prog 138 2 = some 2 ∧ fieldRow Try.prog 138 2 = some (2, none) ∧ ∀ parts : List (Nat × Value), Try.prog.built 138 parts = bld #[(.int .i64 0), (.int .i64 0), (.int .i64 0)] [(0, 1), (1, 1), (2, 1)] parts := ⟨row_138, sz_138, by_138, ze_138, us_138, fo_138_0, fr_138_0, fo_138_1, fr_138_1, fo_138_2, fr_138_2, bd_138⟩
theorem ty_139 : rowOf Try.prog 139 = some (some 3) ∧ szOf Try.prog 139 = some 3 ∧ bytesA Try.prog 139 = some 24 ∧ zeroOf Try.prog 139 = some #[(.int .i64 0), (.int .i64 0), (.int .i64 0)] ∧ (Try.prog.underlying 139).isSome = true ∧ fieldOff Try.prog 139 0 = some 0 ∧ fieldRow Try.prog 139 0 = some (0, none) ∧ fieldOff Try.prog 139 1 = some 1 ∧ fieldRow Try.prog 139 1 = some (1, none) ∧ fieldOff Try.prog 139 2 = some 2 ∧ fieldRow Try.prog 139 2 = some (2, none) ∧ ∀ parts : List (Nat × Value), Try.prog.built 139 parts = bld #[(.int .i64 0), (.int .i64 0), (.int .i64 0)] [(0, 1), (1, 1), (2, 1)] parts := ⟨row_139, sz_139, by_139, ze_139, us_139, fo_139_0, fr_139_0, fo_139_1, fr_139_1, fo_139_2, fr_139_2, bd_139⟩
theorem ty_143 : rowOf Try.prog 143 = some (some 6) ∧ szOf Try.prog 143 = some 6 ∧ bytesA Try.prog 143 = some 80 ∧ zeroOf Try.prog 143 = some #[(.int .i64 0), (.int .i64 0), (.int .i64 0), (.int .i64 0), (.slice none 0 0), (.slice none 0 0)] ∧ (Try.prog.underlying 143).isSome = true ∧ fieldOff Try.prog 143 0 = some 0 ∧ fieldRow Try.prog 143 0 = some (0, none) ∧ fieldOff Try.prog 143 1 = some 1 ∧ fieldRow Try.prog 143 1 = some (1, none) ∧ fieldOff Try.prog 143 2 = some 2 ∧ fieldRow Try.prog 143 2 = some (2, none) ∧ fieldOff Try.prog 143 3 = some 3 ∧ fieldRow Try.prog 143 3 = some (3, none) ∧ fieldOff Try.prog 143 4 = some 4 ∧ fieldRow Try.prog 143 4 = some (4, none) ∧ fieldOff Try.prog 143 5 = some 5 ∧ fieldRow Try.prog 143 5 = some (5, none) ∧ ∀ parts : List (Nat × Value), Try.prog.built 143 parts = bld #[(.int .i64 0), (.int .i64 0), (.int .i64 0), (.int .i64 0), (.slice none 0 0), (.slice none 0 0)] [(0, 1), (1, 1), (2, 1), (3, 1), (4, 1), (5, 1)] parts := ⟨row_143, sz_143, by_143, ze_143, us_143, fo_143_0, fr_143_0, fo_143_1, fr_143_1, fo_143_2, fr_143_2, fo_143_3, fr_143_3, fo_143_4, fr_143_4, fo_143_5, fr_143_5, bd_143⟩
theorem ty_166 : rowOf Try.prog 166 = some none ∧ szOf Try.prog 166 = some 1 ∧ bytesA Try.prog 166 = some 24 ∧ zeroOf Try.prog 166 = some #[(.slice none 0 0)] ∧ (Try.prog.underlying 166).isSome = true ∧ slOf Try.prog 166 = some (98, 8) ∧ isSlT Try.prog 166 = true := ⟨row_166, sz_166, by_166, ze_166, us_166, sl_166, isl_166⟩
theorem ty_198 : rowOf Try.prog 198 = some none ∧ szOf Try.prog 198 = some 1 ∧ bytesA Try.prog 198 = some 8 ∧ zeroOf Try.prog 198 = some #[(.map none)] ∧ (Try.prog.underlying 198).isSome = true := ⟨row_198, sz_198, by_198, ze_198, us_198⟩
theorem mixed : Try.prog.follows .mixedOrders = true := by kernel_rfl
theorem ca_13 : callable Try.prog 13 = true := nd (by kernel_rfl)
theorem en_13 {W0 : World} {m : Mem} {K : Value → Mem → Prop} {l : List Value} (hl : l.length ≤ Try.f13.ntmps) (h : vc Try.prog W0 Try.f13.ntmps (Try.f13.body.getD .skip) (retK Try.prog W0 Try.f13.results K) (envL l) m) : CallA Try.prog W0 13 l.toArray m K :=
  call_of_vc Try.func13 rfl ca_13 (by simp only [List.size_toArray]; omega) (by kernel_rfl) h
theorem ca_45 : callable Try.prog 45 = true := nd (by kernel_rfl)
theorem en_45 {W0 : World} {m : Mem} {K : Value → Mem → Prop} {l : List Value} (hl : l.length ≤ Try.f45.ntmps) (h : vc Try.prog W0 Try.f45.ntmps (Try.f45.body.getD .skip) (retK Try.prog W0 Try.f45.results K) (envL l) m) : CallA Try.prog W0 45 l.toArray m K :=
  call_of_vc Try.func45 rfl ca_45 (by simp only [List.size_toArray]; omega) (by kernel_rfl) h
theorem ca_82 : callable Try.prog 82 = true := nd (by kernel_rfl)
theorem en_82 {W0 : World} {m : Mem} {K : Value → Mem → Prop} {l : List Value} (hl : l.length ≤ Try.f82.ntmps) (h : vc Try.prog W0 Try.f82.ntmps (Try.f82.body.getD .skip) (retK Try.prog W0 Try.f82.results K) (envL l) m) : CallA Try.prog W0 82 l.toArray m K :=
  call_of_vc Try.func82 rfl ca_82 (by simp only [List.size_toArray]; omega) (by kernel_rfl) h
theorem ca_83 : callable Try.prog 83 = true := nd (by kernel_rfl)
theorem en_83 {W0 : World} {m : Mem} {K : Value → Mem → Prop} {l : List Value} (hl : l.length ≤ Try.f83.ntmps) (h : vc Try.prog W0 Try.f83.ntmps (Try.f83.body.getD .skip) (retK Try.prog W0 Try.f83.results K) (envL l) m) : CallA Try.prog W0 83 l.toArray m K :=
  call_of_vc Try.func83 rfl ca_83 (by simp only [List.size_toArray]; omega) (by kernel_rfl) h
theorem ca_84 : callable Try.prog 84 = true := nd (by kernel_rfl)
theorem en_84 {W0 : World} {m : Mem} {K : Value → Mem → Prop} {l : List Value} (hl : l.length ≤ Try.f84.ntmps) (h : vc Try.prog W0 Try.f84.ntmps (Try.f84.body.getD .skip) (retK Try.prog W0 Try.f84.results K) (envL l) m) : CallA Try.prog W0 84 l.toArray m K :=
  call_of_vc Try.func84 rfl ca_84 (by simp only [List.size_toArray]; omega) (by kernel_rfl) h
theorem ca_85 : callable Try.prog 85 = true := nd (by kernel_rfl)
theorem en_85 {W0 : World} {m : Mem} {K : Value → Mem → Prop} {l : List Value} (hl : l.length ≤ Try.f85.ntmps) (h : vc Try.prog W0 Try.f85.ntmps (Try.f85.body.getD .skip) (retK Try.prog W0 Try.f85.results K) (envL l) m) : CallA Try.prog W0 85 l.toArray m K :=
  call_of_vc Try.func85 rfl ca_85 (by simp only [List.size_toArray]; omega) (by kernel_rfl) h
theorem ca_86 : callable Try.prog 86 = true := nd (by kernel_rfl)
theorem en_86 {W0 : World} {m : Mem} {K : Value → Mem → Prop} {l : List Value} (hl : l.length ≤ Try.f86.ntmps) (h : vc Try.prog W0 Try.f86.ntmps (Try.f86.body.getD .skip) (retK Try.prog W0 Try.f86.results K) (envL l) m) : CallA Try.prog W0 86 l.toArray m K :=
  call_of_vc Try.func86 rfl ca_86 (by simp only [List.size_toArray]; omega) (by kernel_rfl) h
theorem ca_87 : callable Try.prog 87 = true := nd (by kernel_rfl)
theorem en_87 {W0 : World} {m : Mem} {K : Value → Mem → Prop} {l : List Value} (hl : l.length ≤ Try.f87.ntmps) (h : vc Try.prog W0 Try.f87.ntmps (Try.f87.body.getD .skip) (retK Try.prog W0 Try.f87.results K) (envL l) m) : CallA Try.prog W0 87 l.toArray m K :=
  call_of_vc Try.func87 rfl ca_87 (by simp only [List.size_toArray]; omega) (by kernel_rfl) h
theorem ca_88 : callable Try.prog 88 = true := nd (by kernel_rfl)
theorem en_88 {W0 : World} {m : Mem} {K : Value → Mem → Prop} {l : List Value} (hl : l.length ≤ Try.f88.ntmps) (h : vc Try.prog W0 Try.f88.ntmps (Try.f88.body.getD .skip) (retK Try.prog W0 Try.f88.results K) (envL l) m) : CallA Try.prog W0 88 l.toArray m K :=
  call_of_vc Try.func88 rfl ca_88 (by simp only [List.size_toArray]; omega) (by kernel_rfl) h
theorem ca_89 : callable Try.prog 89 = true := nd (by kernel_rfl)
theorem en_89 {W0 : World} {m : Mem} {K : Value → Mem → Prop} {l : List Value} (hl : l.length ≤ Try.f89.ntmps) (h : vc Try.prog W0 Try.f89.ntmps (Try.f89.body.getD .skip) (retK Try.prog W0 Try.f89.results K) (envL l) m) : CallA Try.prog W0 89 l.toArray m K :=
  call_of_vc Try.func89 rfl ca_89 (by simp only [List.size_toArray]; omega) (by kernel_rfl) h
theorem ca_107 : callable Try.prog 107 = true := nd (by kernel_rfl)
theorem en_107 {W0 : World} {m : Mem} {K : Value → Mem → Prop} {l : List Value} (hl : l.length ≤ Try.f107.ntmps) (h : vc Try.prog W0 Try.f107.ntmps (Try.f107.body.getD .skip) (retK Try.prog W0 Try.f107.results K) (envL l) m) : CallA Try.prog W0 107 l.toArray m K :=
  call_of_vc Try.func107 rfl ca_107 (by simp only [List.size_toArray]; omega) (by kernel_rfl) h
theorem ca_108 : callable Try.prog 108 = true := nd (by kernel_rfl)
theorem en_108 {W0 : World} {m : Mem} {K : Value → Mem → Prop} {l : List Value} (hl : l.length ≤ Try.f108.ntmps) (h : vc Try.prog W0 Try.f108.ntmps (Try.f108.body.getD .skip) (retK Try.prog W0 Try.f108.results K) (envL l) m) : CallA Try.prog W0 108 l.toArray m K :=
  call_of_vc Try.func108 rfl ca_108 (by simp only [List.size_toArray]; omega) (by kernel_rfl) h
theorem ca_109 : callable Try.prog 109 = true := nd (by kernel_rfl)
theorem en_109 {W0 : World} {m : Mem} {K : Value → Mem → Prop} {l : List Value} (hl : l.length ≤ Try.f109.ntmps) (h : vc Try.prog W0 Try.f109.ntmps (Try.f109.body.getD .skip) (retK Try.prog W0 Try.f109.results K) (envL l) m) : CallA Try.prog W0 109 l.toArray m K :=
  call_of_vc Try.func109 rfl ca_109 (by simp only [List.size_toArray]; omega) (by kernel_rfl) h
theorem ca_131 : callable Try.prog 131 = true := nd (by kernel_rfl)
theorem ca_132 : callable Try.prog 132 = true := nd (by kernel_rfl)
theorem en_132 {W0 : World} {m : Mem} {K : Value → Mem → Prop} {l : List Value} (hl : l.length ≤ Try.f132.ntmps) (h : vc Try.prog W0 Try.f132.ntmps (Try.f132.body.getD .skip) (retK Try.prog W0 Try.f132.results K) (envL l) m) : CallA Try.prog W0 132 l.toArray m K :=
  call_of_vc Try.func132 rfl ca_132 (by simp only [List.size_toArray]; omega) (by kernel_rfl) h
theorem ca_133 : callable Try.prog 133 = true := nd (by kernel_rfl)
theorem en_133 {W0 : World} {m : Mem} {K : Value → Mem → Prop} {l : List Value} (hl : l.length ≤ Try.f133.ntmps) (h : vc Try.prog W0 Try.f133.ntmps (Try.f133.body.getD .skip) (retK Try.prog W0 Try.f133.results K) (envL l) m) : CallA Try.prog W0 133 l.toArray m K :=
  call_of_vc Try.func133 rfl ca_133 (by simp only [List.size_toArray]; omega) (by kernel_rfl) h
theorem ca_134 : callable Try.prog 134 = true := nd (by kernel_rfl)
theorem en_134 {W0 : World} {m : Mem} {K : Value → Mem → Prop} {l : List Value} (hl : l.length ≤ Try.f134.ntmps) (h : vc Try.prog W0 Try.f134.ntmps (Try.f134.body.getD .skip) (retK Try.prog W0 Try.f134.results K) (envL l) m) : CallA Try.prog W0 134 l.toArray m K :=
  call_of_vc Try.func134 rfl ca_134 (by simp only [List.size_toArray]; omega) (by kernel_rfl) h
theorem ca_135 : callable Try.prog 135 = true := nd (by kernel_rfl)
theorem en_135 {W0 : World} {m : Mem} {K : Value → Mem → Prop} {l : List Value} (hl : l.length ≤ Try.f135.ntmps) (h : vc Try.prog W0 Try.f135.ntmps (Try.f135.body.getD .skip) (retK Try.prog W0 Try.f135.results K) (envL l) m) : CallA Try.prog W0 135 l.toArray m K :=
  call_of_vc Try.func135 rfl ca_135 (by simp only [List.size_toArray]; omega) (by kernel_rfl) h
theorem ca_136 : callable Try.prog 136 = true := nd (by kernel_rfl)
theorem en_136 {W0 : World} {m : Mem} {K : Value → Mem → Prop} {l : List Value} (hl : l.length ≤ Try.f136.ntmps) (h : vc Try.prog W0 Try.f136.ntmps (Try.f136.body.getD .skip) (retK Try.prog W0 Try.f136.results K) (envL l) m) : CallA Try.prog W0 136 l.toArray m K :=
  call_of_vc Try.func136 rfl ca_136 (by simp only [List.size_toArray]; omega) (by kernel_rfl) h
theorem ca_137 : callable Try.prog 137 = true := nd (by kernel_rfl)
theorem en_137 {W0 : World} {m : Mem} {K : Value → Mem → Prop} {l : List Value} (hl : l.length ≤ Try.f137.ntmps) (h : vc Try.prog W0 Try.f137.ntmps (Try.f137.body.getD .skip) (retK Try.prog W0 Try.f137.results K) (envL l) m) : CallA Try.prog W0 137 l.toArray m K :=
  call_of_vc Try.func137 rfl ca_137 (by simp only [List.size_toArray]; omega) (by kernel_rfl) h
theorem ca_140 : callable Try.prog 140 = true := nd (by kernel_rfl)
theorem en_140 {W0 : World} {m : Mem} {K : Value → Mem → Prop} {l : List Value} (hl : l.length ≤ Try.f140.ntmps) (h : vc Try.prog W0 Try.f140.ntmps (Try.f140.body.getD .skip) (retK Try.prog W0 Try.f140.results K) (envL l) m) : CallA Try.prog W0 140 l.toArray m K :=
  call_of_vc Try.func140 rfl ca_140 (by simp only [List.size_toArray]; omega) (by kernel_rfl) h
theorem ca_141 : callable Try.prog 141 = true := nd (by kernel_rfl)
theorem en_141 {W0 : World} {m : Mem} {K : Value → Mem → Prop} {l : List Value} (hl : l.length ≤ Try.f141.ntmps) (h : vc Try.prog W0 Try.f141.ntmps (Try.f141.body.getD .skip) (retK Try.prog W0 Try.f141.results K) (envL l) m) : CallA Try.prog W0 141 l.toArray m K :=
  call_of_vc Try.func141 rfl ca_141 (by simp only [List.size_toArray]; omega) (by kernel_rfl) h
theorem ca_142 : callable Try.prog 142 = true := nd (by kernel_rfl)
theorem en_142 {W0 : World} {m : Mem} {K : Value → Mem → Prop} {l : List Value} (hl : l.length ≤ Try.f142.ntmps) (h : vc Try.prog W0 Try.f142.ntmps (Try.f142.body.getD .skip) (retK Try.prog W0 Try.f142.results K) (envL l) m) : CallA Try.prog W0 142 l.toArray m K :=
  call_of_vc Try.func142 rfl ca_142 (by simp only [List.size_toArray]; omega) (by kernel_rfl) h
theorem ca_143 : callable Try.prog 143 = true := nd (by kernel_rfl)
theorem en_143 {W0 : World} {m : Mem} {K : Value → Mem → Prop} {l : List Value} (hl : l.length ≤ Try.f143.ntmps) (h : vc Try.prog W0 Try.f143.ntmps (Try.f143.body.getD .skip) (retK Try.prog W0 Try.f143.results K) (envL l) m) : CallA Try.prog W0 143 l.toArray m K :=
  call_of_vc Try.func143 rfl ca_143 (by simp only [List.size_toArray]; omega) (by kernel_rfl) h
theorem ca_145 : callable Try.prog 145 = true := nd (by kernel_rfl)
theorem en_145 {W0 : World} {m : Mem} {K : Value → Mem → Prop} {l : List Value} (hl : l.length ≤ Try.f145.ntmps) (h : vc Try.prog W0 Try.f145.ntmps (Try.f145.body.getD .skip) (retK Try.prog W0 Try.f145.results K) (envL l) m) : CallA Try.prog W0 145 l.toArray m K :=
  call_of_vc Try.func145 rfl ca_145 (by simp only [List.size_toArray]; omega) (by kernel_rfl) h
theorem ca_146 : callable Try.prog 146 = true := nd (by kernel_rfl)
theorem en_146 {W0 : World} {m : Mem} {K : Value → Mem → Prop} {l : List Value} (hl : l.length ≤ Try.f146.ntmps) (h : vc Try.prog W0 Try.f146.ntmps (Try.f146.body.getD .skip) (retK Try.prog W0 Try.f146.results K) (envL l) m) : CallA Try.prog W0 146 l.toArray m K :=
  call_of_vc Try.func146 rfl ca_146 (by simp only [List.size_toArray]; omega) (by kernel_rfl) h
theorem ca_147 : callable Try.prog 147 = true := nd (by kernel_rfl)
theorem en_147 {W0 : World} {m : Mem} {K : Value → Mem → Prop} {l : List Value} (hl : l.length ≤ Try.f147.ntmps) (h : vc Try.prog W0 Try.f147.ntmps (Try.f147.body.getD .skip) (retK Try.prog W0 Try.f147.results K) (envL l) m) : CallA Try.prog W0 147 l.toArray m K :=
  call_of_vc Try.func147 rfl ca_147 (by simp only [List.size_toArray]; omega) (by kernel_rfl) h
theorem ca_148 : callable Try.prog 148 = true := nd (by kernel_rfl)
theorem en_148 {W0 : World} {m : Mem} {K : Value → Mem → Prop} {l : List Value} (hl : l.length ≤ Try.f148.ntmps) (h : vc Try.prog W0 Try.f148.ntmps (Try.f148.body.getD .skip) (retK Try.prog W0 Try.f148.results K) (envL l) m) : CallA Try.prog W0 148 l.toArray m K :=
  call_of_vc Try.func148 rfl ca_148 (by simp only [List.size_toArray]; omega) (by kernel_rfl) h
theorem ca_149 : callable Try.prog 149 = true := nd (by kernel_rfl)
theorem en_149 {W0 : World} {m : Mem} {K : Value → Mem → Prop} {l : List Value} (hl : l.length ≤ Try.f149.ntmps) (h : vc Try.prog W0 Try.f149.ntmps (Try.f149.body.getD .skip) (retK Try.prog W0 Try.f149.results K) (envL l) m) : CallA Try.prog W0 149 l.toArray m K :=
  call_of_vc Try.func149 rfl ca_149 (by simp only [List.size_toArray]; omega) (by kernel_rfl) h
theorem ca_150 : callable Try.prog 150 = true := nd (by kernel_rfl)
theorem en_150 {W0 : World} {m : Mem} {K : Value → Mem → Prop} {l : List Value} (hl : l.length ≤ Try.f150.ntmps) (h : vc Try.prog W0 Try.f150.ntmps (Try.f150.body.getD .skip) (retK Try.prog W0 Try.f150.results K) (envL l) m) : CallA Try.prog W0 150 l.toArray m K :=
  call_of_vc Try.func150 rfl ca_150 (by simp only [List.size_toArray]; omega) (by kernel_rfl) h
theorem ca_151 : callable Try.prog 151 = true := nd (by kernel_rfl)
theorem en_151 {W0 : World} {m : Mem} {K : Value → Mem → Prop} {l : List Value} (hl : l.length ≤ Try.f151.ntmps) (h : vc Try.prog W0 Try.f151.ntmps (Try.f151.body.getD .skip) (retK Try.prog W0 Try.f151.results K) (envL l) m) : CallA Try.prog W0 151 l.toArray m K :=
  call_of_vc Try.func151 rfl ca_151 (by simp only [List.size_toArray]; omega) (by kernel_rfl) h
theorem ca_152 : callable Try.prog 152 = true := nd (by kernel_rfl)
theorem en_152 {W0 : World} {m : Mem} {K : Value → Mem → Prop} {l : List Value} (hl : l.length ≤ Try.f152.ntmps) (h : vc Try.prog W0 Try.f152.ntmps (Try.f152.body.getD .skip) (retK Try.prog W0 Try.f152.results K) (envL l) m) : CallA Try.prog W0 152 l.toArray m K :=
  call_of_vc Try.func152 rfl ca_152 (by simp only [List.size_toArray]; omega) (by kernel_rfl) h
theorem ca_153 : callable Try.prog 153 = true := nd (by kernel_rfl)
theorem en_153 {W0 : World} {m : Mem} {K : Value → Mem → Prop} {l : List Value} (hl : l.length ≤ Try.f153.ntmps) (h : vc Try.prog W0 Try.f153.ntmps (Try.f153.body.getD .skip) (retK Try.prog W0 Try.f153.results K) (envL l) m) : CallA Try.prog W0 153 l.toArray m K :=
  call_of_vc Try.func153 rfl ca_153 (by simp only [List.size_toArray]; omega) (by kernel_rfl) h
theorem ca_154 : callable Try.prog 154 = true := nd (by kernel_rfl)
theorem en_154 {W0 : World} {m : Mem} {K : Value → Mem → Prop} {l : List Value} (hl : l.length ≤ Try.f154.ntmps) (h : vc Try.prog W0 Try.f154.ntmps (Try.f154.body.getD .skip) (retK Try.prog W0 Try.f154.results K) (envL l) m) : CallA Try.prog W0 154 l.toArray m K :=
  call_of_vc Try.func154 rfl ca_154 (by simp only [List.size_toArray]; omega) (by kernel_rfl) h
theorem ca_155 : callable Try.prog 155 = true := nd (by kernel_rfl)
theorem en_155 {W0 : World} {m : Mem} {K : Value → Mem → Prop} {l : List Value} (hl : l.length ≤ Try.f155.ntmps) (h : vc Try.prog W0 Try.f155.ntmps (Try.f155.body.getD .skip) (retK Try.prog W0 Try.f155.results K) (envL l) m) : CallA Try.prog W0 155 l.toArray m K :=
  call_of_vc Try.func155 rfl ca_155 (by simp only [List.size_toArray]; omega) (by kernel_rfl) h
end Go.Proofs.Ytapppaccnkojkaa.R
