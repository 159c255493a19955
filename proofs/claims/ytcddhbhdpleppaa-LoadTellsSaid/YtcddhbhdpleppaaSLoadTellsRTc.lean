/- What the rows of the program's types tell. No conditions. Written by gent.py. -/
import Derived.Test.YtcddhbhdpleppaaProg
import Derived.Test.YtcddhbhdpleppaaRBld
set_option linter.unusedVariables false
set_option maxRecDepth 100000
namespace Go.Proofs.Ytcddhbhdpleppaa.R
open Go Go.RowKit Go.Proofs.Ytcddhbhdpleppaa
theorem row_1 : rowOf Try.prog 1 = some none := nd (by kernel_rfl)
theorem sz_1 : szOf Try.prog 1 = some 1 := nd (by kernel_rfl)
theorem by_1 : bytesA Try.prog 1 = some 8 := nd (by kernel_rfl)
theorem ze_1 : zeroOf Try.prog 1 = some #[.nilFunc] := nd (by kernel_rfl)
theorem us_1 : (Try.prog.underlying 1).isSome = true := nd (by kernel_rfl)
theorem row_3 : rowOf Try.prog 3 = some none := nd (by kernel_rfl)
theorem sz_3 : szOf Try.prog 3 = some 1 := nd (by kernel_rfl)
theorem by_3 : bytesA Try.prog 3 = some 8 := nd (by kernel_rfl)
theorem ze_3 : zeroOf Try.prog 3 = some #[(.int .i64 0)] := nd (by kernel_rfl)
theorem us_3 : (Try.prog.underlying 3).isSome = true := nd (by kernel_rfl)
theorem un_3 : Try.prog.underlying 3 = some (.int .i64) := nd (by kernel_rfl)
theorem row_4 : rowOf Try.prog 4 = some none := nd (by kernel_rfl)
theorem sz_4 : szOf Try.prog 4 = some 1 := nd (by kernel_rfl)
theorem by_4 : bytesA Try.prog 4 = some 1 := nd (by kernel_rfl)
theorem ze_4 : zeroOf Try.prog 4 = some #[(.bool false)] := nd (by kernel_rfl)
theorem us_4 : (Try.prog.underlying 4).isSome = true := nd (by kernel_rfl)
theorem ib_4 : isBoolT Try.prog 4 = true := nd (by kernel_rfl)
theorem row_9 : rowOf Try.prog 9 = some none := nd (by kernel_rfl)
theorem sz_9 : szOf Try.prog 9 = some 1 := nd (by kernel_rfl)
theorem by_9 : bytesA Try.prog 9 = some 16 := nd (by kernel_rfl)
theorem ze_9 : zeroOf Try.prog 9 = some #[(.string ⟨#[]⟩)] := nd (by kernel_rfl)
theorem us_9 : (Try.prog.underlying 9).isSome = true := nd (by kernel_rfl)
theorem un_9 : Try.prog.underlying 9 = some .string := nd (by kernel_rfl)
theorem row_38 : rowOf Try.prog 38 = some none := nd (by kernel_rfl)
theorem sz_38 : szOf Try.prog 38 = some 1 := nd (by kernel_rfl)
theorem by_38 : bytesA Try.prog 38 = some 24 := nd (by kernel_rfl)
theorem ze_38 : zeroOf Try.prog 38 = some #[(.slice none 0 0)] := nd (by kernel_rfl)
theorem us_38 : (Try.prog.underlying 38).isSome = true := nd (by kernel_rfl)
theorem sl_38 : slOf Try.prog 38 = some (3, 1) := nd (by kernel_rfl)
theorem isl_38 : isSlT Try.prog 38 = true := nd (by kernel_rfl)
theorem row_41 : rowOf Try.prog 41 = some none := nd (by kernel_rfl)
theorem sz_41 : szOf Try.prog 41 = some 1 := nd (by kernel_rfl)
theorem by_41 : bytesA Try.prog 41 = some 8 := nd (by kernel_rfl)
theorem ze_41 : zeroOf Try.prog 41 = some #[.nilFunc] := nd (by kernel_rfl)
theorem us_41 : (Try.prog.underlying 41).isSome = true := nd (by kernel_rfl)
theorem row_47 : rowOf Try.prog 47 = some none := nd (by kernel_rfl)
theorem sz_47 : szOf Try.prog 47 = some 1 := nd (by kernel_rfl)
theorem by_47 : bytesA Try.prog 47 = some 24 := nd (by kernel_rfl)
theorem ze_47 : zeroOf Try.prog 47 = some #[(.slice none 0 0)] := nd (by kernel_rfl)
theorem us_47 : (Try.prog.underlying 47).isSome = true := nd (by kernel_rfl)
theorem sl_47 : slOf Try.prog 47 = some (56, 6) := nd (by kernel_rfl)
theorem isl_47 : isSlT Try.prog 47 = true := nd (by kernel_rfl)
theorem row_48 : rowOf Try.prog 48 = some (some 2) := nd (by kernel_rfl)
theorem sz_48 : szOf Try.prog 48 = some 2 := nd (by kernel_rfl)
theorem by_48 : bytesA Try.prog 48 = some 48 := nd (by kernel_rfl)
theorem ze_48 : zeroOf Try.prog 48 = some #[(.slice none 0 0), (.slice none 0 0)] := nd (by kernel_rfl)
theorem us_48 : (Try.prog.underlying 48).isSome = true := nd (by kernel_rfl)
theorem ar_48 : arrOf Try.prog 48 = some (2, 1, none) := nd (by kernel_rfl)
theorem row_49 : rowOf Try.prog 49 = some (some 3) := nd (by kernel_rfl)
theorem sz_49 : szOf Try.prog 49 = some 3 := nd (by kernel_rfl)
theorem by_49 : bytesA Try.prog 49 = some 56 := nd (by kernel_rfl)
theorem ze_49 : zeroOf Try.prog 49 = some #[(.int .i64 0), (.slice none 0 0), (.slice none 0 0)] := nd (by kernel_rfl)
theorem us_49 : (Try.prog.underlying 49).isSome = true := nd (by kernel_rfl)
theorem fo_49_0 : fieldOff Try.prog 49 0 = some 0 := nd (by kernel_rfl)
theorem fr_49_0 : fieldRow Try.prog 49 0 = some (0, none) := nd (by kernel_rfl)
theorem fo_49_1 : fieldOff Try.prog 49 1 = some 1 := nd (by kernel_rfl)
theorem fr_49_1 : fieldRow Try.prog 49 1 = some (1, some 2) := nd (by kernel_rfl)
theorem row_50 : rowOf Try.prog 50 = some (some 3) := nd (by kernel_rfl)
theorem sz_50 : szOf Try.prog 50 = some 3 := nd (by kernel_rfl)
theorem by_50 : bytesA Try.prog 50 = some 56 := nd (by kernel_rfl)
theorem ze_50 : zeroOf Try.prog 50 = some #[(.int .i64 0), (.slice none 0 0), (.slice none 0 0)] := nd (by kernel_rfl)
theorem us_50 : (Try.prog.underlying 50).isSome = true := nd (by kernel_rfl)
theorem fo_50_0 : fieldOff Try.prog 50 0 = some 0 := nd (by kernel_rfl)
theorem fr_50_0 : fieldRow Try.prog 50 0 = some (0, none) := nd (by kernel_rfl)
theorem fo_50_1 : fieldOff Try.prog 50 1 = some 1 := nd (by kernel_rfl)
theorem fr_50_1 : fieldRow Try.prog 50 1 = some (1, some 2) := nd (by kernel_rfl)
theorem row_55 : rowOf Try.prog 55 = some (some 6) := nd (by kernel_rfl)
theorem sz_55 : szOf Try.prog 55 = some 6 := nd (by kernel_rfl)
theorem by_55 : bytesA Try.prog 55 = some 80 := nd (by kernel_rfl)
theorem ze_55 : zeroOf Try.prog 55 = some #[(.int .i64 0), (.int .i64 0), (.int .i64 0), (.int .i64 0), (.slice none 0 0), (.slice none 0 0)] := nd (by kernel_rfl)
theorem us_55 : (Try.prog.underlying 55).isSome = true := nd (by kernel_rfl)
theorem fo_55_0 : fieldOff Try.prog 55 0 = some 0 := nd (by kernel_rfl)
theorem fr_55_0 : fieldRow Try.prog 55 0 = some (0, none) := nd (by kernel_rfl)
theorem fo_55_1 : fieldOff Try.prog 55 1 = some 1 := nd (by kernel_rfl)
theorem fr_55_1 : fieldRow Try.prog 55 1 = some (1, none) := nd (by kernel_rfl)
theorem fo_55_2 : fieldOff Try.prog 55 2 = some 2 := nd (by kernel_rfl)
theorem fr_55_2 : fieldRow Try.prog 55 2 = some (2, none) := nd (by kernel_rfl)
theorem fo_55_3 : fieldOff Try.prog 55 3 = some 3 := nd (by kernel_rfl)
theorem fr_55_3 : fieldRow Try.prog 55 3 = some (3, none) := nd (by kernel_rfl)
theorem fo_55_4 : fieldOff Try.prog 55 4 = some 4 := nd (by kernel_rfl)
theorem fr_55_4 : fieldRow Try.prog 55 4 = some (4, none) := nd (by kernel_rfl)
theorem fo_55_5 : fieldOff Try.prog 55 5 = some 5 := nd (by kernel_rfl)
theorem fr_55_5 : fieldRow Try.prog 55 5 = some (5, none) := nd (by kernel_rfl)
theorem row_56 : rowOf Try.prog 56 = some (some 6) := nd (by kernel_rfl)
theorem sz_56 : szOf Try.prog 56 = some 6 := nd (by kernel_rfl)
theorem by_56 : bytesA Try.prog 56 = some 80 := nd (by kernel_rfl)
theorem ze_56 : zeroOf Try.prog 56 = some #[(.int .i64 0), (.int .i64 0), (.int .i64 0), (.int .i64 0), (.slice none 0 0), (.slice none 0 0)] := nd (by kernel_rfl)
theorem us_56 : (Try.prog.underlying 56).isSome = true := nd (by kernel_rfl)
theorem fo_56_0 : fieldOff Try.prog 56 0 = some 0 := nd (by kernel_rfl)
theorem fr_56_0 : fieldRow Try.prog 56 0 = some (0, none) := nd (by kernel_rfl)
theorem fo_56_1 : fieldOff Try.prog 56 1 = some 1 := nd (by kernel_rfl)
theorem fr_56_1 : fieldRow Try.prog 56 1 = some (1, none) := nd (by kernel_rfl)
theorem fo_56_2 : fieldOff Try.prog 56 2 = some 2 := nd (by kernel_rfl)
theorem fr_56_2 : fieldRow Try.prog 56 2 = some (2, none) := nd (by kernel_rfl)
theorem fo_56_3 : fieldOff Try.prog 56 3 = some 3 := nd (by kernel_rfl)
theorem fr_56_3 : fieldRow Try.prog 56 3 = some (3, none) := nd (by kernel_rfl)
theorem fo_56_4 : fieldOff Try.prog 56 4 = some 4 := nd (by kernel_rfl)
theorem fr_56_4 : fieldRow Try.prog 56 4 = some (4, none) := nd (by kernel_rfl)
theorem fo_56_5 : fieldOff Try.prog 56 5 = some 5 := nd (by kernel_rfl)
theorem fr_56_5 : fieldRow Try.prog 56 5 = some (5, none) := nd (by kernel_rfl)
theorem row_65 : rowOf Try.prog 65 = some none := nd (by kernel_rfl)
theorem sz_65 : szOf Try.prog 65 = some 1 := nd (by kernel_rfl)
theorem by_65 : bytesA Try.prog 65 = some 8 := nd (by kernel_rfl)
theorem ze_65 : zeroOf Try.prog 65 = some #[(.int .i64 0)] := nd (by kernel_rfl)
theorem us_65 : (Try.prog.underlying 65).isSome = true := nd (by kernel_rfl)
theorem un_65 : Try.prog.underlying 65 = some (.int .i64) := nd (by kernel_rfl)
theorem row_82 : rowOf Try.prog 82 = some (some 6) := nd (by kernel_rfl)
theorem sz_82 : szOf Try.prog 82 = some 6 := nd (by kernel_rfl)
theorem by_82 : bytesA Try.prog 82 = some 80 := nd (by kernel_rfl)
theorem ze_82 : zeroOf Try.prog 82 = some #[(.int .i64 0), (.int .i64 0), (.int .i64 0), (.int .i64 0), (.slice none 0 0), (.slice none 0 0)] := nd (by kernel_rfl)
theorem us_82 : (Try.prog.underlying 82).isSome = true := nd (by kernel_rfl)
theorem fo_82_0 : fieldOff Try.prog 82 0 = some 0 := nd (by kernel_rfl)
theorem fr_82_0 : fieldRow Try.prog 82 0 = some (0, none) := nd (by kernel_rfl)
theorem fo_82_1 : fieldOff Try.prog 82 1 = some 1 := nd (by kernel_rfl)
theorem fr_82_1 : fieldRow Try.prog 82 1 = some (1, none) := nd (by kernel_rfl)
theorem fo_82_2 : fieldOff Try.prog 82 2 = some 2 := nd (by kernel_rfl)
theorem fr_82_2 : fieldRow Try.prog 82 2 = some (2, none) := nd (by kernel_rfl)
theorem fo_82_3 : fieldOff Try.prog 82 3 = some 3 := nd (by kernel_rfl)
theorem fr_82_3 : fieldRow Try.prog 82 3 = some (3, none) := nd (by kernel_rfl)
theorem fo_82_4 : fieldOff Try.prog 82 4 = some 4 := nd (by kernel_rfl)
theorem fr_82_4 : fieldRow Try.prog 82 4 = some (4, none) := nd (by kernel_rfl)
theorem fo_82_5 : fieldOff Try.prog 82 5 = some 5 := nd (by kernel_rfl)
theorem fr_82_5 : fieldRow Try.prog 82 5 = some (5, none) := nd (by kernel_rfl)
theorem row_87 : rowOf Try.prog 87 = some none := nd (by kernel_rfl)
theorem sz_87 : szOf Try.prog 87 = some 1 := nd (by kernel_rfl)
theorem by_87 : bytesA Try.prog 87 = some 24 := nd (by kernel_rfl)
theorem ze_87 : zeroOf Try.prog 87 = some #[(.slice none 0 0)] := nd (by kernel_rfl)
theorem us_87 : (Try.prog.underlying 87).isSome = true := nd (by kernel_rfl)
theorem sl_87 : slOf Try.prog 87 = some (82, 6) := nd (by kernel_rfl)
theorem isl_87 : isSlT Try.prog 87 = true := nd (by kernel_rfl)
theorem row_92 : rowOf Try.prog 92 = some (some 3) := nd (by kernel_rfl)
theorem sz_92 : szOf Try.prog 92 = some 3 := nd (by kernel_rfl)
theorem by_92 : bytesA Try.prog 92 = some 24 := nd (by kernel_rfl)
theorem ze_92 : zeroOf Try.prog 92 = some #[(.int .i64 0), (.int .i64 0), (.int .i64 0)] := nd (by kernel_rfl)
theorem us_92 : (Try.prog.underlying 92).isSome = true := nd (by kernel_rfl)
theorem fo_92_0 : fieldOff Try.prog 92 0 = some 0 := nd (by kernel_rfl)
theorem fr_92_0 : fieldRow Try.prog 92 0 = some (0, none) := nd (by kernel_rfl)
theorem fo_92_1 : fieldOff Try.prog 92 1 = some 1 := nd (by kernel_rfl)
theorem fr_92_1 : fieldRow Try.prog 92 1 = some (1, none) := nd (by kernel_rfl)
theorem fo_92_2 : fieldOff Try.prog 92 2 = some 2 := nd (by kernel_rfl)
theorem fr_92_2 : fieldRow Try.prog 92 2 = some (2, none) := nd (by kernel_rfl)
theorem row_93 : rowOf Try.prog 93 = some (some 3) := nd (by kernel_rfl)
theorem sz_93 : szOf Try.prog 93 = some 3 := nd (by kernel_rfl)
theorem by_93 : bytesA Try.prog 93 = some 24 := nd (by kernel_rfl)
theorem ze_93 : zeroOf Try.prog 93 = some #[(.int .i64 0), (.int .i64 0), (.int .i64 0)] := nd (by kernel_rfl)
theorem us_93 : (Try.prog.underlying 93).isSome = true := nd (by kernel_rfl)
theorem fo_93_0 : fieldOff Try.prog 93 0 = some 0 := nd (by kernel_rfl)
theorem fr_93_0 : fieldRow Try.prog 93 0 = some (0, none) := nd (by kernel_rfl)
theorem fo_93_1 : fieldOff Try.prog 93 1 = some 1 := nd (by kernel_rfl)
theorem fr_93_1 : fieldRow Try.prog 93 1 = some (1, none) := nd (by kernel_rfl)
theorem fo_93_2 : fieldOff Try.prog 93 2 = some 2 := nd (by kernel_rfl)
theorem fr_93_2 : fieldRow Try.prog 93 2 = some (2, none) := nd (by kernel_rfl)
theorem row_100 : rowOf Try.prog 100 = some (some 2) := nd (by kernel_rfl)
theorem sz_100 : szOf Try.prog 100 = some 2 := nd (by kernel_rfl)
theorem by_100 : bytesA Try.prog 100 = some 48 := nd (by kernel_rfl)
theorem ze_100 : zeroOf Try.prog 100 = some #[(.slice none 0 0), (.slice none 0 0)] := nd (by kernel_rfl)
theorem us_100 : (Try.prog.underlying 100).isSome = true := nd (by kernel_rfl)
theorem ar_100 : arrOf Try.prog 100 = some (2, 1, none) := nd (by kernel_rfl)
theorem row_103 : rowOf Try.prog 103 = some (some 5) := nd (by kernel_rfl)
theorem sz_103 : szOf Try.prog 103 = some 5 := nd (by kernel_rfl)
theorem by_103 : bytesA Try.prog 103 = some 40 := nd (by kernel_rfl)
theorem ze_103 : zeroOf Try.prog 103 = some #[(.int .i64 0), (.int .i64 0), (.int .i64 0), (.int .i64 0), (.int .i64 0)] := nd (by kernel_rfl)
theorem us_103 : (Try.prog.underlying 103).isSome = true := nd (by kernel_rfl)
theorem fo_103_0 : fieldOff Try.prog 103 0 = some 0 := nd (by kernel_rfl)
theorem fr_103_0 : fieldRow Try.prog 103 0 = some (0, none) := nd (by kernel_rfl)
theorem fo_103_1 : fieldOff Try.prog 103 1 = some 1 := nd (by kernel_rfl)
theorem fr_103_1 : fieldRow Try.prog 103 1 = some (1, none) := nd (by kernel_rfl)
theorem fo_103_2 : fieldOff Try.prog 103 2 = some 2 := nd (by kernel_rfl)
theorem fr_103_2 : fieldRow Try.prog 103 2 = some (2, none) := nd (by kernel_rfl)
theorem fo_103_3 : fieldOff Try.prog 103 3 = some 3 := nd (by kernel_rfl)
theorem fr_103_3 : fieldRow Try.prog 103 3 = some (3, none) := nd (by kernel_rfl)
theorem fo_103_4 : fieldOff Try.prog 103 4 = some 4 := nd (by kernel_rfl)
theorem fr_103_4 : fieldRow Try.prog 103 4 = some (4, none) := nd (by kernel_rfl)
theorem row_104 : rowOf Try.prog 104 = some (some 5) := nd (by kernel_rfl)
theorem sz_104 : szOf Try.prog 104 = some 5 := nd (by kernel_rfl)
theorem by_104 : bytesA Try.prog 104 = some 40 := nd (by kernel_rfl)
theorem ze_104 : zeroOf Try.prog 104 = some #[(.int .i64 0), (.int .i64 0), (.int .i64 0), (.int .i64 0), (.int .i64 0)] := nd (by kernel_rfl)
theorem us_104 : (Try.prog.underlying 104).isSome = true := nd (by kernel_rfl)
theorem fo_104_0 : fieldOff Try.prog 104 0 = some 0 := nd (by kernel_rfl)
theorem fr_104_0 : fieldRow Try.prog 104 0 = some (0, none) := nd (by kernel_rfl)
theorem fo_104_1 : fieldOff Try.prog 104 1 = some 1 := nd (by kernel_rfl)
theorem fr_104_1 : fieldRow Try.prog 104 1 = some (1, none) := nd (by kernel_rfl)
theorem fo_104_2 : fieldOff Try.prog 104 2 = some 2 := nd (by kernel_rfl)
theorem fr_104_2 : fieldRow Try.prog 104 2 = some (2, none) := nd (by kernel_rfl)
theorem fo_104_3 : fieldOff Try.prog 104 3 = some 3 := nd (by kernel_rfl)
theorem fr_104_3 : fieldRow Try.prog 104 3 = some (3, none) := nd (by kernel_rfl)
theorem fo_104_4 : fieldOff Try.prog 104 4 = some 4 := nd (by kernel_rfl)
theorem fr_104_4 : fieldRow Try.prog 104 4 = some (4, none) := nd (by kernel_rfl)
theorem row_122 : rowOf Try.prog 122 = some (some 8) := nd (by kernel_rfl)
theorem sz_122 : szOf Try.prog 122 = some 8 := nd (by kernel_rfl)
theorem by_122 : bytesA Try.prog 122 = some 64 := nd (by kernel_rfl)
theorem ze_122 : zeroOf Try.prog 122 = some #[(.int .i64 0), (.int .i64 0), (.int .i64 0), (.int .i64 0), (.int .i64 0), (.int .i64 0), (.int .i64 0), (.bool false)] := nd (by kernel_rfl)
theorem us_122 : (Try.prog.underlying 122).isSome = true := nd (by kernel_rfl)
theorem fo_122_0 : fieldOff Try.prog 122 0 = some 0 := nd (by kernel_rfl)
theorem fr_122_0 : fieldRow Try.prog 122 0 = some (0, none) := nd (by kernel_rfl)
theorem fo_122_1 : fieldOff Try.prog 122 1 = some 1 := nd (by kernel_rfl)
theorem fr_122_1 : fieldRow Try.prog 122 1 = some (1, none) := nd (by kernel_rfl)
theorem fo_122_2 : fieldOff Try.prog 122 2 = some 2 := nd (by kernel_rfl)
theorem fr_122_2 : fieldRow Try.prog 122 2 = some (2, none) := nd (by kernel_rfl)
theorem fo_122_3 : fieldOff Try.prog 122 3 = some 3 := nd (by kernel_rfl)
theorem fr_122_3 : fieldRow Try.prog 122 3 = some (3, none) := nd (by kernel_rfl)
theorem fo_122_4 : fieldOff Try.prog 122 4 = some 4 := nd (by kernel_rfl)
theorem fr_122_4 : fieldRow Try.prog 122 4 = some (4, none) := nd (by kernel_rfl)
theorem fo_122_5 : fieldOff Try.prog 122 5 = some 5 := nd (by kernel_rfl)
theorem fr_122_5 : fieldRow Try.prog 122 5 = some (5, none) := nd (by kernel_rfl)
theorem fo_122_6 : fieldOff Try.prog 122 6 = some 6 := nd (by kernel_rfl)
theorem fr_122_6 : fieldRow Try.prog 122 6 = some (6, none) := nd (by kernel_rfl)
theorem fo_122_7 : fieldOff Try.prog 122 7 = some 7 := nd (by kernel_rfl)
theorem fr_122_7 : fieldRow Try.prog 122 7 = some (7, none) := nd (by kernel_rfl)
end Go.Proofs.Ytcddhbhdpleppaa.R
/- What the rows of the program's types tell. No conditions. Written by gent.py. -/
set_option linter.unusedVariables false
set_option maxRecDepth 100000
namespace Go.Proofs.Ytcddhbhdpleppaa.R
open Go Go.RowKit Go.Proofs.Ytcddhbhdpleppaa
theorem row_137 : rowOf Try.prog 137 = some none := nd (by kernel_rfl)
theorem sz_137 : szOf Try.prog 137 = some 1 := nd (by kernel_rfl)
theorem by_137 : bytesA Try.prog 137 = some 24 := nd (by kernel_rfl)
theorem ze_137 : zeroOf Try.prog 137 = some #[(.slice none 0 0)] := nd (by kernel_rfl)
theorem us_137 : (Try.prog.underlying 137).isSome = true := nd (by kernel_rfl)
theorem sl_137 : slOf Try.prog 137 = some (139, 8) := nd (by kernel_rfl)
theorem isl_137 : isSlT Try.prog 137 = true := nd (by kernel_rfl)
theorem row_139 : rowOf Try.prog 139 = some (some 8) := nd (by kernel_rfl)
theorem sz_139 : szOf Try.prog 139 = some 8 := nd (by kernel_rfl)
theorem by_139 : bytesA Try.prog 139 = some 64 := nd (by kernel_rfl)
theorem ze_139 : zeroOf Try.prog 139 = some #[(.int .i64 0), (.int .i64 0), (.int .i64 0), (.int .i64 0), (.int .i64 0), (.int .i64 0), (.int .i64 0), (.bool false)] := nd (by kernel_rfl)
theorem us_139 : (Try.prog.underlying 139).isSome = true := nd (by kernel_rfl)
theorem fo_139_0 : fieldOff Try.prog 139 0 = some 0 := nd (by kernel_rfl)
theorem fr_139_0 : fieldRow Try.prog 139 0 = some (0, none) := nd (by kernel_rfl)
theorem fo_139_1 : fieldOff Try.prog 139 1 = some 1 := nd (by kernel_rfl)
theorem fr_139_1 : fieldRow Try.prog 139 1 = some (1, none) := nd (by kernel_rfl)
theorem fo_139_2 : fieldOff Try.prog 139 2 = some 2 := nd (by kernel_rfl)
theorem fr_139_2 : fieldRow Try.prog 139 2 = some (2, none) := nd (by kernel_rfl)
theorem fo_139_3 : fieldOff Try.prog 139 3 = some 3 := nd (by kernel_rfl)
theorem fr_139_3 : fieldRow Try.prog 139 3 = some (3, none) := nd (by kernel_rfl)
theorem fo_139_4 : fieldOff Try.prog 139 4 = some 4 := nd (by kernel_rfl)
theorem fr_139_4 : fieldRow Try.prog 139 4 = some (4, none) := nd (by kernel_rfl)
theorem fo_139_5 : fieldOff Try.prog 139 5 = some 5 := nd (by kernel_rfl)
theorem fr_139_5 : fieldRow Try.prog 139 5 = some (5, none) := nd (by kernel_rfl)
theorem fo_139_6 : fieldOff Try.prog 139 6 = some 6 := nd (by kernel_rfl)
theorem fr_139_6 : fieldRow Try.prog 139 6 = some (6, none) := nd (by kernel_rfl)
theorem fo_139_7 : fieldOff Try.prog 139 7 = some 7 := nd (by kernel_rfl)
theorem fr_139_7 : fieldRow Try.prog 139 7 = some (7, none) := nd (by kernel_rfl)
theorem row_151 : rowOf Try.prog 151 = some none := nd (by kernel_rfl)
theorem sz_151 : szOf Try.prog 151 = some 1 := nd (by kernel_rfl)
theorem by_151 : bytesA Try.prog 151 = some 8 := nd (by kernel_rfl)
theorem ze_151 : zeroOf Try.prog 151 = some #[.nilFunc] := nd (by kernel_rfl)
theorem us_151 : (Try.prog.underlying 151).isSome = true := nd (by kernel_rfl)
theorem row_154 : rowOf Try.prog 154 = some (some 64) := nd (by kernel_rfl)
theorem sz_154 : szOf Try.prog 154 = some 64 := nd (by kernel_rfl)
theorem by_154 : bytesA Try.prog 154 = some 512 := nd (by kernel_rfl)
theorem ze_154 : zeroOf Try.prog 154 = some (List.replicate 64 ((.int .i64 0) : Value)).toArray := nd (by kernel_rfl)
theorem us_154 : (Try.prog.underlying 154).isSome = true := nd (by kernel_rfl)
theorem ar_154 : arrOf Try.prog 154 = some (64, 1, none) := nd (by kernel_rfl)
theorem row_230 : rowOf Try.prog 230 = some none := nd (by kernel_rfl)
theorem sz_230 : szOf Try.prog 230 = some 1 := nd (by kernel_rfl)
theorem by_230 : bytesA Try.prog 230 = some 8 := nd (by kernel_rfl)
theorem ze_230 : zeroOf Try.prog 230 = some #[(.map none)] := nd (by kernel_rfl)
theorem us_230 : (Try.prog.underlying 230).isSome = true := nd (by kernel_rfl)
end Go.Proofs.Ytcddhbhdpleppaa.R
/- What the rows of the program's types tell. No conditions. Written by gent.py. -/
set_option linter.unusedVariables false
set_option maxRecDepth 100000
namespace Go.Proofs.Ytcddhbhdpleppaa.R
open Go Go.RowKit Go.Proofs.Ytcddhbhdpleppaa
theorem ca_8 : callable Try.prog 8 = true := nd (by kernel_rfl)
theorem en_8 {W0 : World} {m : Mem} {K : Value → Mem → Prop} {l : List Value} (hl : l.length ≤ Try.f8.ntmps) (h : vc Try.prog W0 Try.f8.ntmps (Try.f8.body.getD .skip) (retK Try.prog W0 Try.f8.results K) (envL l) m) : CallA Try.prog W0 8 l.toArray m K :=
  call_of_vc Try.func8 rfl ca_8 (by simp only [List.size_toArray]; omega) (by kernel_rfl) h
theorem ca_27 : callable Try.prog 27 = true := nd (by kernel_rfl)
theorem en_27 {W0 : World} {m : Mem} {K : Value → Mem → Prop} {l : List Value} (hl : l.length ≤ Try.f27.ntmps) (h : vc Try.prog W0 Try.f27.ntmps (Try.f27.body.getD .skip) (retK Try.prog W0 Try.f27.results K) (envL l) m) : CallA Try.prog W0 27 l.toArray m K :=
  call_of_vc Try.func27 rfl ca_27 (by simp only [List.size_toArray]; omega) (by kernel_rfl) h
theorem ca_53 : callable Try.prog 53 = true := nd (by kernel_rfl)
theorem en_53 {W0 : World} {m : Mem} {K : Value → Mem → Prop} {l : List Value} (hl : l.length ≤ Try.f53.ntmps) (h : vc Try.prog W0 Try.f53.ntmps (Try.f53.body.getD .skip) (retK Try.prog W0 Try.f53.results K) (envL l) m) : CallA Try.prog W0 53 l.toArray m K :=
  call_of_vc Try.func53 rfl ca_53 (by simp only [List.size_toArray]; omega) (by kernel_rfl) h
theorem ca_55 : callable Try.prog 55 = true := nd (by kernel_rfl)
theorem en_55 {W0 : World} {m : Mem} {K : Value → Mem → Prop} {l : List Value} (hl : l.length ≤ Try.f55.ntmps) (h : vc Try.prog W0 Try.f55.ntmps (Try.f55.body.getD .skip) (retK Try.prog W0 Try.f55.results K) (envL l) m) : CallA Try.prog W0 55 l.toArray m K :=
  call_of_vc Try.func55 rfl ca_55 (by simp only [List.size_toArray]; omega) (by kernel_rfl) h
theorem ca_56 : callable Try.prog 56 = true := nd (by kernel_rfl)
theorem en_56 {W0 : World} {m : Mem} {K : Value → Mem → Prop} {l : List Value} (hl : l.length ≤ Try.f56.ntmps) (h : vc Try.prog W0 Try.f56.ntmps (Try.f56.body.getD .skip) (retK Try.prog W0 Try.f56.results K) (envL l) m) : CallA Try.prog W0 56 l.toArray m K :=
  call_of_vc Try.func56 rfl ca_56 (by simp only [List.size_toArray]; omega) (by kernel_rfl) h
theorem ca_57 : callable Try.prog 57 = true := nd (by kernel_rfl)
theorem en_57 {W0 : World} {m : Mem} {K : Value → Mem → Prop} {l : List Value} (hl : l.length ≤ Try.f57.ntmps) (h : vc Try.prog W0 Try.f57.ntmps (Try.f57.body.getD .skip) (retK Try.prog W0 Try.f57.results K) (envL l) m) : CallA Try.prog W0 57 l.toArray m K :=
  call_of_vc Try.func57 rfl ca_57 (by simp only [List.size_toArray]; omega) (by kernel_rfl) h
theorem ca_58 : callable Try.prog 58 = true := nd (by kernel_rfl)
theorem en_58 {W0 : World} {m : Mem} {K : Value → Mem → Prop} {l : List Value} (hl : l.length ≤ Try.f58.ntmps) (h : vc Try.prog W0 Try.f58.ntmps (Try.f58.body.getD .skip) (retK Try.prog W0 Try.f58.results K) (envL l) m) : CallA Try.prog W0 58 l.toArray m K :=
  call_of_vc Try.func58 rfl ca_58 (by simp only [List.size_toArray]; omega) (by kernel_rfl) h
theorem ca_59 : callable Try.prog 59 = true := nd (by kernel_rfl)
theorem en_59 {W0 : World} {m : Mem} {K : Value → Mem → Prop} {l : List Value} (hl : l.length ≤ Try.f59.ntmps) (h : vc Try.prog W0 Try.f59.ntmps (Try.f59.body.getD .skip) (retK Try.prog W0 Try.f59.results K) (envL l) m) : CallA Try.prog W0 59 l.toArray m K :=
  call_of_vc Try.func59 rfl ca_59 (by simp only [List.size_toArray]; omega) (by kernel_rfl) h
theorem ca_60 : callable Try.prog 60 = true := nd (by kernel_rfl)
theorem en_60 {W0 : World} {m : Mem} {K : Value → Mem → Prop} {l : List Value} (hl : l.length ≤ Try.f60.ntmps) (h : vc Try.prog W0 Try.f60.ntmps (Try.f60.body.getD .skip) (retK Try.prog W0 Try.f60.results K) (envL l) m) : CallA Try.prog W0 60 l.toArray m K :=
  call_of_vc Try.func60 rfl ca_60 (by simp only [List.size_toArray]; omega) (by kernel_rfl) h
theorem ca_61 : callable Try.prog 61 = true := nd (by kernel_rfl)
theorem en_61 {W0 : World} {m : Mem} {K : Value → Mem → Prop} {l : List Value} (hl : l.length ≤ Try.f61.ntmps) (h : vc Try.prog W0 Try.f61.ntmps (Try.f61.body.getD .skip) (retK Try.prog W0 Try.f61.results K) (envL l) m) : CallA Try.prog W0 61 l.toArray m K :=
  call_of_vc Try.func61 rfl ca_61 (by simp only [List.size_toArray]; omega) (by kernel_rfl) h
theorem ca_62 : callable Try.prog 62 = true := nd (by kernel_rfl)
theorem en_62 {W0 : World} {m : Mem} {K : Value → Mem → Prop} {l : List Value} (hl : l.length ≤ Try.f62.ntmps) (h : vc Try.prog W0 Try.f62.ntmps (Try.f62.body.getD .skip) (retK Try.prog W0 Try.f62.results K) (envL l) m) : CallA Try.prog W0 62 l.toArray m K :=
  call_of_vc Try.func62 rfl ca_62 (by simp only [List.size_toArray]; omega) (by kernel_rfl) h
theorem ca_63 : callable Try.prog 63 = true := nd (by kernel_rfl)
theorem en_63 {W0 : World} {m : Mem} {K : Value → Mem → Prop} {l : List Value} (hl : l.length ≤ Try.f63.ntmps) (h : vc Try.prog W0 Try.f63.ntmps (Try.f63.body.getD .skip) (retK Try.prog W0 Try.f63.results K) (envL l) m) : CallA Try.prog W0 63 l.toArray m K :=
  call_of_vc Try.func63 rfl ca_63 (by simp only [List.size_toArray]; omega) (by kernel_rfl) h
theorem ca_64 : callable Try.prog 64 = true := nd (by kernel_rfl)
theorem en_64 {W0 : World} {m : Mem} {K : Value → Mem → Prop} {l : List Value} (hl : l.length ≤ Try.f64.ntmps) (h : vc Try.prog W0 Try.f64.ntmps (Try.f64.body.getD .skip) (retK Try.prog W0 Try.f64.results K) (envL l) m) : CallA Try.prog W0 64 l.toArray m K :=
  call_of_vc Try.func64 rfl ca_64 (by simp only [List.size_toArray]; omega) (by kernel_rfl) h
theorem ca_65 : callable Try.prog 65 = true := nd (by kernel_rfl)
theorem en_65 {W0 : World} {m : Mem} {K : Value → Mem → Prop} {l : List Value} (hl : l.length ≤ Try.f65.ntmps) (h : vc Try.prog W0 Try.f65.ntmps (Try.f65.body.getD .skip) (retK Try.prog W0 Try.f65.results K) (envL l) m) : CallA Try.prog W0 65 l.toArray m K :=
  call_of_vc Try.func65 rfl ca_65 (by simp only [List.size_toArray]; omega) (by kernel_rfl) h
theorem ca_66 : callable Try.prog 66 = true := nd (by kernel_rfl)
theorem en_66 {W0 : World} {m : Mem} {K : Value → Mem → Prop} {l : List Value} (hl : l.length ≤ Try.f66.ntmps) (h : vc Try.prog W0 Try.f66.ntmps (Try.f66.body.getD .skip) (retK Try.prog W0 Try.f66.results K) (envL l) m) : CallA Try.prog W0 66 l.toArray m K :=
  call_of_vc Try.func66 rfl ca_66 (by simp only [List.size_toArray]; omega) (by kernel_rfl) h
theorem ca_67 : callable Try.prog 67 = true := nd (by kernel_rfl)
theorem en_67 {W0 : World} {m : Mem} {K : Value → Mem → Prop} {l : List Value} (hl : l.length ≤ Try.f67.ntmps) (h : vc Try.prog W0 Try.f67.ntmps (Try.f67.body.getD .skip) (retK Try.prog W0 Try.f67.results K) (envL l) m) : CallA Try.prog W0 67 l.toArray m K :=
  call_of_vc Try.func67 rfl ca_67 (by simp only [List.size_toArray]; omega) (by kernel_rfl) h
theorem ca_68 : callable Try.prog 68 = true := nd (by kernel_rfl)
theorem en_68 {W0 : World} {m : Mem} {K : Value → Mem → Prop} {l : List Value} (hl : l.length ≤ Try.f68.ntmps) (h : vc Try.prog W0 Try.f68.ntmps (Try.f68.body.getD .skip) (retK Try.prog W0 Try.f68.results K) (envL l) m) : CallA Try.prog W0 68 l.toArray m K :=
  call_of_vc Try.func68 rfl ca_68 (by simp only [List.size_toArray]; omega) (by kernel_rfl) h
theorem ca_69 : callable Try.prog 69 = true := nd (by kernel_rfl)
theorem en_69 {W0 : World} {m : Mem} {K : Value → Mem → Prop} {l : List Value} (hl : l.length ≤ Try.f69.ntmps) (h : vc Try.prog W0 Try.f69.ntmps (Try.f69.body.getD .skip) (retK Try.prog W0 Try.f69.results K) (envL l) m) : CallA Try.prog W0 69 l.toArray m K :=
  call_of_vc Try.func69 rfl ca_69 (by simp only [List.size_toArray]; omega) (by kernel_rfl) h
theorem ca_70 : callable Try.prog 70 = true := nd (by kernel_rfl)
theorem en_70 {W0 : World} {m : Mem} {K : Value → Mem → Prop} {l : List Value} (hl : l.length ≤ Try.f70.ntmps) (h : vc Try.prog W0 Try.f70.ntmps (Try.f70.body.getD .skip) (retK Try.prog W0 Try.f70.results K) (envL l) m) : CallA Try.prog W0 70 l.toArray m K :=
  call_of_vc Try.func70 rfl ca_70 (by simp only [List.size_toArray]; omega) (by kernel_rfl) h
theorem ca_89 : callable Try.prog 89 = true := nd (by kernel_rfl)
theorem en_89 {W0 : World} {m : Mem} {K : Value → Mem → Prop} {l : List Value} (hl : l.length ≤ Try.f89.ntmps) (h : vc Try.prog W0 Try.f89.ntmps (Try.f89.body.getD .skip) (retK Try.prog W0 Try.f89.results K) (envL l) m) : CallA Try.prog W0 89 l.toArray m K :=
  call_of_vc Try.func89 rfl ca_89 (by simp only [List.size_toArray]; omega) (by kernel_rfl) h
theorem ca_101 : callable Try.prog 101 = true := nd (by kernel_rfl)
theorem en_101 {W0 : World} {m : Mem} {K : Value → Mem → Prop} {l : List Value} (hl : l.length ≤ Try.f101.ntmps) (h : vc Try.prog W0 Try.f101.ntmps (Try.f101.body.getD .skip) (retK Try.prog W0 Try.f101.results K) (envL l) m) : CallA Try.prog W0 101 l.toArray m K :=
  call_of_vc Try.func101 rfl ca_101 (by simp only [List.size_toArray]; omega) (by kernel_rfl) h
theorem ca_102 : callable Try.prog 102 = true := nd (by kernel_rfl)
theorem en_102 {W0 : World} {m : Mem} {K : Value → Mem → Prop} {l : List Value} (hl : l.length ≤ Try.f102.ntmps) (h : vc Try.prog W0 Try.f102.ntmps (Try.f102.body.getD .skip) (retK Try.prog W0 Try.f102.results K) (envL l) m) : CallA Try.prog W0 102 l.toArray m K :=
  call_of_vc Try.func102 rfl ca_102 (by simp only [List.size_toArray]; omega) (by kernel_rfl) h
theorem ca_116 : callable Try.prog 116 = true := nd (by kernel_rfl)
theorem en_116 {W0 : World} {m : Mem} {K : Value → Mem → Prop} {l : List Value} (hl : l.length ≤ Try.f116.ntmps) (h : vc Try.prog W0 Try.f116.ntmps (Try.f116.body.getD .skip) (retK Try.prog W0 Try.f116.results K) (envL l) m) : CallA Try.prog W0 116 l.toArray m K :=
  call_of_vc Try.func116 rfl ca_116 (by simp only [List.size_toArray]; omega) (by kernel_rfl) h
theorem ca_119 : callable Try.prog 119 = true := nd (by kernel_rfl)
theorem ca_120 : callable Try.prog 120 = true := nd (by kernel_rfl)
theorem en_120 {W0 : World} {m : Mem} {K : Value → Mem → Prop} {l : List Value} (hl : l.length ≤ Try.f120.ntmps) (h : vc Try.prog W0 Try.f120.ntmps (Try.f120.body.getD .skip) (retK Try.prog W0 Try.f120.results K) (envL l) m) : CallA Try.prog W0 120 l.toArray m K :=
  call_of_vc Try.func120 rfl ca_120 (by simp only [List.size_toArray]; omega) (by kernel_rfl) h
theorem ca_121 : callable Try.prog 121 = true := nd (by kernel_rfl)
theorem en_121 {W0 : World} {m : Mem} {K : Value → Mem → Prop} {l : List Value} (hl : l.length ≤ Try.f121.ntmps) (h : vc Try.prog W0 Try.f121.ntmps (Try.f121.body.getD .skip) (retK Try.prog W0 Try.f121.results K) (envL l) m) : CallA Try.prog W0 121 l.toArray m K :=
  call_of_vc Try.func121 rfl ca_121 (by simp only [List.size_toArray]; omega) (by kernel_rfl) h
theorem ca_122 : callable Try.prog 122 = true := nd (by kernel_rfl)
theorem en_122 {W0 : World} {m : Mem} {K : Value → Mem → Prop} {l : List Value} (hl : l.length ≤ Try.f122.ntmps) (h : vc Try.prog W0 Try.f122.ntmps (Try.f122.body.getD .skip) (retK Try.prog W0 Try.f122.results K) (envL l) m) : CallA Try.prog W0 122 l.toArray m K :=
  call_of_vc Try.func122 rfl ca_122 (by simp only [List.size_toArray]; omega) (by kernel_rfl) h
theorem ca_123 : callable Try.prog 123 = true := nd (by kernel_rfl)
theorem en_123 {W0 : World} {m : Mem} {K : Value → Mem → Prop} {l : List Value} (hl : l.length ≤ Try.f123.ntmps) (h : vc Try.prog W0 Try.f123.ntmps (Try.f123.body.getD .skip) (retK Try.prog W0 Try.f123.results K) (envL l) m) : CallA Try.prog W0 123 l.toArray m K :=
  call_of_vc Try.func123 rfl ca_123 (by simp only [List.size_toArray]; omega) (by kernel_rfl) h
theorem ca_124 : callable Try.prog 124 = true := nd (by kernel_rfl)
theorem en_124 {W0 : World} {m : Mem} {K : Value → Mem → Prop} {l : List Value} (hl : l.length ≤ Try.f124.ntmps) (h : vc Try.prog W0 Try.f124.ntmps (Try.f124.body.getD .skip) (retK Try.prog W0 Try.f124.results K) (envL l) m) : CallA Try.prog W0 124 l.toArray m K :=
  call_of_vc Try.func124 rfl ca_124 (by simp only [List.size_toArray]; omega) (by kernel_rfl) h
theorem ca_125 : callable Try.prog 125 = true := nd (by kernel_rfl)
theorem en_125 {W0 : World} {m : Mem} {K : Value → Mem → Prop} {l : List Value} (hl : l.length ≤ Try.f125.ntmps) (h : vc Try.prog W0 Try.f125.ntmps (Try.f125.body.getD .skip) (retK Try.prog W0 Try.f125.results K) (envL l) m) : CallA Try.prog W0 125 l.toArray m K :=
  call_of_vc Try.func125 rfl ca_125 (by simp only [List.size_toArray]; omega) (by kernel_rfl) h
theorem ca_126 : callable Try.prog 126 = true := nd (by kernel_rfl)
theorem en_126 {W0 : World} {m : Mem} {K : Value → Mem → Prop} {l : List Value} (hl : l.length ≤ Try.f126.ntmps) (h : vc Try.prog W0 Try.f126.ntmps (Try.f126.body.getD .skip) (retK Try.prog W0 Try.f126.results K) (envL l) m) : CallA Try.prog W0 126 l.toArray m K :=
  call_of_vc Try.func126 rfl ca_126 (by simp only [List.size_toArray]; omega) (by kernel_rfl) h
theorem ca_127 : callable Try.prog 127 = true := nd (by kernel_rfl)
theorem en_127 {W0 : World} {m : Mem} {K : Value → Mem → Prop} {l : List Value} (hl : l.length ≤ Try.f127.ntmps) (h : vc Try.prog W0 Try.f127.ntmps (Try.f127.body.getD .skip) (retK Try.prog W0 Try.f127.results K) (envL l) m) : CallA Try.prog W0 127 l.toArray m K :=
  call_of_vc Try.func127 rfl ca_127 (by simp only [List.size_toArray]; omega) (by kernel_rfl) h
theorem ca_128 : callable Try.prog 128 = true := nd (by kernel_rfl)
theorem en_128 {W0 : World} {m : Mem} {K : Value → Mem → Prop} {l : List Value} (hl : l.length ≤ Try.f128.ntmps) (h : vc Try.prog W0 Try.f128.ntmps (Try.f128.body.getD .skip) (retK Try.prog W0 Try.f128.results K) (envL l) m) : CallA Try.prog W0 128 l.toArray m K :=
  call_of_vc Try.func128 rfl ca_128 (by simp only [List.size_toArray]; omega) (by kernel_rfl) h
theorem ca_129 : callable Try.prog 129 = true := nd (by kernel_rfl)
theorem en_129 {W0 : World} {m : Mem} {K : Value → Mem → Prop} {l : List Value} (hl : l.length ≤ Try.f129.ntmps) (h : vc Try.prog W0 Try.f129.ntmps (Try.f129.body.getD .skip) (retK Try.prog W0 Try.f129.results K) (envL l) m) : CallA Try.prog W0 129 l.toArray m K :=
  call_of_vc Try.func129 rfl ca_129 (by simp only [List.size_toArray]; omega) (by kernel_rfl) h
theorem ca_130 : callable Try.prog 130 = true := nd (by kernel_rfl)
theorem en_130 {W0 : World} {m : Mem} {K : Value → Mem → Prop} {l : List Value} (hl : l.length ≤ Try.f130.ntmps) (h : vc Try.prog W0 Try.f130.ntmps (Try.f130.body.getD .skip) (retK Try.prog W0 Try.f130.results K) (envL l) m) : CallA Try.prog W0 130 l.toArray m K :=
  call_of_vc Try.func130 rfl ca_130 (by simp only [List.size_toArray]; omega) (by kernel_rfl) h
theorem ca_149 : callable Try.prog 149 = true := nd (by kernel_rfl)
theorem en_149 {W0 : World} {m : Mem} {K : Value → Mem → Prop} {l : List Value} (hl : l.length ≤ Try.f149.ntmps) (h : vc Try.prog W0 Try.f149.ntmps (Try.f149.body.getD .skip) (retK Try.prog W0 Try.f149.results K) (envL l) m) : CallA Try.prog W0 149 l.toArray m K :=
  call_of_vc Try.func149 rfl ca_149 (by simp only [List.size_toArray]; omega) (by kernel_rfl) h
theorem ca_154 : callable Try.prog 154 = true := nd (by kernel_rfl)
theorem en_154 {W0 : World} {m : Mem} {K : Value → Mem → Prop} {l : List Value} (hl : l.length ≤ Try.f154.ntmps) (h : vc Try.prog W0 Try.f154.ntmps (Try.f154.body.getD .skip) (retK Try.prog W0 Try.f154.results K) (envL l) m) : CallA Try.prog W0 154 l.toArray m K :=
  call_of_vc Try.func154 rfl ca_154 (by simp only [List.size_toArray]; omega) (by kernel_rfl) h
theorem ca_155 : callable Try.prog 155 = true := nd (by kernel_rfl)
theorem en_155 {W0 : World} {m : Mem} {K : Value → Mem → Prop} {l : List Value} (hl : l.length ≤ Try.f155.ntmps) (h : vc Try.prog W0 Try.f155.ntmps (Try.f155.body.getD .skip) (retK Try.prog W0 Try.f155.results K) (envL l) m) : CallA Try.prog W0 155 l.toArray m K :=
  call_of_vc Try.func155 rfl ca_155 (by simp only [List.size_toArray]; omega) (by kernel_rfl) h
theorem ca_158 : callable Try.prog 158 = true := nd (by kernel_rfl)
theorem en_158 {W0 : World} {m : Mem} {K : Value → Mem → Prop} {l : List Value} (hl : l.length ≤ Try.f158.ntmps) (h : vc Try.prog W0 Try.f158.ntmps (Try.f158.body.getD .skip) (retK Try.prog W0 Try.f158.results K) (envL l) m) : CallA Try.prog W0 158 l.toArray m K :=
  call_of_vc Try.func158 rfl ca_158 (by simp only [List.size_toArray]; omega) (by kernel_rfl) h
theorem ca_159 : callable Try.prog 159 = true := nd (by kernel_rfl)
theorem en_159 {W0 : World} {m : Mem} {K : Value → Mem → Prop} {l : List Value} (hl : l.length ≤ Try.f159.ntmps) (h : vc Try.prog W0 Try.f159.ntmps (Try.f159.body.getD .skip) (retK Try.prog W0 Try.f159.results K) (envL l) m) : CallA Try.prog W0 159 l.toArray m K :=
  call_of_vc Try.func159 rfl ca_159 (by simp only [List.size_toArray]; omega) (by kernel_rfl) h
theorem ca_160 : callable Try.prog 160 = true := nd (by kernel_rfl)
theorem en_160 {W0 : World} {m : Mem} {K : Value → Mem → Prop} {l : List Value} (hl : l.length ≤ Try.f160.ntmps) (h : vc Try.prog W0 Try.f160.ntmps (Try.f160.body.getD .skip) (retK Try.prog W0 Try.f160.results K) (envL l) m) : CallA Try.prog W0 160 l.toArray m K :=
  call_of_vc Try.func160 rfl ca_160 (by simp only [List.size_toArray]; omega) (by kernel_rfl) h
theorem ca_162 : callable Try.prog 162 = true := nd (by kernel_rfl)
theorem en_162 {W0 : World} {m : Mem} {K : Value → Mem → Prop} {l : List Value} (hl : l.length ≤ Try.f162.ntmps) (h : vc Try.prog W0 Try.f162.ntmps (Try.f162.body.getD .skip) (retK Try.prog W0 Try.f162.results K) (envL l) m) : CallA Try.prog W0 162 l.toArray m K :=
  call_of_vc Try.func162 rfl ca_162 (by simp only [List.size_toArray]; omega) (by kernel_rfl) h
theorem ca_163 : callable Try.prog 163 = true := nd (by kernel_rfl)
theorem en_163 {W0 : World} {m : Mem} {K : Value → Mem → Prop} {l : List Value} (hl : l.length ≤ Try.f163.ntmps) (h : vc Try.prog W0 Try.f163.ntmps (Try.f163.body.getD .skip) (retK Try.prog W0 Try.f163.results K) (envL l) m) : CallA Try.prog W0 163 l.toArray m K :=
  call_of_vc Try.func163 rfl ca_163 (by simp only [List.size_toArray]; omega) (by kernel_rfl) h
theorem ca_175 : callable Try.prog 175 = true := nd (by kernel_rfl)
theorem en_175 {W0 : World} {m : Mem} {K : Value → Mem → Prop} {l : List Value} (hl : l.length ≤ Try.f175.ntmps) (h : vc Try.prog W0 Try.f175.ntmps (Try.f175.body.getD .skip) (retK Try.prog W0 Try.f175.results K) (envL l) m) : CallA Try.prog W0 175 l.toArray m K :=
  call_of_vc Try.func175 rfl ca_175 (by simp only [List.size_toArray]; omega) (by kernel_rfl) h
theorem ca_177 : callable Try.prog 177 = true := nd (by kernel_rfl)
theorem en_177 {W0 : World} {m : Mem} {K : Value → Mem → Prop} {l : List Value} (hl : l.length ≤ Try.f177.ntmps) (h : vc Try.prog W0 Try.f177.ntmps (Try.f177.body.getD .skip) (retK Try.prog W0 Try.f177.results K) (envL l) m) : CallA Try.prog W0 177 l.toArray m K :=
  call_of_vc Try.func177 rfl ca_177 (by simp only [List.size_toArray]; omega) (by kernel_rfl) h
theorem ca_178 : callable Try.prog 178 = true := nd (by kernel_rfl)
theorem en_178 {W0 : World} {m : Mem} {K : Value → Mem → Prop} {l : List Value} (hl : l.length ≤ Try.f178.ntmps) (h : vc Try.prog W0 Try.f178.ntmps (Try.f178.body.getD .skip) (retK Try.prog W0 Try.f178.results K) (envL l) m) : CallA Try.prog W0 178 l.toArray m K :=
  call_of_vc Try.func178 rfl ca_178 (by simp only [List.size_toArray]; omega) (by kernel_rfl) h
theorem ca_179 : callable Try.prog 179 = true := nd (by kernel_rfl)
theorem en_179 {W0 : World} {m : Mem} {K : Value → Mem → Prop} {l : List Value} (hl : l.length ≤ Try.f179.ntmps) (h : vc Try.prog W0 Try.f179.ntmps (Try.f179.body.getD .skip) (retK Try.prog W0 Try.f179.results K) (envL l) m) : CallA Try.prog W0 179 l.toArray m K :=
  call_of_vc Try.func179 rfl ca_179 (by simp only [List.size_toArray]; omega) (by kernel_rfl) h
theorem ca_186 : callable Try.prog 186 = true := nd (by kernel_rfl)
theorem en_186 {W0 : World} {m : Mem} {K : Value → Mem → Prop} {l : List Value} (hl : l.length ≤ Try.f186.ntmps) (h : vc Try.prog W0 Try.f186.ntmps (Try.f186.body.getD .skip) (retK Try.prog W0 Try.f186.results K) (envL l) m) : CallA Try.prog W0 186 l.toArray m K :=
  call_of_vc Try.func186 rfl ca_186 (by simp only [List.size_toArray]; omega) (by kernel_rfl) h
theorem ca_187 : callable Try.prog 187 = true := nd (by kernel_rfl)
theorem en_187 {W0 : World} {m : Mem} {K : Value → Mem → Prop} {l : List Value} (hl : l.length ≤ Try.f187.ntmps) (h : vc Try.prog W0 Try.f187.ntmps (Try.f187.body.getD .skip) (retK Try.prog W0 Try.f187.results K) (envL l) m) : CallA Try.prog W0 187 l.toArray m K :=
  call_of_vc Try.func187 rfl ca_187 (by simp only [List.size_toArray]; omega) (by kernel_rfl) h
theorem ca_188 : callable Try.prog 188 = true := nd (by kernel_rfl)
theorem en_188 {W0 : World} {m : Mem} {K : Value → Mem → Prop} {l : List Value} (hl : l.length ≤ Try.f188.ntmps) (h : vc Try.prog W0 Try.f188.ntmps (Try.f188.body.getD .skip) (retK Try.prog W0 Try.f188.results K) (envL l) m) : CallA Try.prog W0 188 l.toArray m K :=
  call_of_vc Try.func188 rfl ca_188 (by simp only [List.size_toArray]; omega) (by kernel_rfl) h
theorem ca_192 : callable Try.prog 192 = true := nd (by kernel_rfl)
theorem en_192 {W0 : World} {m : Mem} {K : Value → Mem → Prop} {l : List Value} (hl : l.length ≤ Try.f192.ntmps) (h : vc Try.prog W0 Try.f192.ntmps (Try.f192.body.getD .skip) (retK Try.prog W0 Try.f192.results K) (envL l) m) : CallA Try.prog W0 192 l.toArray m K :=
  call_of_vc Try.func192 rfl ca_192 (by simp only [List.size_toArray]; omega) (by kernel_rfl) h
end Go.Proofs.Ytcddhbhdpleppaa.R
