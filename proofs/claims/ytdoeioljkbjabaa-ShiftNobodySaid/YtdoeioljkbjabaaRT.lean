/- What the rows of the program's types tell. No conditions. Written by gent.py. -/
import Derived.Test.YtdoeioljkbjabaaProg
import Derived.Test.YtdoeioljkbjabaaRBld
set_option linter.unusedVariables false
set_option maxRecDepth 100000
namespace Go.Proofs.Ytdoeioljkbjabaa.R
open Go Go.RowKit Go.Proofs.Ytdoeioljkbjabaa
theorem row_1 : rowOf Try.prog 1 = some none := nd (by kernel_rfl)
theorem sz_1 : szOf Try.prog 1 = some 1 := nd (by kernel_rfl)
theorem by_1 : bytesA Try.prog 1 = some 8 := nd (by kernel_rfl)
theorem ze_1 : zeroOf Try.prog 1 = some #[.nilFunc] := nd (by kernel_rfl)
theorem us_1 : (Try.prog.underlying 1).isSome = true := nd (by kernel_rfl)
theorem row_2 : rowOf Try.prog 2 = some none := nd (by kernel_rfl)
theorem sz_2 : szOf Try.prog 2 = some 1 := nd (by kernel_rfl)
theorem by_2 : bytesA Try.prog 2 = some 8 := nd (by kernel_rfl)
theorem ze_2 : zeroOf Try.prog 2 = some #[(.int .i64 0)] := nd (by kernel_rfl)
theorem us_2 : (Try.prog.underlying 2).isSome = true := nd (by kernel_rfl)
theorem un_2 : Try.prog.underlying 2 = some (.int .i64) := nd (by kernel_rfl)
theorem row_3 : rowOf Try.prog 3 = some none := nd (by kernel_rfl)
theorem sz_3 : szOf Try.prog 3 = some 1 := nd (by kernel_rfl)
theorem by_3 : bytesA Try.prog 3 = some 8 := nd (by kernel_rfl)
theorem ze_3 : zeroOf Try.prog 3 = some #[(.int .i64 0)] := nd (by kernel_rfl)
theorem us_3 : (Try.prog.underlying 3).isSome = true := nd (by kernel_rfl)
theorem un_3 : Try.prog.underlying 3 = some (.int .i64) := nd (by kernel_rfl)
theorem row_4 : rowOf Try.prog 4 = some none := nd (by kernel_rfl)
theorem sz_4 : szOf Try.prog 4 = some 1 := nd (by kernel_rfl)
theorem by_4 : bytesA Try.prog 4 = some 1 := nd (by kernel_rfl)
theorem ze_4 : zeroOf Try.prog 4 = some #[(.bool false)] := nd (by kernel_rfl)
theorem us_4 : (Try.prog.underlying 4).isSome = true := nd (by kernel_rfl)
theorem ib_4 : isBoolT Try.prog 4 = true := nd (by kernel_rfl)
theorem row_5 : rowOf Try.prog 5 = some none := nd (by kernel_rfl)
theorem sz_5 : szOf Try.prog 5 = some 1 := nd (by kernel_rfl)
theorem by_5 : bytesA Try.prog 5 = some 1 := nd (by kernel_rfl)
theorem ze_5 : zeroOf Try.prog 5 = some #[(.int .u8 0)] := nd (by kernel_rfl)
theorem us_5 : (Try.prog.underlying 5).isSome = true := nd (by kernel_rfl)
theorem un_5 : Try.prog.underlying 5 = some (.int .u8) := nd (by kernel_rfl)
theorem row_6 : rowOf Try.prog 6 = some none := nd (by kernel_rfl)
theorem sz_6 : szOf Try.prog 6 = some 1 := nd (by kernel_rfl)
theorem by_6 : bytesA Try.prog 6 = some 1 := nd (by kernel_rfl)
theorem ze_6 : zeroOf Try.prog 6 = some #[(.int .u8 0)] := nd (by kernel_rfl)
theorem us_6 : (Try.prog.underlying 6).isSome = true := nd (by kernel_rfl)
theorem un_6 : Try.prog.underlying 6 = some (.int .u8) := nd (by kernel_rfl)
theorem row_7 : rowOf Try.prog 7 = some (some 4) := nd (by kernel_rfl)
theorem sz_7 : szOf Try.prog 7 = some 4 := nd (by kernel_rfl)
theorem by_7 : bytesA Try.prog 7 = some 24 := nd (by kernel_rfl)
theorem ze_7 : zeroOf Try.prog 7 = some #[(.int .i64 0), (.int .i64 0), (.bool false), (.int .u8 0)] := nd (by kernel_rfl)
theorem us_7 : (Try.prog.underlying 7).isSome = true := nd (by kernel_rfl)
theorem fo_7_0 : fieldOff Try.prog 7 0 = some 0 := nd (by kernel_rfl)
theorem fr_7_0 : fieldRow Try.prog 7 0 = some (0, none) := nd (by kernel_rfl)
theorem fo_7_1 : fieldOff Try.prog 7 1 = some 1 := nd (by kernel_rfl)
theorem fr_7_1 : fieldRow Try.prog 7 1 = some (1, none) := nd (by kernel_rfl)
theorem fo_7_2 : fieldOff Try.prog 7 2 = some 2 := nd (by kernel_rfl)
theorem fr_7_2 : fieldRow Try.prog 7 2 = some (2, none) := nd (by kernel_rfl)
theorem fo_7_3 : fieldOff Try.prog 7 3 = some 3 := nd (by kernel_rfl)
theorem fr_7_3 : fieldRow Try.prog 7 3 = some (3, none) := nd (by kernel_rfl)
theorem row_8 : rowOf Try.prog 8 = some (some 4) := nd (by kernel_rfl)
theorem sz_8 : szOf Try.prog 8 = some 4 := nd (by kernel_rfl)
theorem by_8 : bytesA Try.prog 8 = some 24 := nd (by kernel_rfl)
theorem ze_8 : zeroOf Try.prog 8 = some #[(.int .i64 0), (.int .i64 0), (.bool false), (.int .u8 0)] := nd (by kernel_rfl)
theorem us_8 : (Try.prog.underlying 8).isSome = true := nd (by kernel_rfl)
theorem fo_8_0 : fieldOff Try.prog 8 0 = some 0 := nd (by kernel_rfl)
theorem fr_8_0 : fieldRow Try.prog 8 0 = some (0, none) := nd (by kernel_rfl)
theorem fo_8_1 : fieldOff Try.prog 8 1 = some 1 := nd (by kernel_rfl)
theorem fr_8_1 : fieldRow Try.prog 8 1 = some (1, none) := nd (by kernel_rfl)
theorem fo_8_2 : fieldOff Try.prog 8 2 = some 2 := nd (by kernel_rfl)
theorem fr_8_2 : fieldRow Try.prog 8 2 = some (2, none) := nd (by kernel_rfl)
theorem fo_8_3 : fieldOff Try.prog 8 3 = some 3 := nd (by kernel_rfl)
theorem fr_8_3 : fieldRow Try.prog 8 3 = some (3, none) := nd (by kernel_rfl)
theorem row_9 : rowOf Try.prog 9 = some none := nd (by kernel_rfl)
theorem sz_9 : szOf Try.prog 9 = some 1 := nd (by kernel_rfl)
theorem by_9 : bytesA Try.prog 9 = some 16 := nd (by kernel_rfl)
theorem ze_9 : zeroOf Try.prog 9 = some #[(.string ⟨#[]⟩)] := nd (by kernel_rfl)
theorem us_9 : (Try.prog.underlying 9).isSome = true := nd (by kernel_rfl)
theorem un_9 : Try.prog.underlying 9 = some .string := nd (by kernel_rfl)
theorem row_10 : rowOf Try.prog 10 = some none := nd (by kernel_rfl)
theorem sz_10 : szOf Try.prog 10 = some 1 := nd (by kernel_rfl)
theorem by_10 : bytesA Try.prog 10 = some 16 := nd (by kernel_rfl)
theorem ze_10 : zeroOf Try.prog 10 = some #[(.string ⟨#[]⟩)] := nd (by kernel_rfl)
theorem us_10 : (Try.prog.underlying 10).isSome = true := nd (by kernel_rfl)
theorem un_10 : Try.prog.underlying 10 = some .string := nd (by kernel_rfl)
theorem row_11 : rowOf Try.prog 11 = some none := nd (by kernel_rfl)
theorem sz_11 : szOf Try.prog 11 = some 1 := nd (by kernel_rfl)
theorem by_11 : bytesA Try.prog 11 = some 16 := nd (by kernel_rfl)
theorem ze_11 : zeroOf Try.prog 11 = some #[(.string ⟨#[]⟩)] := nd (by kernel_rfl)
theorem us_11 : (Try.prog.underlying 11).isSome = true := nd (by kernel_rfl)
theorem un_11 : Try.prog.underlying 11 = some .string := nd (by kernel_rfl)
theorem row_12 : rowOf Try.prog 12 = some none := nd (by kernel_rfl)
theorem sz_12 : szOf Try.prog 12 = some 1 := nd (by kernel_rfl)
theorem by_12 : bytesA Try.prog 12 = some 8 := nd (by kernel_rfl)
theorem ze_12 : zeroOf Try.prog 12 = some #[(.int .u64 0)] := nd (by kernel_rfl)
theorem us_12 : (Try.prog.underlying 12).isSome = true := nd (by kernel_rfl)
theorem un_12 : Try.prog.underlying 12 = some (.int .u64) := nd (by kernel_rfl)
theorem row_13 : rowOf Try.prog 13 = some (some 2) := nd (by kernel_rfl)
theorem sz_13 : szOf Try.prog 13 = some 2 := nd (by kernel_rfl)
theorem by_13 : bytesA Try.prog 13 = some 24 := nd (by kernel_rfl)
theorem ze_13 : zeroOf Try.prog 13 = some #[(.string ⟨#[]⟩), (.int .u64 0)] := nd (by kernel_rfl)
theorem us_13 : (Try.prog.underlying 13).isSome = true := nd (by kernel_rfl)
theorem fo_13_0 : fieldOff Try.prog 13 0 = some 0 := nd (by kernel_rfl)
theorem fr_13_0 : fieldRow Try.prog 13 0 = some (0, none) := nd (by kernel_rfl)
theorem fo_13_1 : fieldOff Try.prog 13 1 = some 1 := nd (by kernel_rfl)
theorem fr_13_1 : fieldRow Try.prog 13 1 = some (1, none) := nd (by kernel_rfl)
theorem row_14 : rowOf Try.prog 14 = some (some 2) := nd (by kernel_rfl)
theorem sz_14 : szOf Try.prog 14 = some 2 := nd (by kernel_rfl)
theorem by_14 : bytesA Try.prog 14 = some 24 := nd (by kernel_rfl)
theorem ze_14 : zeroOf Try.prog 14 = some #[(.string ⟨#[]⟩), (.int .u64 0)] := nd (by kernel_rfl)
theorem us_14 : (Try.prog.underlying 14).isSome = true := nd (by kernel_rfl)
theorem fo_14_0 : fieldOff Try.prog 14 0 = some 0 := nd (by kernel_rfl)
theorem fr_14_0 : fieldRow Try.prog 14 0 = some (0, none) := nd (by kernel_rfl)
theorem fo_14_1 : fieldOff Try.prog 14 1 = some 1 := nd (by kernel_rfl)
theorem fr_14_1 : fieldRow Try.prog 14 1 = some (1, none) := nd (by kernel_rfl)
theorem row_15 : rowOf Try.prog 15 = some none := nd (by kernel_rfl)
theorem sz_15 : szOf Try.prog 15 = some 1 := nd (by kernel_rfl)
theorem by_15 : bytesA Try.prog 15 = some 8 := nd (by kernel_rfl)
theorem ze_15 : zeroOf Try.prog 15 = some #[(.pointer none)] := nd (by kernel_rfl)
theorem us_15 : (Try.prog.underlying 15).isSome = true := nd (by kernel_rfl)
theorem ip_15 : isPtr Try.prog 15 = true := nd (by kernel_rfl)
theorem row_16 : rowOf Try.prog 16 = some none := nd (by kernel_rfl)
theorem sz_16 : szOf Try.prog 16 = some 1 := nd (by kernel_rfl)
theorem by_16 : bytesA Try.prog 16 = some 8 := nd (by kernel_rfl)
theorem ze_16 : zeroOf Try.prog 16 = some #[(.pointer none)] := nd (by kernel_rfl)
theorem us_16 : (Try.prog.underlying 16).isSome = true := nd (by kernel_rfl)
theorem ip_16 : isPtr Try.prog 16 = true := nd (by kernel_rfl)
theorem row_17 : rowOf Try.prog 17 = some none := nd (by kernel_rfl)
theorem sz_17 : szOf Try.prog 17 = some 1 := nd (by kernel_rfl)
theorem by_17 : bytesA Try.prog 17 = some 8 := nd (by kernel_rfl)
theorem ze_17 : zeroOf Try.prog 17 = some #[(.pointer none)] := nd (by kernel_rfl)
theorem us_17 : (Try.prog.underlying 17).isSome = true := nd (by kernel_rfl)
theorem ip_17 : isPtr Try.prog 17 = true := nd (by kernel_rfl)
theorem row_18 : rowOf Try.prog 18 = some (some 1) := nd (by kernel_rfl)
theorem sz_18 : szOf Try.prog 18 = some 1 := nd (by kernel_rfl)
theorem by_18 : bytesA Try.prog 18 = some 8 := nd (by kernel_rfl)
theorem ze_18 : zeroOf Try.prog 18 = some #[(.pointer none)] := nd (by kernel_rfl)
theorem us_18 : (Try.prog.underlying 18).isSome = true := nd (by kernel_rfl)
theorem fo_18_0 : fieldOff Try.prog 18 0 = some 0 := nd (by kernel_rfl)
theorem fr_18_0 : fieldRow Try.prog 18 0 = some (0, none) := nd (by kernel_rfl)
theorem row_19 : rowOf Try.prog 19 = some (some 1) := nd (by kernel_rfl)
theorem sz_19 : szOf Try.prog 19 = some 1 := nd (by kernel_rfl)
theorem by_19 : bytesA Try.prog 19 = some 8 := nd (by kernel_rfl)
theorem ze_19 : zeroOf Try.prog 19 = some #[(.pointer none)] := nd (by kernel_rfl)
theorem us_19 : (Try.prog.underlying 19).isSome = true := nd (by kernel_rfl)
theorem fo_19_0 : fieldOff Try.prog 19 0 = some 0 := nd (by kernel_rfl)
theorem fr_19_0 : fieldRow Try.prog 19 0 = some (0, none) := nd (by kernel_rfl)
theorem row_21 : rowOf Try.prog 21 = some none := nd (by kernel_rfl)
theorem sz_21 : szOf Try.prog 21 = some 1 := nd (by kernel_rfl)
theorem by_21 : bytesA Try.prog 21 = some 4 := nd (by kernel_rfl)
theorem ze_21 : zeroOf Try.prog 21 = some #[(.int .i32 0)] := nd (by kernel_rfl)
theorem us_21 : (Try.prog.underlying 21).isSome = true := nd (by kernel_rfl)
theorem un_21 : Try.prog.underlying 21 = some (.int .i32) := nd (by kernel_rfl)
theorem row_22 : rowOf Try.prog 22 = some none := nd (by kernel_rfl)
theorem sz_22 : szOf Try.prog 22 = some 1 := nd (by kernel_rfl)
theorem by_22 : bytesA Try.prog 22 = some 1 := nd (by kernel_rfl)
theorem ze_22 : zeroOf Try.prog 22 = some #[(.int .u8 0)] := nd (by kernel_rfl)
theorem us_22 : (Try.prog.underlying 22).isSome = true := nd (by kernel_rfl)
theorem un_22 : Try.prog.underlying 22 = some (.int .u8) := nd (by kernel_rfl)
theorem row_23 : rowOf Try.prog 23 = some none := nd (by kernel_rfl)
theorem sz_23 : szOf Try.prog 23 = some 1 := nd (by kernel_rfl)
theorem by_23 : bytesA Try.prog 23 = some 8 := nd (by kernel_rfl)
theorem ze_23 : zeroOf Try.prog 23 = some #[(.pointer none)] := nd (by kernel_rfl)
theorem us_23 : (Try.prog.underlying 23).isSome = true := nd (by kernel_rfl)
theorem ip_23 : isPtr Try.prog 23 = true := nd (by kernel_rfl)
theorem row_24 : rowOf Try.prog 24 = some (some 3) := nd (by kernel_rfl)
theorem sz_24 : szOf Try.prog 24 = some 3 := nd (by kernel_rfl)
theorem by_24 : bytesA Try.prog 24 = some 24 := nd (by kernel_rfl)
theorem ze_24 : zeroOf Try.prog 24 = some #[(.bool false), (.int .i64 0), (.int .i64 0)] := nd (by kernel_rfl)
theorem us_24 : (Try.prog.underlying 24).isSome = true := nd (by kernel_rfl)
theorem fo_24_0 : fieldOff Try.prog 24 0 = some 0 := nd (by kernel_rfl)
theorem fr_24_0 : fieldRow Try.prog 24 0 = some (0, none) := nd (by kernel_rfl)
theorem fo_24_1 : fieldOff Try.prog 24 1 = some 1 := nd (by kernel_rfl)
theorem fr_24_1 : fieldRow Try.prog 24 1 = some (1, none) := nd (by kernel_rfl)
theorem fo_24_2 : fieldOff Try.prog 24 2 = some 2 := nd (by kernel_rfl)
theorem fr_24_2 : fieldRow Try.prog 24 2 = some (2, none) := nd (by kernel_rfl)
theorem row_25 : rowOf Try.prog 25 = some (some 3) := nd (by kernel_rfl)
theorem sz_25 : szOf Try.prog 25 = some 3 := nd (by kernel_rfl)
theorem by_25 : bytesA Try.prog 25 = some 24 := nd (by kernel_rfl)
theorem ze_25 : zeroOf Try.prog 25 = some #[(.bool false), (.int .i64 0), (.int .i64 0)] := nd (by kernel_rfl)
theorem us_25 : (Try.prog.underlying 25).isSome = true := nd (by kernel_rfl)
theorem fo_25_0 : fieldOff Try.prog 25 0 = some 0 := nd (by kernel_rfl)
theorem fr_25_0 : fieldRow Try.prog 25 0 = some (0, none) := nd (by kernel_rfl)
theorem fo_25_1 : fieldOff Try.prog 25 1 = some 1 := nd (by kernel_rfl)
theorem fr_25_1 : fieldRow Try.prog 25 1 = some (1, none) := nd (by kernel_rfl)
theorem fo_25_2 : fieldOff Try.prog 25 2 = some 2 := nd (by kernel_rfl)
theorem fr_25_2 : fieldRow Try.prog 25 2 = some (2, none) := nd (by kernel_rfl)
theorem row_26 : rowOf Try.prog 26 = some none := nd (by kernel_rfl)
theorem sz_26 : szOf Try.prog 26 = some 1 := nd (by kernel_rfl)
theorem by_26 : bytesA Try.prog 26 = some 8 := nd (by kernel_rfl)
theorem ze_26 : zeroOf Try.prog 26 = some #[.nilFunc] := nd (by kernel_rfl)
theorem us_26 : (Try.prog.underlying 26).isSome = true := nd (by kernel_rfl)
theorem row_27 : rowOf Try.prog 27 = some none := nd (by kernel_rfl)
theorem sz_27 : szOf Try.prog 27 = some 1 := nd (by kernel_rfl)
theorem by_27 : bytesA Try.prog 27 = some 8 := nd (by kernel_rfl)
theorem ze_27 : zeroOf Try.prog 27 = some #[.nilFunc] := nd (by kernel_rfl)
theorem us_27 : (Try.prog.underlying 27).isSome = true := nd (by kernel_rfl)
theorem row_28 : rowOf Try.prog 28 = some none := nd (by kernel_rfl)
theorem sz_28 : szOf Try.prog 28 = some 1 := nd (by kernel_rfl)
theorem by_28 : bytesA Try.prog 28 = some 8 := nd (by kernel_rfl)
theorem ze_28 : zeroOf Try.prog 28 = some #[.nilFunc] := nd (by kernel_rfl)
theorem us_28 : (Try.prog.underlying 28).isSome = true := nd (by kernel_rfl)
theorem row_29 : rowOf Try.prog 29 = some none := nd (by kernel_rfl)
theorem sz_29 : szOf Try.prog 29 = some 1 := nd (by kernel_rfl)
theorem by_29 : bytesA Try.prog 29 = some 8 := nd (by kernel_rfl)
theorem ze_29 : zeroOf Try.prog 29 = some #[.nilFunc] := nd (by kernel_rfl)
theorem us_29 : (Try.prog.underlying 29).isSome = true := nd (by kernel_rfl)
theorem row_30 : rowOf Try.prog 30 = some (some 8) := nd (by kernel_rfl)
theorem sz_30 : szOf Try.prog 30 = some 8 := nd (by kernel_rfl)
theorem by_30 : bytesA Try.prog 30 = some 64 := nd (by kernel_rfl)
theorem ze_30 : zeroOf Try.prog 30 = some #[(.int .i64 0), (.int .i64 0), (.int .i64 0), (.int .i64 0), (.int .i64 0), (.int .i64 0), (.int .i64 0), (.bool false)] := nd (by kernel_rfl)
theorem us_30 : (Try.prog.underlying 30).isSome = true := nd (by kernel_rfl)
theorem fo_30_0 : fieldOff Try.prog 30 0 = some 0 := nd (by kernel_rfl)
theorem fr_30_0 : fieldRow Try.prog 30 0 = some (0, none) := nd (by kernel_rfl)
theorem fo_30_1 : fieldOff Try.prog 30 1 = some 1 := nd (by kernel_rfl)
theorem fr_30_1 : fieldRow Try.prog 30 1 = some (1, none) := nd (by kernel_rfl)
theorem fo_30_2 : fieldOff Try.prog 30 2 = some 2 := nd (by kernel_rfl)
theorem fr_30_2 : fieldRow Try.prog 30 2 = some (2, none) := nd (by kernel_rfl)
theorem fo_30_3 : fieldOff Try.prog 30 3 = some 3 := nd (by kernel_rfl)
theorem fr_30_3 : fieldRow Try.prog 30 3 = some (3, none) := nd (by kernel_rfl)
theorem fo_30_4 : fieldOff Try.prog 30 4 = some 4 := nd (by kernel_rfl)
theorem fr_30_4 : fieldRow Try.prog 30 4 = some (4, none) := nd (by kernel_rfl)
theorem fo_30_5 : fieldOff Try.prog 30 5 = some 5 := nd (by kernel_rfl)
theorem fr_30_5 : fieldRow Try.prog 30 5 = some (5, none) := nd (by kernel_rfl)
theorem fo_30_6 : fieldOff Try.prog 30 6 = some 6 := nd (by kernel_rfl)
theorem fr_30_6 : fieldRow Try.prog 30 6 = some (6, none) := nd (by kernel_rfl)
theorem fo_30_7 : fieldOff Try.prog 30 7 = some 7 := nd (by kernel_rfl)
theorem fr_30_7 : fieldRow Try.prog 30 7 = some (7, none) := nd (by kernel_rfl)
theorem row_31 : rowOf Try.prog 31 = some (some 8) := nd (by kernel_rfl)
theorem sz_31 : szOf Try.prog 31 = some 8 := nd (by kernel_rfl)
theorem by_31 : bytesA Try.prog 31 = some 64 := nd (by kernel_rfl)
theorem ze_31 : zeroOf Try.prog 31 = some #[(.int .i64 0), (.int .i64 0), (.int .i64 0), (.int .i64 0), (.int .i64 0), (.int .i64 0), (.int .i64 0), (.bool false)] := nd (by kernel_rfl)
theorem us_31 : (Try.prog.underlying 31).isSome = true := nd (by kernel_rfl)
theorem fo_31_0 : fieldOff Try.prog 31 0 = some 0 := nd (by kernel_rfl)
theorem fr_31_0 : fieldRow Try.prog 31 0 = some (0, none) := nd (by kernel_rfl)
theorem fo_31_1 : fieldOff Try.prog 31 1 = some 1 := nd (by kernel_rfl)
theorem fr_31_1 : fieldRow Try.prog 31 1 = some (1, none) := nd (by kernel_rfl)
theorem fo_31_2 : fieldOff Try.prog 31 2 = some 2 := nd (by kernel_rfl)
theorem fr_31_2 : fieldRow Try.prog 31 2 = some (2, none) := nd (by kernel_rfl)
theorem fo_31_3 : fieldOff Try.prog 31 3 = some 3 := nd (by kernel_rfl)
theorem fr_31_3 : fieldRow Try.prog 31 3 = some (3, none) := nd (by kernel_rfl)
theorem fo_31_4 : fieldOff Try.prog 31 4 = some 4 := nd (by kernel_rfl)
theorem fr_31_4 : fieldRow Try.prog 31 4 = some (4, none) := nd (by kernel_rfl)
theorem fo_31_5 : fieldOff Try.prog 31 5 = some 5 := nd (by kernel_rfl)
theorem fr_31_5 : fieldRow Try.prog 31 5 = some (5, none) := nd (by kernel_rfl)
theorem fo_31_6 : fieldOff Try.prog 31 6 = some 6 := nd (by kernel_rfl)
theorem fr_31_6 : fieldRow Try.prog 31 6 = some (6, none) := nd (by kernel_rfl)
theorem fo_31_7 : fieldOff Try.prog 31 7 = some 7 := nd (by kernel_rfl)
theorem fr_31_7 : fieldRow Try.prog 31 7 = some (7, none) := nd (by kernel_rfl)
theorem row_32 : rowOf Try.prog 32 = some none := nd (by kernel_rfl)
theorem sz_32 : szOf Try.prog 32 = some 1 := nd (by kernel_rfl)
theorem by_32 : bytesA Try.prog 32 = some 8 := nd (by kernel_rfl)
theorem ze_32 : zeroOf Try.prog 32 = some #[.nilFunc] := nd (by kernel_rfl)
theorem us_32 : (Try.prog.underlying 32).isSome = true := nd (by kernel_rfl)
theorem row_33 : rowOf Try.prog 33 = some none := nd (by kernel_rfl)
theorem sz_33 : szOf Try.prog 33 = some 1 := nd (by kernel_rfl)
theorem by_33 : bytesA Try.prog 33 = some 24 := nd (by kernel_rfl)
theorem ze_33 : zeroOf Try.prog 33 = some #[(.slice none 0 0)] := nd (by kernel_rfl)
theorem us_33 : (Try.prog.underlying 33).isSome = true := nd (by kernel_rfl)
theorem sl_33 : slOf Try.prog 33 = some (41, 4) := nd (by kernel_rfl)
theorem isl_33 : isSlT Try.prog 33 = true := nd (by kernel_rfl)
theorem row_34 : rowOf Try.prog 34 = some none := nd (by kernel_rfl)
theorem sz_34 : szOf Try.prog 34 = some 1 := nd (by kernel_rfl)
theorem by_34 : bytesA Try.prog 34 = some 8 := nd (by kernel_rfl)
theorem ze_34 : zeroOf Try.prog 34 = some #[(.pointer none)] := nd (by kernel_rfl)
theorem us_34 : (Try.prog.underlying 34).isSome = true := nd (by kernel_rfl)
theorem ip_34 : isPtr Try.prog 34 = true := nd (by kernel_rfl)
theorem row_35 : rowOf Try.prog 35 = some none := nd (by kernel_rfl)
theorem sz_35 : szOf Try.prog 35 = some 1 := nd (by kernel_rfl)
theorem by_35 : bytesA Try.prog 35 = some 8 := nd (by kernel_rfl)
theorem ze_35 : zeroOf Try.prog 35 = some #[.nilFunc] := nd (by kernel_rfl)
theorem us_35 : (Try.prog.underlying 35).isSome = true := nd (by kernel_rfl)
theorem row_36 : rowOf Try.prog 36 = some (some 3) := nd (by kernel_rfl)
theorem sz_36 : szOf Try.prog 36 = some 3 := nd (by kernel_rfl)
theorem by_36 : bytesA Try.prog 36 = some 16 := nd (by kernel_rfl)
theorem ze_36 : zeroOf Try.prog 36 = some #[(.int .u8 0), (.bool false), (.int .i64 0)] := nd (by kernel_rfl)
theorem us_36 : (Try.prog.underlying 36).isSome = true := nd (by kernel_rfl)
theorem fo_36_0 : fieldOff Try.prog 36 0 = some 0 := nd (by kernel_rfl)
theorem fr_36_0 : fieldRow Try.prog 36 0 = some (0, none) := nd (by kernel_rfl)
theorem fo_36_1 : fieldOff Try.prog 36 1 = some 1 := nd (by kernel_rfl)
theorem fr_36_1 : fieldRow Try.prog 36 1 = some (1, none) := nd (by kernel_rfl)
theorem fo_36_2 : fieldOff Try.prog 36 2 = some 2 := nd (by kernel_rfl)
theorem fr_36_2 : fieldRow Try.prog 36 2 = some (2, none) := nd (by kernel_rfl)
theorem row_37 : rowOf Try.prog 37 = some (some 3) := nd (by kernel_rfl)
theorem sz_37 : szOf Try.prog 37 = some 3 := nd (by kernel_rfl)
theorem by_37 : bytesA Try.prog 37 = some 16 := nd (by kernel_rfl)
theorem ze_37 : zeroOf Try.prog 37 = some #[(.int .u8 0), (.bool false), (.int .i64 0)] := nd (by kernel_rfl)
theorem us_37 : (Try.prog.underlying 37).isSome = true := nd (by kernel_rfl)
theorem fo_37_0 : fieldOff Try.prog 37 0 = some 0 := nd (by kernel_rfl)
theorem fr_37_0 : fieldRow Try.prog 37 0 = some (0, none) := nd (by kernel_rfl)
theorem fo_37_1 : fieldOff Try.prog 37 1 = some 1 := nd (by kernel_rfl)
theorem fr_37_1 : fieldRow Try.prog 37 1 = some (1, none) := nd (by kernel_rfl)
theorem fo_37_2 : fieldOff Try.prog 37 2 = some 2 := nd (by kernel_rfl)
theorem fr_37_2 : fieldRow Try.prog 37 2 = some (2, none) := nd (by kernel_rfl)
theorem row_38 : rowOf Try.prog 38 = some (some 192) := nd (by kernel_rfl)
theorem sz_38 : szOf Try.prog 38 = some 192 := nd (by kernel_rfl)
theorem by_38 : bytesA Try.prog 38 = some 1024 := nd (by kernel_rfl)
theorem ze_38 : zeroOf Try.prog 38 = some (List.replicate 1 ((.int .u8 0) : Value) ++ List.replicate 1 ((.bool false) : Value) ++ List.replicate 1 ((.int .i64 0) : Value) ++ List.replicate 1 ((.int .u8 0) : Value) ++ List.replicate 1 ((.bool false) : Value) ++ List.replicate 1 ((.int .i64 0) : Value) ++ List.replicate 1 ((.int .u8 0) : Value) ++ List.replicate 1 ((.bool false) : Value) ++ List.replicate 1 ((.int .i64 0) : Value) ++ List.replicate 1 ((.int .u8 0) : Value) ++ List.replicate 1 ((.bool false) : Value) ++ List.replicate 1 ((.int .i64 0) : Value) ++ List.replicate 1 ((.int .u8 0) : Value) ++ List.replicate 1 ((.bool false) : Value) ++ List.replicate 1 ((.int .i64 0) : Value) ++ List.replicate 1 ((.int .u8 0) : Value) ++ List.replicate 1 ((.bool false) : Value) ++ List.replicate 1 ((.int .i64 0) : Value) ++ List.replicate 1 ((.int .u8 0) : Value) ++ List.replicate 1 ((.bool false) : Value) ++ List.replicate 1 ((.int .i64 0) : Value) ++ List.replicate 1 ((.int .u8 0) : Value) ++ List.replicate 1 ((.bool false) : Value) ++ List.replicate 1 ((.int .i64 0) : Value) ++ List.replicate 1 ((.int .u8 0) : Value) ++ List.replicate 1 ((.bool false) : Value) ++ List.replicate 1 ((.int .i64 0) : Value) ++ List.replicate 1 ((.int .u8 0) : Value) ++ List.replicate 1 ((.bool false) : Value) ++ List.replicate 1 ((.int .i64 0) : Value) ++ List.replicate 1 ((.int .u8 0) : Value) ++ List.replicate 1 ((.bool false) : Value) ++ List.replicate 1 ((.int .i64 0) : Value) ++ List.replicate 1 ((.int .u8 0) : Value) ++ List.replicate 1 ((.bool false) : Value) ++ List.replicate 1 ((.int .i64 0) : Value) ++ List.replicate 1 ((.int .u8 0) : Value) ++ List.replicate 1 ((.bool false) : Value) ++ List.replicate 1 ((.int .i64 0) : Value) ++ List.replicate 1 ((.int .u8 0) : Value) ++ List.replicate 1 ((.bool false) : Value) ++ List.replicate 1 ((.int .i64 0) : Value) ++ List.replicate 1 ((.int .u8 0) : Value) ++ List.replicate 1 ((.bool false) : Value) ++ List.replicate 1 ((.int .i64 0) : Value) ++ List.replicate 1 ((.int .u8 0) : Value) ++ List.replicate 1 ((.bool false) : Value) ++ List.replicate 1 ((.int .i64 0) : Value) ++ List.replicate 1 ((.int .u8 0) : Value) ++ List.replicate 1 ((.bool false) : Value) ++ List.replicate 1 ((.int .i64 0) : Value) ++ List.replicate 1 ((.int .u8 0) : Value) ++ List.replicate 1 ((.bool false) : Value) ++ List.replicate 1 ((.int .i64 0) : Value) ++ List.replicate 1 ((.int .u8 0) : Value) ++ List.replicate 1 ((.bool false) : Value) ++ List.replicate 1 ((.int .i64 0) : Value) ++ List.replicate 1 ((.int .u8 0) : Value) ++ List.replicate 1 ((.bool false) : Value) ++ List.replicate 1 ((.int .i64 0) : Value) ++ List.replicate 1 ((.int .u8 0) : Value) ++ List.replicate 1 ((.bool false) : Value) ++ List.replicate 1 ((.int .i64 0) : Value) ++ List.replicate 1 ((.int .u8 0) : Value) ++ List.replicate 1 ((.bool false) : Value) ++ List.replicate 1 ((.int .i64 0) : Value) ++ List.replicate 1 ((.int .u8 0) : Value) ++ List.replicate 1 ((.bool false) : Value) ++ List.replicate 1 ((.int .i64 0) : Value) ++ List.replicate 1 ((.int .u8 0) : Value) ++ List.replicate 1 ((.bool false) : Value) ++ List.replicate 1 ((.int .i64 0) : Value) ++ List.replicate 1 ((.int .u8 0) : Value) ++ List.replicate 1 ((.bool false) : Value) ++ List.replicate 1 ((.int .i64 0) : Value) ++ List.replicate 1 ((.int .u8 0) : Value) ++ List.replicate 1 ((.bool false) : Value) ++ List.replicate 1 ((.int .i64 0) : Value) ++ List.replicate 1 ((.int .u8 0) : Value) ++ List.replicate 1 ((.bool false) : Value) ++ List.replicate 1 ((.int .i64 0) : Value) ++ List.replicate 1 ((.int .u8 0) : Value) ++ List.replicate 1 ((.bool false) : Value) ++ List.replicate 1 ((.int .i64 0) : Value) ++ List.replicate 1 ((.int .u8 0) : Value) ++ List.replicate 1 ((.bool false) : Value) ++ List.replicate 1 ((.int .i64 0) : Value) ++ List.replicate 1 ((.int .u8 0) : Value) ++ List.replicate 1 ((.bool false) : Value) ++ List.replicate 1 ((.int .i64 0) : Value) ++ List.replicate 1 ((.int .u8 0) : Value) ++ List.replicate 1 ((.bool false) : Value) ++ List.replicate 1 ((.int .i64 0) : Value) ++ List.replicate 1 ((.int .u8 0) : Value) ++ List.replicate 1 ((.bool false) : Value) ++ List.replicate 1 ((.int .i64 0) : Value) ++ List.replicate 1 ((.int .u8 0) : Value) ++ List.replicate 1 ((.bool false) : Value) ++ List.replicate 1 ((.int .i64 0) : Value) ++ List.replicate 1 ((.int .u8 0) : Value) ++ List.replicate 1 ((.bool false) : Value) ++ List.replicate 1 ((.int .i64 0) : Value) ++ List.replicate 1 ((.int .u8 0) : Value) ++ List.replicate 1 ((.bool false) : Value) ++ List.replicate 1 ((.int .i64 0) : Value) ++ List.replicate 1 ((.int .u8 0) : Value) ++ List.replicate 1 ((.bool false) : Value) ++ List.replicate 1 ((.int .i64 0) : Value) ++ List.replicate 1 ((.int .u8 0) : Value) ++ List.replicate 1 ((.bool false) : Value) ++ List.replicate 1 ((.int .i64 0) : Value) ++ List.replicate 1 ((.int .u8 0) : Value) ++ List.replicate 1 ((.bool false) : Value) ++ List.replicate 1 ((.int .i64 0) : Value) ++ List.replicate 1 ((.int .u8 0) : Value) ++ List.replicate 1 ((.bool false) : Value) ++ List.replicate 1 ((.int .i64 0) : Value) ++ List.replicate 1 ((.int .u8 0) : Value) ++ List.replicate 1 ((.bool false) : Value) ++ List.replicate 1 ((.int .i64 0) : Value) ++ List.replicate 1 ((.int .u8 0) : Value) ++ List.replicate 1 ((.bool false) : Value) ++ List.replicate 1 ((.int .i64 0) : Value) ++ List.replicate 1 ((.int .u8 0) : Value) ++ List.replicate 1 ((.bool false) : Value) ++ List.replicate 1 ((.int .i64 0) : Value) ++ List.replicate 1 ((.int .u8 0) : Value) ++ List.replicate 1 ((.bool false) : Value) ++ List.replicate 1 ((.int .i64 0) : Value) ++ List.replicate 1 ((.int .u8 0) : Value) ++ List.replicate 1 ((.bool false) : Value) ++ List.replicate 1 ((.int .i64 0) : Value) ++ List.replicate 1 ((.int .u8 0) : Value) ++ List.replicate 1 ((.bool false) : Value) ++ List.replicate 1 ((.int .i64 0) : Value) ++ List.replicate 1 ((.int .u8 0) : Value) ++ List.replicate 1 ((.bool false) : Value) ++ List.replicate 1 ((.int .i64 0) : Value) ++ List.replicate 1 ((.int .u8 0) : Value) ++ List.replicate 1 ((.bool false) : Value) ++ List.replicate 1 ((.int .i64 0) : Value) ++ List.replicate 1 ((.int .u8 0) : Value) ++ List.replicate 1 ((.bool false) : Value) ++ List.replicate 1 ((.int .i64 0) : Value) ++ List.replicate 1 ((.int .u8 0) : Value) ++ List.replicate 1 ((.bool false) : Value) ++ List.replicate 1 ((.int .i64 0) : Value) ++ List.replicate 1 ((.int .u8 0) : Value) ++ List.replicate 1 ((.bool false) : Value) ++ List.replicate 1 ((.int .i64 0) : Value) ++ List.replicate 1 ((.int .u8 0) : Value) ++ List.replicate 1 ((.bool false) : Value) ++ List.replicate 1 ((.int .i64 0) : Value) ++ List.replicate 1 ((.int .u8 0) : Value) ++ List.replicate 1 ((.bool false) : Value) ++ List.replicate 1 ((.int .i64 0) : Value) ++ List.replicate 1 ((.int .u8 0) : Value) ++ List.replicate 1 ((.bool false) : Value) ++ List.replicate 1 ((.int .i64 0) : Value) ++ List.replicate 1 ((.int .u8 0) : Value) ++ List.replicate 1 ((.bool false) : Value) ++ List.replicate 1 ((.int .i64 0) : Value) ++ List.replicate 1 ((.int .u8 0) : Value) ++ List.replicate 1 ((.bool false) : Value) ++ List.replicate 1 ((.int .i64 0) : Value) ++ List.replicate 1 ((.int .u8 0) : Value) ++ List.replicate 1 ((.bool false) : Value) ++ List.replicate 1 ((.int .i64 0) : Value) ++ List.replicate 1 ((.int .u8 0) : Value) ++ List.replicate 1 ((.bool false) : Value) ++ List.replicate 1 ((.int .i64 0) : Value) ++ List.replicate 1 ((.int .u8 0) : Value) ++ List.replicate 1 ((.bool false) : Value) ++ List.replicate 1 ((.int .i64 0) : Value) ++ List.replicate 1 ((.int .u8 0) : Value) ++ List.replicate 1 ((.bool false) : Value) ++ List.replicate 1 ((.int .i64 0) : Value) ++ List.replicate 1 ((.int .u8 0) : Value) ++ List.replicate 1 ((.bool false) : Value) ++ List.replicate 1 ((.int .i64 0) : Value) ++ List.replicate 1 ((.int .u8 0) : Value) ++ List.replicate 1 ((.bool false) : Value) ++ List.replicate 1 ((.int .i64 0) : Value) ++ List.replicate 1 ((.int .u8 0) : Value) ++ List.replicate 1 ((.bool false) : Value) ++ List.replicate 1 ((.int .i64 0) : Value) ++ List.replicate 1 ((.int .u8 0) : Value) ++ List.replicate 1 ((.bool false) : Value) ++ List.replicate 1 ((.int .i64 0) : Value) ++ List.replicate 1 ((.int .u8 0) : Value) ++ List.replicate 1 ((.bool false) : Value) ++ List.replicate 1 ((.int .i64 0) : Value)).toArray := nd (by kernel_rfl)
theorem us_38 : (Try.prog.underlying 38).isSome = true := nd (by kernel_rfl)
theorem ar_38 : arrOf Try.prog 38 = some (64, 3, some 3) := nd (by kernel_rfl)
theorem row_39 : rowOf Try.prog 39 = some none := nd (by kernel_rfl)
theorem sz_39 : szOf Try.prog 39 = some 1 := nd (by kernel_rfl)
theorem by_39 : bytesA Try.prog 39 = some 24 := nd (by kernel_rfl)
theorem ze_39 : zeroOf Try.prog 39 = some #[(.slice none 0 0)] := nd (by kernel_rfl)
theorem us_39 : (Try.prog.underlying 39).isSome = true := nd (by kernel_rfl)
theorem sl_39 : slOf Try.prog 39 = some (5, 1) := nd (by kernel_rfl)
theorem isl_39 : isSlT Try.prog 39 = true := nd (by kernel_rfl)
theorem row_40 : rowOf Try.prog 40 = some (some 4) := nd (by kernel_rfl)
theorem sz_40 : szOf Try.prog 40 = some 4 := nd (by kernel_rfl)
theorem by_40 : bytesA Try.prog 40 = some 48 := nd (by kernel_rfl)
theorem ze_40 : zeroOf Try.prog 40 = some #[(.int .i64 0), (.int .i64 0), (.int .i64 0), (.slice none 0 0)] := nd (by kernel_rfl)
theorem us_40 : (Try.prog.underlying 40).isSome = true := nd (by kernel_rfl)
theorem fo_40_0 : fieldOff Try.prog 40 0 = some 0 := nd (by kernel_rfl)
theorem fr_40_0 : fieldRow Try.prog 40 0 = some (0, none) := nd (by kernel_rfl)
theorem fo_40_1 : fieldOff Try.prog 40 1 = some 1 := nd (by kernel_rfl)
theorem fr_40_1 : fieldRow Try.prog 40 1 = some (1, none) := nd (by kernel_rfl)
theorem fo_40_2 : fieldOff Try.prog 40 2 = some 2 := nd (by kernel_rfl)
theorem fr_40_2 : fieldRow Try.prog 40 2 = some (2, none) := nd (by kernel_rfl)
theorem fo_40_3 : fieldOff Try.prog 40 3 = some 3 := nd (by kernel_rfl)
theorem fr_40_3 : fieldRow Try.prog 40 3 = some (3, none) := nd (by kernel_rfl)
theorem row_41 : rowOf Try.prog 41 = some (some 4) := nd (by kernel_rfl)
theorem sz_41 : szOf Try.prog 41 = some 4 := nd (by kernel_rfl)
theorem by_41 : bytesA Try.prog 41 = some 48 := nd (by kernel_rfl)
theorem ze_41 : zeroOf Try.prog 41 = some #[(.int .i64 0), (.int .i64 0), (.int .i64 0), (.slice none 0 0)] := nd (by kernel_rfl)
theorem us_41 : (Try.prog.underlying 41).isSome = true := nd (by kernel_rfl)
theorem fo_41_0 : fieldOff Try.prog 41 0 = some 0 := nd (by kernel_rfl)
theorem fr_41_0 : fieldRow Try.prog 41 0 = some (0, none) := nd (by kernel_rfl)
theorem fo_41_1 : fieldOff Try.prog 41 1 = some 1 := nd (by kernel_rfl)
theorem fr_41_1 : fieldRow Try.prog 41 1 = some (1, none) := nd (by kernel_rfl)
theorem fo_41_2 : fieldOff Try.prog 41 2 = some 2 := nd (by kernel_rfl)
theorem fr_41_2 : fieldRow Try.prog 41 2 = some (2, none) := nd (by kernel_rfl)
theorem fo_41_3 : fieldOff Try.prog 41 3 = some 3 := nd (by kernel_rfl)
theorem fr_41_3 : fieldRow Try.prog 41 3 = some (3, none) := nd (by kernel_rfl)
theorem row_42 : rowOf Try.prog 42 = some none := nd (by kernel_rfl)
theorem sz_42 : szOf Try.prog 42 = some 1 := nd (by kernel_rfl)
theorem by_42 : bytesA Try.prog 42 = some 8 := nd (by kernel_rfl)
theorem ze_42 : zeroOf Try.prog 42 = some #[.nilFunc] := nd (by kernel_rfl)
theorem us_42 : (Try.prog.underlying 42).isSome = true := nd (by kernel_rfl)
theorem row_43 : rowOf Try.prog 43 = some none := nd (by kernel_rfl)
theorem sz_43 : szOf Try.prog 43 = some 1 := nd (by kernel_rfl)
theorem by_43 : bytesA Try.prog 43 = some 8 := nd (by kernel_rfl)
theorem ze_43 : zeroOf Try.prog 43 = some #[(.int .i64 0)] := nd (by kernel_rfl)
theorem us_43 : (Try.prog.underlying 43).isSome = true := nd (by kernel_rfl)
theorem un_43 : Try.prog.underlying 43 = some (.int .i64) := nd (by kernel_rfl)
theorem row_44 : rowOf Try.prog 44 = some none := nd (by kernel_rfl)
theorem sz_44 : szOf Try.prog 44 = some 1 := nd (by kernel_rfl)
theorem by_44 : bytesA Try.prog 44 = some 8 := nd (by kernel_rfl)
theorem ze_44 : zeroOf Try.prog 44 = some #[.nilFunc] := nd (by kernel_rfl)
theorem us_44 : (Try.prog.underlying 44).isSome = true := nd (by kernel_rfl)
theorem row_45 : rowOf Try.prog 45 = some none := nd (by kernel_rfl)
theorem sz_45 : szOf Try.prog 45 = some 1 := nd (by kernel_rfl)
theorem by_45 : bytesA Try.prog 45 = some 8 := nd (by kernel_rfl)
theorem ze_45 : zeroOf Try.prog 45 = some #[.nilFunc] := nd (by kernel_rfl)
theorem us_45 : (Try.prog.underlying 45).isSome = true := nd (by kernel_rfl)
theorem row_46 : rowOf Try.prog 46 = some none := nd (by kernel_rfl)
theorem sz_46 : szOf Try.prog 46 = some 1 := nd (by kernel_rfl)
theorem by_46 : bytesA Try.prog 46 = some 8 := nd (by kernel_rfl)
theorem ze_46 : zeroOf Try.prog 46 = some #[.nilFunc] := nd (by kernel_rfl)
theorem us_46 : (Try.prog.underlying 46).isSome = true := nd (by kernel_rfl)
theorem row_47 : rowOf Try.prog 47 = some none := nd (by kernel_rfl)
theorem sz_47 : szOf Try.prog 47 = some 1 := nd (by kernel_rfl)
theorem by_47 : bytesA Try.prog 47 = some 8 := nd (by kernel_rfl)
theorem ze_47 : zeroOf Try.prog 47 = some #[.nilFunc] := nd (by kernel_rfl)
theorem us_47 : (Try.prog.underlying 47).isSome = true := nd (by kernel_rfl)
theorem row_49 : rowOf Try.prog 49 = some none := nd (by kernel_rfl)
theorem sz_49 : szOf Try.prog 49 = some 1 := nd (by kernel_rfl)
theorem by_49 : bytesA Try.prog 49 = some 8 := nd (by kernel_rfl)
theorem ze_49 : zeroOf Try.prog 49 = some #[.nilFunc] := nd (by kernel_rfl)
theorem us_49 : (Try.prog.underlying 49).isSome = true := nd (by kernel_rfl)
theorem row_50 : rowOf Try.prog 50 = some none := nd (by kernel_rfl)
theorem sz_50 : szOf Try.prog 50 = some 1 := nd (by kernel_rfl)
theorem by_50 : bytesA Try.prog 50 = some 8 := nd (by kernel_rfl)
theorem ze_50 : zeroOf Try.prog 50 = some #[.nilFunc] := nd (by kernel_rfl)
theorem us_50 : (Try.prog.underlying 50).isSome = true := nd (by kernel_rfl)
theorem row_51 : rowOf Try.prog 51 = some none := nd (by kernel_rfl)
theorem sz_51 : szOf Try.prog 51 = some 1 := nd (by kernel_rfl)
theorem by_51 : bytesA Try.prog 51 = some 8 := nd (by kernel_rfl)
theorem ze_51 : zeroOf Try.prog 51 = some #[.nilFunc] := nd (by kernel_rfl)
theorem us_51 : (Try.prog.underlying 51).isSome = true := nd (by kernel_rfl)
theorem row_52 : rowOf Try.prog 52 = some none := nd (by kernel_rfl)
theorem sz_52 : szOf Try.prog 52 = some 1 := nd (by kernel_rfl)
theorem by_52 : bytesA Try.prog 52 = some 8 := nd (by kernel_rfl)
theorem ze_52 : zeroOf Try.prog 52 = some #[.nilFunc] := nd (by kernel_rfl)
theorem us_52 : (Try.prog.underlying 52).isSome = true := nd (by kernel_rfl)
theorem row_54 : rowOf Try.prog 54 = some none := nd (by kernel_rfl)
theorem sz_54 : szOf Try.prog 54 = some 1 := nd (by kernel_rfl)
theorem by_54 : bytesA Try.prog 54 = some 8 := nd (by kernel_rfl)
theorem ze_54 : zeroOf Try.prog 54 = some #[.nilFunc] := nd (by kernel_rfl)
theorem us_54 : (Try.prog.underlying 54).isSome = true := nd (by kernel_rfl)
theorem row_55 : rowOf Try.prog 55 = some none := nd (by kernel_rfl)
theorem sz_55 : szOf Try.prog 55 = some 1 := nd (by kernel_rfl)
theorem by_55 : bytesA Try.prog 55 = some 8 := nd (by kernel_rfl)
theorem ze_55 : zeroOf Try.prog 55 = some #[.nilFunc] := nd (by kernel_rfl)
theorem us_55 : (Try.prog.underlying 55).isSome = true := nd (by kernel_rfl)
theorem row_56 : rowOf Try.prog 56 = some none := nd (by kernel_rfl)
theorem sz_56 : szOf Try.prog 56 = some 1 := nd (by kernel_rfl)
theorem by_56 : bytesA Try.prog 56 = some 8 := nd (by kernel_rfl)
theorem ze_56 : zeroOf Try.prog 56 = some #[.nilFunc] := nd (by kernel_rfl)
theorem us_56 : (Try.prog.underlying 56).isSome = true := nd (by kernel_rfl)
theorem row_57 : rowOf Try.prog 57 = some none := nd (by kernel_rfl)
theorem sz_57 : szOf Try.prog 57 = some 1 := nd (by kernel_rfl)
theorem by_57 : bytesA Try.prog 57 = some 8 := nd (by kernel_rfl)
theorem ze_57 : zeroOf Try.prog 57 = some #[.nilFunc] := nd (by kernel_rfl)
theorem us_57 : (Try.prog.underlying 57).isSome = true := nd (by kernel_rfl)
theorem row_58 : rowOf Try.prog 58 = some (some 64) := nd (by kernel_rfl)
theorem sz_58 : szOf Try.prog 58 = some 64 := nd (by kernel_rfl)
theorem by_58 : bytesA Try.prog 58 = some 64 := nd (by kernel_rfl)
theorem ze_58 : zeroOf Try.prog 58 = some (List.replicate 64 ((.int .u8 0) : Value)).toArray := nd (by kernel_rfl)
theorem us_58 : (Try.prog.underlying 58).isSome = true := nd (by kernel_rfl)
theorem ar_58 : arrOf Try.prog 58 = some (64, 1, none) := nd (by kernel_rfl)
theorem row_59 : rowOf Try.prog 59 = some (some 64) := nd (by kernel_rfl)
theorem sz_59 : szOf Try.prog 59 = some 64 := nd (by kernel_rfl)
theorem by_59 : bytesA Try.prog 59 = some 64 := nd (by kernel_rfl)
theorem ze_59 : zeroOf Try.prog 59 = some (List.replicate 64 ((.bool false) : Value)).toArray := nd (by kernel_rfl)
theorem us_59 : (Try.prog.underlying 59).isSome = true := nd (by kernel_rfl)
theorem ar_59 : arrOf Try.prog 59 = some (64, 1, none) := nd (by kernel_rfl)
theorem row_60 : rowOf Try.prog 60 = some (some 64) := nd (by kernel_rfl)
theorem sz_60 : szOf Try.prog 60 = some 64 := nd (by kernel_rfl)
theorem by_60 : bytesA Try.prog 60 = some 512 := nd (by kernel_rfl)
theorem ze_60 : zeroOf Try.prog 60 = some (List.replicate 64 ((.int .i64 0) : Value)).toArray := nd (by kernel_rfl)
theorem us_60 : (Try.prog.underlying 60).isSome = true := nd (by kernel_rfl)
theorem ar_60 : arrOf Try.prog 60 = some (64, 1, none) := nd (by kernel_rfl)
theorem row_61 : rowOf Try.prog 61 = some (some 193) := nd (by kernel_rfl)
theorem sz_61 : szOf Try.prog 61 = some 193 := nd (by kernel_rfl)
theorem by_61 : bytesA Try.prog 61 = some 648 := nd (by kernel_rfl)
theorem ze_61 : zeroOf Try.prog 61 = some (List.replicate 1 ((.bool false) : Value) ++ List.replicate 64 ((.int .u8 0) : Value) ++ List.replicate 64 ((.bool false) : Value) ++ List.replicate 64 ((.int .i64 0) : Value)).toArray := nd (by kernel_rfl)
theorem us_61 : (Try.prog.underlying 61).isSome = true := nd (by kernel_rfl)
theorem fo_61_0 : fieldOff Try.prog 61 0 = some 0 := nd (by kernel_rfl)
theorem fr_61_0 : fieldRow Try.prog 61 0 = some (0, none) := nd (by kernel_rfl)
theorem fo_61_1 : fieldOff Try.prog 61 1 = some 1 := nd (by kernel_rfl)
theorem fr_61_1 : fieldRow Try.prog 61 1 = some (1, some 64) := nd (by kernel_rfl)
theorem fo_61_2 : fieldOff Try.prog 61 2 = some 65 := nd (by kernel_rfl)
theorem fr_61_2 : fieldRow Try.prog 61 2 = some (65, some 64) := nd (by kernel_rfl)
theorem fo_61_3 : fieldOff Try.prog 61 3 = some 129 := nd (by kernel_rfl)
theorem fr_61_3 : fieldRow Try.prog 61 3 = some (129, some 64) := nd (by kernel_rfl)
theorem row_62 : rowOf Try.prog 62 = some (some 193) := nd (by kernel_rfl)
theorem sz_62 : szOf Try.prog 62 = some 193 := nd (by kernel_rfl)
theorem by_62 : bytesA Try.prog 62 = some 648 := nd (by kernel_rfl)
theorem ze_62 : zeroOf Try.prog 62 = some (List.replicate 1 ((.bool false) : Value) ++ List.replicate 64 ((.int .u8 0) : Value) ++ List.replicate 64 ((.bool false) : Value) ++ List.replicate 64 ((.int .i64 0) : Value)).toArray := nd (by kernel_rfl)
theorem us_62 : (Try.prog.underlying 62).isSome = true := nd (by kernel_rfl)
theorem fo_62_0 : fieldOff Try.prog 62 0 = some 0 := nd (by kernel_rfl)
theorem fr_62_0 : fieldRow Try.prog 62 0 = some (0, none) := nd (by kernel_rfl)
theorem fo_62_1 : fieldOff Try.prog 62 1 = some 1 := nd (by kernel_rfl)
theorem fr_62_1 : fieldRow Try.prog 62 1 = some (1, some 64) := nd (by kernel_rfl)
theorem fo_62_2 : fieldOff Try.prog 62 2 = some 65 := nd (by kernel_rfl)
theorem fr_62_2 : fieldRow Try.prog 62 2 = some (65, some 64) := nd (by kernel_rfl)
theorem fo_62_3 : fieldOff Try.prog 62 3 = some 129 := nd (by kernel_rfl)
theorem fr_62_3 : fieldRow Try.prog 62 3 = some (129, some 64) := nd (by kernel_rfl)
theorem row_63 : rowOf Try.prog 63 = some none := nd (by kernel_rfl)
theorem sz_63 : szOf Try.prog 63 = some 1 := nd (by kernel_rfl)
theorem by_63 : bytesA Try.prog 63 = some 8 := nd (by kernel_rfl)
theorem ze_63 : zeroOf Try.prog 63 = some #[.nilFunc] := nd (by kernel_rfl)
theorem us_63 : (Try.prog.underlying 63).isSome = true := nd (by kernel_rfl)
theorem row_64 : rowOf Try.prog 64 = some none := nd (by kernel_rfl)
theorem sz_64 : szOf Try.prog 64 = some 1 := nd (by kernel_rfl)
theorem by_64 : bytesA Try.prog 64 = some 24 := nd (by kernel_rfl)
theorem ze_64 : zeroOf Try.prog 64 = some #[(.slice none 0 0)] := nd (by kernel_rfl)
theorem us_64 : (Try.prog.underlying 64).isSome = true := nd (by kernel_rfl)
theorem sl_64 : slOf Try.prog 64 = some (71, 3) := nd (by kernel_rfl)
theorem isl_64 : isSlT Try.prog 64 = true := nd (by kernel_rfl)
theorem row_65 : rowOf Try.prog 65 = some none := nd (by kernel_rfl)
theorem sz_65 : szOf Try.prog 65 = some 1 := nd (by kernel_rfl)
theorem by_65 : bytesA Try.prog 65 = some 8 := nd (by kernel_rfl)
theorem ze_65 : zeroOf Try.prog 65 = some #[(.pointer none)] := nd (by kernel_rfl)
theorem us_65 : (Try.prog.underlying 65).isSome = true := nd (by kernel_rfl)
theorem ip_65 : isPtr Try.prog 65 = true := nd (by kernel_rfl)
theorem row_66 : rowOf Try.prog 66 = some none := nd (by kernel_rfl)
theorem sz_66 : szOf Try.prog 66 = some 1 := nd (by kernel_rfl)
theorem by_66 : bytesA Try.prog 66 = some 8 := nd (by kernel_rfl)
theorem ze_66 : zeroOf Try.prog 66 = some #[.nilFunc] := nd (by kernel_rfl)
theorem us_66 : (Try.prog.underlying 66).isSome = true := nd (by kernel_rfl)
theorem row_67 : rowOf Try.prog 67 = some none := nd (by kernel_rfl)
theorem sz_67 : szOf Try.prog 67 = some 1 := nd (by kernel_rfl)
theorem by_67 : bytesA Try.prog 67 = some 24 := nd (by kernel_rfl)
theorem ze_67 : zeroOf Try.prog 67 = some #[(.slice none 0 0)] := nd (by kernel_rfl)
theorem us_67 : (Try.prog.underlying 67).isSome = true := nd (by kernel_rfl)
theorem sl_67 : slOf Try.prog 67 = some (73, 3) := nd (by kernel_rfl)
theorem isl_67 : isSlT Try.prog 67 = true := nd (by kernel_rfl)
theorem row_68 : rowOf Try.prog 68 = some none := nd (by kernel_rfl)
theorem sz_68 : szOf Try.prog 68 = some 1 := nd (by kernel_rfl)
theorem by_68 : bytesA Try.prog 68 = some 8 := nd (by kernel_rfl)
theorem ze_68 : zeroOf Try.prog 68 = some #[(.map none)] := nd (by kernel_rfl)
theorem us_68 : (Try.prog.underlying 68).isSome = true := nd (by kernel_rfl)
theorem row_69 : rowOf Try.prog 69 = some none := nd (by kernel_rfl)
theorem sz_69 : szOf Try.prog 69 = some 1 := nd (by kernel_rfl)
theorem by_69 : bytesA Try.prog 69 = some 8 := nd (by kernel_rfl)
theorem ze_69 : zeroOf Try.prog 69 = some #[.nilFunc] := nd (by kernel_rfl)
theorem us_69 : (Try.prog.underlying 69).isSome = true := nd (by kernel_rfl)
theorem row_70 : rowOf Try.prog 70 = some (some 3) := nd (by kernel_rfl)
theorem sz_70 : szOf Try.prog 70 = some 3 := nd (by kernel_rfl)
theorem by_70 : bytesA Try.prog 70 = some 16 := nd (by kernel_rfl)
theorem ze_70 : zeroOf Try.prog 70 = some #[(.int .i64 0), (.bool false), (.int .u8 0)] := nd (by kernel_rfl)
theorem us_70 : (Try.prog.underlying 70).isSome = true := nd (by kernel_rfl)
theorem fo_70_0 : fieldOff Try.prog 70 0 = some 0 := nd (by kernel_rfl)
theorem fr_70_0 : fieldRow Try.prog 70 0 = some (0, none) := nd (by kernel_rfl)
theorem fo_70_1 : fieldOff Try.prog 70 1 = some 1 := nd (by kernel_rfl)
theorem fr_70_1 : fieldRow Try.prog 70 1 = some (1, none) := nd (by kernel_rfl)
theorem fo_70_2 : fieldOff Try.prog 70 2 = some 2 := nd (by kernel_rfl)
theorem fr_70_2 : fieldRow Try.prog 70 2 = some (2, none) := nd (by kernel_rfl)
theorem row_71 : rowOf Try.prog 71 = some (some 3) := nd (by kernel_rfl)
theorem sz_71 : szOf Try.prog 71 = some 3 := nd (by kernel_rfl)
theorem by_71 : bytesA Try.prog 71 = some 16 := nd (by kernel_rfl)
theorem ze_71 : zeroOf Try.prog 71 = some #[(.int .i64 0), (.bool false), (.int .u8 0)] := nd (by kernel_rfl)
theorem us_71 : (Try.prog.underlying 71).isSome = true := nd (by kernel_rfl)
theorem fo_71_0 : fieldOff Try.prog 71 0 = some 0 := nd (by kernel_rfl)
theorem fr_71_0 : fieldRow Try.prog 71 0 = some (0, none) := nd (by kernel_rfl)
theorem fo_71_1 : fieldOff Try.prog 71 1 = some 1 := nd (by kernel_rfl)
theorem fr_71_1 : fieldRow Try.prog 71 1 = some (1, none) := nd (by kernel_rfl)
theorem fo_71_2 : fieldOff Try.prog 71 2 = some 2 := nd (by kernel_rfl)
theorem fr_71_2 : fieldRow Try.prog 71 2 = some (2, none) := nd (by kernel_rfl)
theorem row_72 : rowOf Try.prog 72 = some (some 3) := nd (by kernel_rfl)
theorem sz_72 : szOf Try.prog 72 = some 3 := nd (by kernel_rfl)
theorem by_72 : bytesA Try.prog 72 = some 24 := nd (by kernel_rfl)
theorem ze_72 : zeroOf Try.prog 72 = some #[(.int .i64 0), (.bool false), (.int .i64 0)] := nd (by kernel_rfl)
theorem us_72 : (Try.prog.underlying 72).isSome = true := nd (by kernel_rfl)
theorem fo_72_0 : fieldOff Try.prog 72 0 = some 0 := nd (by kernel_rfl)
theorem fr_72_0 : fieldRow Try.prog 72 0 = some (0, none) := nd (by kernel_rfl)
theorem fo_72_1 : fieldOff Try.prog 72 1 = some 1 := nd (by kernel_rfl)
theorem fr_72_1 : fieldRow Try.prog 72 1 = some (1, none) := nd (by kernel_rfl)
theorem fo_72_2 : fieldOff Try.prog 72 2 = some 2 := nd (by kernel_rfl)
theorem fr_72_2 : fieldRow Try.prog 72 2 = some (2, none) := nd (by kernel_rfl)
theorem row_73 : rowOf Try.prog 73 = some (some 3) := nd (by kernel_rfl)
theorem sz_73 : szOf Try.prog 73 = some 3 := nd (by kernel_rfl)
theorem by_73 : bytesA Try.prog 73 = some 24 := nd (by kernel_rfl)
theorem ze_73 : zeroOf Try.prog 73 = some #[(.int .i64 0), (.bool false), (.int .i64 0)] := nd (by kernel_rfl)
theorem us_73 : (Try.prog.underlying 73).isSome = true := nd (by kernel_rfl)
theorem fo_73_0 : fieldOff Try.prog 73 0 = some 0 := nd (by kernel_rfl)
theorem fr_73_0 : fieldRow Try.prog 73 0 = some (0, none) := nd (by kernel_rfl)
theorem fo_73_1 : fieldOff Try.prog 73 1 = some 1 := nd (by kernel_rfl)
theorem fr_73_1 : fieldRow Try.prog 73 1 = some (1, none) := nd (by kernel_rfl)
theorem fo_73_2 : fieldOff Try.prog 73 2 = some 2 := nd (by kernel_rfl)
theorem fr_73_2 : fieldRow Try.prog 73 2 = some (2, none) := nd (by kernel_rfl)
theorem row_74 : rowOf Try.prog 74 = some (some 2) := nd (by kernel_rfl)
theorem sz_74 : szOf Try.prog 74 = some 2 := nd (by kernel_rfl)
theorem by_74 : bytesA Try.prog 74 = some 16 := nd (by kernel_rfl)
theorem ze_74 : zeroOf Try.prog 74 = some #[(.int .i64 0), (.int .i64 0)] := nd (by kernel_rfl)
theorem us_74 : (Try.prog.underlying 74).isSome = true := nd (by kernel_rfl)
theorem ar_74 : arrOf Try.prog 74 = some (2, 1, none) := nd (by kernel_rfl)
theorem row_75 : rowOf Try.prog 75 = some (some 4) := nd (by kernel_rfl)
theorem sz_75 : szOf Try.prog 75 = some 4 := nd (by kernel_rfl)
theorem by_75 : bytesA Try.prog 75 = some 4 := nd (by kernel_rfl)
theorem ze_75 : zeroOf Try.prog 75 = some #[(.bool false), (.bool false), (.bool false), (.bool false)] := nd (by kernel_rfl)
theorem us_75 : (Try.prog.underlying 75).isSome = true := nd (by kernel_rfl)
theorem ar_75 : arrOf Try.prog 75 = some (4, 1, none) := nd (by kernel_rfl)
theorem row_77 : rowOf Try.prog 77 = some none := nd (by kernel_rfl)
theorem sz_77 : szOf Try.prog 77 = some 1 := nd (by kernel_rfl)
theorem by_77 : bytesA Try.prog 77 = some 8 := nd (by kernel_rfl)
theorem ze_77 : zeroOf Try.prog 77 = some #[.nilFunc] := nd (by kernel_rfl)
theorem us_77 : (Try.prog.underlying 77).isSome = true := nd (by kernel_rfl)
theorem row_79 : rowOf Try.prog 79 = some none := nd (by kernel_rfl)
theorem sz_79 : szOf Try.prog 79 = some 1 := nd (by kernel_rfl)
theorem by_79 : bytesA Try.prog 79 = some 8 := nd (by kernel_rfl)
theorem ze_79 : zeroOf Try.prog 79 = some #[.nilFunc] := nd (by kernel_rfl)
theorem us_79 : (Try.prog.underlying 79).isSome = true := nd (by kernel_rfl)
theorem row_80 : rowOf Try.prog 80 = some none := nd (by kernel_rfl)
theorem sz_80 : szOf Try.prog 80 = some 1 := nd (by kernel_rfl)
theorem by_80 : bytesA Try.prog 80 = some 8 := nd (by kernel_rfl)
theorem ze_80 : zeroOf Try.prog 80 = some #[.nilFunc] := nd (by kernel_rfl)
theorem us_80 : (Try.prog.underlying 80).isSome = true := nd (by kernel_rfl)
theorem row_81 : rowOf Try.prog 81 = some none := nd (by kernel_rfl)
theorem sz_81 : szOf Try.prog 81 = some 1 := nd (by kernel_rfl)
theorem by_81 : bytesA Try.prog 81 = some 8 := nd (by kernel_rfl)
theorem ze_81 : zeroOf Try.prog 81 = some #[.nilFunc] := nd (by kernel_rfl)
theorem us_81 : (Try.prog.underlying 81).isSome = true := nd (by kernel_rfl)
theorem row_82 : rowOf Try.prog 82 = some none := nd (by kernel_rfl)
theorem sz_82 : szOf Try.prog 82 = some 1 := nd (by kernel_rfl)
theorem by_82 : bytesA Try.prog 82 = some 24 := nd (by kernel_rfl)
theorem ze_82 : zeroOf Try.prog 82 = some #[(.slice none 0 0)] := nd (by kernel_rfl)
theorem us_82 : (Try.prog.underlying 82).isSome = true := nd (by kernel_rfl)
theorem sl_82 : slOf Try.prog 82 = some (115, 10) := nd (by kernel_rfl)
theorem isl_82 : isSlT Try.prog 82 = true := nd (by kernel_rfl)
theorem row_83 : rowOf Try.prog 83 = some (some 2) := nd (by kernel_rfl)
theorem sz_83 : szOf Try.prog 83 = some 2 := nd (by kernel_rfl)
theorem by_83 : bytesA Try.prog 83 = some 32 := nd (by kernel_rfl)
theorem ze_83 : zeroOf Try.prog 83 = some #[(.bool false), (.slice none 0 0)] := nd (by kernel_rfl)
theorem us_83 : (Try.prog.underlying 83).isSome = true := nd (by kernel_rfl)
theorem fo_83_0 : fieldOff Try.prog 83 0 = some 0 := nd (by kernel_rfl)
theorem fr_83_0 : fieldRow Try.prog 83 0 = some (0, none) := nd (by kernel_rfl)
theorem fo_83_1 : fieldOff Try.prog 83 1 = some 1 := nd (by kernel_rfl)
theorem fr_83_1 : fieldRow Try.prog 83 1 = some (1, none) := nd (by kernel_rfl)
theorem row_84 : rowOf Try.prog 84 = some (some 2) := nd (by kernel_rfl)
theorem sz_84 : szOf Try.prog 84 = some 2 := nd (by kernel_rfl)
theorem by_84 : bytesA Try.prog 84 = some 32 := nd (by kernel_rfl)
theorem ze_84 : zeroOf Try.prog 84 = some #[(.bool false), (.slice none 0 0)] := nd (by kernel_rfl)
theorem us_84 : (Try.prog.underlying 84).isSome = true := nd (by kernel_rfl)
theorem fo_84_0 : fieldOff Try.prog 84 0 = some 0 := nd (by kernel_rfl)
theorem fr_84_0 : fieldRow Try.prog 84 0 = some (0, none) := nd (by kernel_rfl)
theorem fo_84_1 : fieldOff Try.prog 84 1 = some 1 := nd (by kernel_rfl)
theorem fr_84_1 : fieldRow Try.prog 84 1 = some (1, none) := nd (by kernel_rfl)
theorem row_85 : rowOf Try.prog 85 = some none := nd (by kernel_rfl)
theorem sz_85 : szOf Try.prog 85 = some 1 := nd (by kernel_rfl)
theorem by_85 : bytesA Try.prog 85 = some 24 := nd (by kernel_rfl)
theorem ze_85 : zeroOf Try.prog 85 = some #[(.slice none 0 0)] := nd (by kernel_rfl)
theorem us_85 : (Try.prog.underlying 85).isSome = true := nd (by kernel_rfl)
theorem sl_85 : slOf Try.prog 85 = some (101, 6) := nd (by kernel_rfl)
theorem isl_85 : isSlT Try.prog 85 = true := nd (by kernel_rfl)
theorem row_86 : rowOf Try.prog 86 = some (some 2) := nd (by kernel_rfl)
theorem sz_86 : szOf Try.prog 86 = some 2 := nd (by kernel_rfl)
theorem by_86 : bytesA Try.prog 86 = some 48 := nd (by kernel_rfl)
theorem ze_86 : zeroOf Try.prog 86 = some #[(.slice none 0 0), (.slice none 0 0)] := nd (by kernel_rfl)
theorem us_86 : (Try.prog.underlying 86).isSome = true := nd (by kernel_rfl)
theorem ar_86 : arrOf Try.prog 86 = some (2, 1, none) := nd (by kernel_rfl)
theorem row_87 : rowOf Try.prog 87 = some (some 3) := nd (by kernel_rfl)
theorem sz_87 : szOf Try.prog 87 = some 3 := nd (by kernel_rfl)
theorem by_87 : bytesA Try.prog 87 = some 56 := nd (by kernel_rfl)
theorem ze_87 : zeroOf Try.prog 87 = some #[(.int .i64 0), (.slice none 0 0), (.slice none 0 0)] := nd (by kernel_rfl)
theorem us_87 : (Try.prog.underlying 87).isSome = true := nd (by kernel_rfl)
theorem fo_87_0 : fieldOff Try.prog 87 0 = some 0 := nd (by kernel_rfl)
theorem fr_87_0 : fieldRow Try.prog 87 0 = some (0, none) := nd (by kernel_rfl)
theorem fo_87_1 : fieldOff Try.prog 87 1 = some 1 := nd (by kernel_rfl)
theorem fr_87_1 : fieldRow Try.prog 87 1 = some (1, some 2) := nd (by kernel_rfl)
theorem row_88 : rowOf Try.prog 88 = some (some 3) := nd (by kernel_rfl)
theorem sz_88 : szOf Try.prog 88 = some 3 := nd (by kernel_rfl)
theorem by_88 : bytesA Try.prog 88 = some 56 := nd (by kernel_rfl)
theorem ze_88 : zeroOf Try.prog 88 = some #[(.int .i64 0), (.slice none 0 0), (.slice none 0 0)] := nd (by kernel_rfl)
theorem us_88 : (Try.prog.underlying 88).isSome = true := nd (by kernel_rfl)
theorem fo_88_0 : fieldOff Try.prog 88 0 = some 0 := nd (by kernel_rfl)
theorem fr_88_0 : fieldRow Try.prog 88 0 = some (0, none) := nd (by kernel_rfl)
theorem fo_88_1 : fieldOff Try.prog 88 1 = some 1 := nd (by kernel_rfl)
theorem fr_88_1 : fieldRow Try.prog 88 1 = some (1, some 2) := nd (by kernel_rfl)
theorem row_89 : rowOf Try.prog 89 = some none := nd (by kernel_rfl)
theorem sz_89 : szOf Try.prog 89 = some 1 := nd (by kernel_rfl)
theorem by_89 : bytesA Try.prog 89 = some 8 := nd (by kernel_rfl)
theorem ze_89 : zeroOf Try.prog 89 = some #[.nilFunc] := nd (by kernel_rfl)
theorem us_89 : (Try.prog.underlying 89).isSome = true := nd (by kernel_rfl)
theorem row_90 : rowOf Try.prog 90 = some none := nd (by kernel_rfl)
theorem sz_90 : szOf Try.prog 90 = some 1 := nd (by kernel_rfl)
theorem by_90 : bytesA Try.prog 90 = some 24 := nd (by kernel_rfl)
theorem ze_90 : zeroOf Try.prog 90 = some #[(.slice none 0 0)] := nd (by kernel_rfl)
theorem us_90 : (Try.prog.underlying 90).isSome = true := nd (by kernel_rfl)
theorem sl_90 : slOf Try.prog 90 = some (31, 8) := nd (by kernel_rfl)
theorem isl_90 : isSlT Try.prog 90 = true := nd (by kernel_rfl)
theorem row_91 : rowOf Try.prog 91 = some none := nd (by kernel_rfl)
theorem sz_91 : szOf Try.prog 91 = some 1 := nd (by kernel_rfl)
theorem by_91 : bytesA Try.prog 91 = some 8 := nd (by kernel_rfl)
theorem ze_91 : zeroOf Try.prog 91 = some #[.nilFunc] := nd (by kernel_rfl)
theorem us_91 : (Try.prog.underlying 91).isSome = true := nd (by kernel_rfl)
theorem row_92 : rowOf Try.prog 92 = some none := nd (by kernel_rfl)
theorem sz_92 : szOf Try.prog 92 = some 1 := nd (by kernel_rfl)
theorem by_92 : bytesA Try.prog 92 = some 8 := nd (by kernel_rfl)
theorem ze_92 : zeroOf Try.prog 92 = some #[.nilFunc] := nd (by kernel_rfl)
theorem us_92 : (Try.prog.underlying 92).isSome = true := nd (by kernel_rfl)
theorem row_93 : rowOf Try.prog 93 = some none := nd (by kernel_rfl)
theorem sz_93 : szOf Try.prog 93 = some 1 := nd (by kernel_rfl)
theorem by_93 : bytesA Try.prog 93 = some 24 := nd (by kernel_rfl)
theorem ze_93 : zeroOf Try.prog 93 = some #[(.slice none 0 0)] := nd (by kernel_rfl)
theorem us_93 : (Try.prog.underlying 93).isSome = true := nd (by kernel_rfl)
theorem sl_93 : slOf Try.prog 93 = some (97, 8) := nd (by kernel_rfl)
theorem isl_93 : isSlT Try.prog 93 = true := nd (by kernel_rfl)
theorem row_94 : rowOf Try.prog 94 = some none := nd (by kernel_rfl)
theorem sz_94 : szOf Try.prog 94 = some 1 := nd (by kernel_rfl)
theorem by_94 : bytesA Try.prog 94 = some 8 := nd (by kernel_rfl)
theorem ze_94 : zeroOf Try.prog 94 = some #[.nilFunc] := nd (by kernel_rfl)
theorem us_94 : (Try.prog.underlying 94).isSome = true := nd (by kernel_rfl)
theorem row_95 : rowOf Try.prog 95 = some none := nd (by kernel_rfl)
theorem sz_95 : szOf Try.prog 95 = some 1 := nd (by kernel_rfl)
theorem by_95 : bytesA Try.prog 95 = some 24 := nd (by kernel_rfl)
theorem ze_95 : zeroOf Try.prog 95 = some #[(.slice none 0 0)] := nd (by kernel_rfl)
theorem us_95 : (Try.prog.underlying 95).isSome = true := nd (by kernel_rfl)
theorem sl_95 : slOf Try.prog 95 = some (103, 6) := nd (by kernel_rfl)
theorem isl_95 : isSlT Try.prog 95 = true := nd (by kernel_rfl)
theorem row_96 : rowOf Try.prog 96 = some none := nd (by kernel_rfl)
theorem sz_96 : szOf Try.prog 96 = some 1 := nd (by kernel_rfl)
theorem by_96 : bytesA Try.prog 96 = some 8 := nd (by kernel_rfl)
theorem ze_96 : zeroOf Try.prog 96 = some #[.nilFunc] := nd (by kernel_rfl)
theorem us_96 : (Try.prog.underlying 96).isSome = true := nd (by kernel_rfl)
theorem row_97 : rowOf Try.prog 97 = some (some 8) := nd (by kernel_rfl)
theorem sz_97 : szOf Try.prog 97 = some 8 := nd (by kernel_rfl)
theorem by_97 : bytesA Try.prog 97 = some 64 := nd (by kernel_rfl)
theorem ze_97 : zeroOf Try.prog 97 = some #[(.int .i64 0), (.int .i64 0), (.int .i64 0), (.int .i64 0), (.int .i64 0), (.int .i64 0), (.int .i64 0), (.bool false)] := nd (by kernel_rfl)
theorem us_97 : (Try.prog.underlying 97).isSome = true := nd (by kernel_rfl)
theorem fo_97_0 : fieldOff Try.prog 97 0 = some 0 := nd (by kernel_rfl)
theorem fr_97_0 : fieldRow Try.prog 97 0 = some (0, none) := nd (by kernel_rfl)
theorem fo_97_1 : fieldOff Try.prog 97 1 = some 1 := nd (by kernel_rfl)
theorem fr_97_1 : fieldRow Try.prog 97 1 = some (1, none) := nd (by kernel_rfl)
theorem fo_97_2 : fieldOff Try.prog 97 2 = some 2 := nd (by kernel_rfl)
theorem fr_97_2 : fieldRow Try.prog 97 2 = some (2, none) := nd (by kernel_rfl)
theorem fo_97_3 : fieldOff Try.prog 97 3 = some 3 := nd (by kernel_rfl)
theorem fr_97_3 : fieldRow Try.prog 97 3 = some (3, none) := nd (by kernel_rfl)
theorem fo_97_4 : fieldOff Try.prog 97 4 = some 4 := nd (by kernel_rfl)
theorem fr_97_4 : fieldRow Try.prog 97 4 = some (4, none) := nd (by kernel_rfl)
theorem fo_97_5 : fieldOff Try.prog 97 5 = some 5 := nd (by kernel_rfl)
theorem fr_97_5 : fieldRow Try.prog 97 5 = some (5, none) := nd (by kernel_rfl)
theorem fo_97_6 : fieldOff Try.prog 97 6 = some 6 := nd (by kernel_rfl)
theorem fr_97_6 : fieldRow Try.prog 97 6 = some (6, none) := nd (by kernel_rfl)
theorem fo_97_7 : fieldOff Try.prog 97 7 = some 7 := nd (by kernel_rfl)
theorem fr_97_7 : fieldRow Try.prog 97 7 = some (7, none) := nd (by kernel_rfl)
theorem row_98 : rowOf Try.prog 98 = some none := nd (by kernel_rfl)
theorem sz_98 : szOf Try.prog 98 = some 1 := nd (by kernel_rfl)
theorem by_98 : bytesA Try.prog 98 = some 8 := nd (by kernel_rfl)
theorem ze_98 : zeroOf Try.prog 98 = some #[.nilFunc] := nd (by kernel_rfl)
theorem us_98 : (Try.prog.underlying 98).isSome = true := nd (by kernel_rfl)
theorem row_99 : rowOf Try.prog 99 = some none := nd (by kernel_rfl)
theorem sz_99 : szOf Try.prog 99 = some 1 := nd (by kernel_rfl)
theorem by_99 : bytesA Try.prog 99 = some 24 := nd (by kernel_rfl)
theorem ze_99 : zeroOf Try.prog 99 = some #[(.slice none 0 0)] := nd (by kernel_rfl)
theorem us_99 : (Try.prog.underlying 99).isSome = true := nd (by kernel_rfl)
theorem sl_99 : slOf Try.prog 99 = some (3, 1) := nd (by kernel_rfl)
theorem isl_99 : isSlT Try.prog 99 = true := nd (by kernel_rfl)
theorem row_100 : rowOf Try.prog 100 = some (some 6) := nd (by kernel_rfl)
theorem sz_100 : szOf Try.prog 100 = some 6 := nd (by kernel_rfl)
theorem by_100 : bytesA Try.prog 100 = some 80 := nd (by kernel_rfl)
theorem ze_100 : zeroOf Try.prog 100 = some #[(.int .i64 0), (.int .i64 0), (.int .i64 0), (.int .i64 0), (.slice none 0 0), (.slice none 0 0)] := nd (by kernel_rfl)
theorem us_100 : (Try.prog.underlying 100).isSome = true := nd (by kernel_rfl)
theorem fo_100_0 : fieldOff Try.prog 100 0 = some 0 := nd (by kernel_rfl)
theorem fr_100_0 : fieldRow Try.prog 100 0 = some (0, none) := nd (by kernel_rfl)
theorem fo_100_1 : fieldOff Try.prog 100 1 = some 1 := nd (by kernel_rfl)
theorem fr_100_1 : fieldRow Try.prog 100 1 = some (1, none) := nd (by kernel_rfl)
theorem fo_100_2 : fieldOff Try.prog 100 2 = some 2 := nd (by kernel_rfl)
theorem fr_100_2 : fieldRow Try.prog 100 2 = some (2, none) := nd (by kernel_rfl)
theorem fo_100_3 : fieldOff Try.prog 100 3 = some 3 := nd (by kernel_rfl)
theorem fr_100_3 : fieldRow Try.prog 100 3 = some (3, none) := nd (by kernel_rfl)
theorem fo_100_4 : fieldOff Try.prog 100 4 = some 4 := nd (by kernel_rfl)
theorem fr_100_4 : fieldRow Try.prog 100 4 = some (4, none) := nd (by kernel_rfl)
theorem fo_100_5 : fieldOff Try.prog 100 5 = some 5 := nd (by kernel_rfl)
theorem fr_100_5 : fieldRow Try.prog 100 5 = some (5, none) := nd (by kernel_rfl)
theorem row_101 : rowOf Try.prog 101 = some (some 6) := nd (by kernel_rfl)
theorem sz_101 : szOf Try.prog 101 = some 6 := nd (by kernel_rfl)
theorem by_101 : bytesA Try.prog 101 = some 80 := nd (by kernel_rfl)
theorem ze_101 : zeroOf Try.prog 101 = some #[(.int .i64 0), (.int .i64 0), (.int .i64 0), (.int .i64 0), (.slice none 0 0), (.slice none 0 0)] := nd (by kernel_rfl)
theorem us_101 : (Try.prog.underlying 101).isSome = true := nd (by kernel_rfl)
theorem fo_101_0 : fieldOff Try.prog 101 0 = some 0 := nd (by kernel_rfl)
theorem fr_101_0 : fieldRow Try.prog 101 0 = some (0, none) := nd (by kernel_rfl)
theorem fo_101_1 : fieldOff Try.prog 101 1 = some 1 := nd (by kernel_rfl)
theorem fr_101_1 : fieldRow Try.prog 101 1 = some (1, none) := nd (by kernel_rfl)
theorem fo_101_2 : fieldOff Try.prog 101 2 = some 2 := nd (by kernel_rfl)
theorem fr_101_2 : fieldRow Try.prog 101 2 = some (2, none) := nd (by kernel_rfl)
theorem fo_101_3 : fieldOff Try.prog 101 3 = some 3 := nd (by kernel_rfl)
theorem fr_101_3 : fieldRow Try.prog 101 3 = some (3, none) := nd (by kernel_rfl)
theorem fo_101_4 : fieldOff Try.prog 101 4 = some 4 := nd (by kernel_rfl)
theorem fr_101_4 : fieldRow Try.prog 101 4 = some (4, none) := nd (by kernel_rfl)
theorem fo_101_5 : fieldOff Try.prog 101 5 = some 5 := nd (by kernel_rfl)
theorem fr_101_5 : fieldRow Try.prog 101 5 = some (5, none) := nd (by kernel_rfl)
theorem row_102 : rowOf Try.prog 102 = some none := nd (by kernel_rfl)
theorem sz_102 : szOf Try.prog 102 = some 1 := nd (by kernel_rfl)
theorem by_102 : bytesA Try.prog 102 = some 8 := nd (by kernel_rfl)
theorem ze_102 : zeroOf Try.prog 102 = some #[.nilFunc] := nd (by kernel_rfl)
theorem us_102 : (Try.prog.underlying 102).isSome = true := nd (by kernel_rfl)
theorem row_103 : rowOf Try.prog 103 = some (some 6) := nd (by kernel_rfl)
theorem sz_103 : szOf Try.prog 103 = some 6 := nd (by kernel_rfl)
theorem by_103 : bytesA Try.prog 103 = some 80 := nd (by kernel_rfl)
theorem ze_103 : zeroOf Try.prog 103 = some #[(.int .i64 0), (.int .i64 0), (.int .i64 0), (.int .i64 0), (.slice none 0 0), (.slice none 0 0)] := nd (by kernel_rfl)
theorem us_103 : (Try.prog.underlying 103).isSome = true := nd (by kernel_rfl)
theorem fo_103_0 : fieldOff Try.prog 103 0 = some 0 := nd (by kernel_rfl)
theorem fr_103_0 : fieldRow Try.prog 103 0 = some (0, none) := nd (by kernel_rfl)
theorem fo_103_1 : fieldOff Try.prog 103 1 = some 1 := nd (by kernel_rfl)
theorem fr_103_1 : fieldRow Try.prog 103 1 = some (1, none) := nd (by kernel_rfl)
theorem fo_103_2 : fieldOff Try.prog 103 2 = some 2 := nd (by kernel_rfl)
theorem fr_103_2 : fieldRow Try.prog 103 2 = some (2, none) := nd (by kernel_rfl)
theorem fo_103_3 : fieldOff Try.prog 103 3 = some 3 := nd (by kernel_rfl)
theorem fr_103_3 : fieldRow Try.prog 103 3 = some (3, none) := nd (by kernel_rfl)
theorem fo_103_4 : fieldOff Try.prog 103 4 = some 4 := nd (by kernel_rfl)
theorem fr_103_4 : fieldRow Try.prog 103 4 = some (4, none) := nd (by kernel_rfl)
theorem fo_103_5 : fieldOff Try.prog 103 5 = some 5 := nd (by kernel_rfl)
theorem fr_103_5 : fieldRow Try.prog 103 5 = some (5, none) := nd (by kernel_rfl)
theorem row_104 : rowOf Try.prog 104 = some none := nd (by kernel_rfl)
theorem sz_104 : szOf Try.prog 104 = some 1 := nd (by kernel_rfl)
theorem by_104 : bytesA Try.prog 104 = some 8 := nd (by kernel_rfl)
theorem ze_104 : zeroOf Try.prog 104 = some #[.nilFunc] := nd (by kernel_rfl)
theorem us_104 : (Try.prog.underlying 104).isSome = true := nd (by kernel_rfl)
theorem row_105 : rowOf Try.prog 105 = some none := nd (by kernel_rfl)
theorem sz_105 : szOf Try.prog 105 = some 1 := nd (by kernel_rfl)
theorem by_105 : bytesA Try.prog 105 = some 8 := nd (by kernel_rfl)
theorem ze_105 : zeroOf Try.prog 105 = some #[.nilFunc] := nd (by kernel_rfl)
theorem us_105 : (Try.prog.underlying 105).isSome = true := nd (by kernel_rfl)
theorem row_106 : rowOf Try.prog 106 = some none := nd (by kernel_rfl)
theorem sz_106 : szOf Try.prog 106 = some 1 := nd (by kernel_rfl)
theorem by_106 : bytesA Try.prog 106 = some 8 := nd (by kernel_rfl)
theorem ze_106 : zeroOf Try.prog 106 = some #[.nilFunc] := nd (by kernel_rfl)
theorem us_106 : (Try.prog.underlying 106).isSome = true := nd (by kernel_rfl)
theorem row_107 : rowOf Try.prog 107 = some (some 2) := nd (by kernel_rfl)
theorem sz_107 : szOf Try.prog 107 = some 2 := nd (by kernel_rfl)
theorem by_107 : bytesA Try.prog 107 = some 2 := nd (by kernel_rfl)
theorem ze_107 : zeroOf Try.prog 107 = some #[(.bool false), (.bool false)] := nd (by kernel_rfl)
theorem us_107 : (Try.prog.underlying 107).isSome = true := nd (by kernel_rfl)
theorem ar_107 : arrOf Try.prog 107 = some (2, 1, none) := nd (by kernel_rfl)
theorem row_108 : rowOf Try.prog 108 = some none := nd (by kernel_rfl)
theorem sz_108 : szOf Try.prog 108 = some 1 := nd (by kernel_rfl)
theorem by_108 : bytesA Try.prog 108 = some 8 := nd (by kernel_rfl)
theorem ze_108 : zeroOf Try.prog 108 = some #[(.int .u64 0)] := nd (by kernel_rfl)
theorem us_108 : (Try.prog.underlying 108).isSome = true := nd (by kernel_rfl)
theorem un_108 : Try.prog.underlying 108 = some (.int .u64) := nd (by kernel_rfl)
theorem row_109 : rowOf Try.prog 109 = some none := nd (by kernel_rfl)
theorem sz_109 : szOf Try.prog 109 = some 1 := nd (by kernel_rfl)
theorem by_109 : bytesA Try.prog 109 = some 8 := nd (by kernel_rfl)
theorem ze_109 : zeroOf Try.prog 109 = some #[.nilFunc] := nd (by kernel_rfl)
theorem us_109 : (Try.prog.underlying 109).isSome = true := nd (by kernel_rfl)
theorem row_110 : rowOf Try.prog 110 = some none := nd (by kernel_rfl)
theorem sz_110 : szOf Try.prog 110 = some 1 := nd (by kernel_rfl)
theorem by_110 : bytesA Try.prog 110 = some 8 := nd (by kernel_rfl)
theorem ze_110 : zeroOf Try.prog 110 = some #[.nilFunc] := nd (by kernel_rfl)
theorem us_110 : (Try.prog.underlying 110).isSome = true := nd (by kernel_rfl)
theorem row_111 : rowOf Try.prog 111 = some none := nd (by kernel_rfl)
theorem sz_111 : szOf Try.prog 111 = some 1 := nd (by kernel_rfl)
theorem by_111 : bytesA Try.prog 111 = some 8 := nd (by kernel_rfl)
theorem ze_111 : zeroOf Try.prog 111 = some #[.nilFunc] := nd (by kernel_rfl)
theorem us_111 : (Try.prog.underlying 111).isSome = true := nd (by kernel_rfl)
theorem row_112 : rowOf Try.prog 112 = some none := nd (by kernel_rfl)
theorem sz_112 : szOf Try.prog 112 = some 1 := nd (by kernel_rfl)
theorem by_112 : bytesA Try.prog 112 = some 8 := nd (by kernel_rfl)
theorem ze_112 : zeroOf Try.prog 112 = some #[.nilFunc] := nd (by kernel_rfl)
theorem us_112 : (Try.prog.underlying 112).isSome = true := nd (by kernel_rfl)
theorem row_113 : rowOf Try.prog 113 = some (some 5) := nd (by kernel_rfl)
theorem sz_113 : szOf Try.prog 113 = some 5 := nd (by kernel_rfl)
theorem by_113 : bytesA Try.prog 113 = some 5 := nd (by kernel_rfl)
theorem ze_113 : zeroOf Try.prog 113 = some #[(.bool false), (.bool false), (.bool false), (.bool false), (.bool false)] := nd (by kernel_rfl)
theorem us_113 : (Try.prog.underlying 113).isSome = true := nd (by kernel_rfl)
theorem fo_113_0 : fieldOff Try.prog 113 0 = some 0 := nd (by kernel_rfl)
theorem fr_113_0 : fieldRow Try.prog 113 0 = some (0, none) := nd (by kernel_rfl)
theorem fo_113_1 : fieldOff Try.prog 113 1 = some 1 := nd (by kernel_rfl)
theorem fr_113_1 : fieldRow Try.prog 113 1 = some (1, some 4) := nd (by kernel_rfl)
theorem row_114 : rowOf Try.prog 114 = some (some 5) := nd (by kernel_rfl)
theorem sz_114 : szOf Try.prog 114 = some 5 := nd (by kernel_rfl)
theorem by_114 : bytesA Try.prog 114 = some 5 := nd (by kernel_rfl)
theorem ze_114 : zeroOf Try.prog 114 = some #[(.bool false), (.bool false), (.bool false), (.bool false), (.bool false)] := nd (by kernel_rfl)
theorem us_114 : (Try.prog.underlying 114).isSome = true := nd (by kernel_rfl)
theorem fo_114_0 : fieldOff Try.prog 114 0 = some 0 := nd (by kernel_rfl)
theorem fr_114_0 : fieldRow Try.prog 114 0 = some (0, none) := nd (by kernel_rfl)
theorem fo_114_1 : fieldOff Try.prog 114 1 = some 1 := nd (by kernel_rfl)
theorem fr_114_1 : fieldRow Try.prog 114 1 = some (1, some 4) := nd (by kernel_rfl)
theorem row_115 : rowOf Try.prog 115 = some (some 10) := nd (by kernel_rfl)
theorem sz_115 : szOf Try.prog 115 = some 10 := nd (by kernel_rfl)
theorem by_115 : bytesA Try.prog 115 = some 10 := nd (by kernel_rfl)
theorem ze_115 : zeroOf Try.prog 115 = some #[(.bool false), (.bool false), (.bool false), (.bool false), (.bool false), (.bool false), (.bool false), (.bool false), (.bool false), (.bool false)] := nd (by kernel_rfl)
theorem us_115 : (Try.prog.underlying 115).isSome = true := nd (by kernel_rfl)
theorem ar_115 : arrOf Try.prog 115 = some (2, 5, some 5) := nd (by kernel_rfl)
theorem row_117 : rowOf Try.prog 117 = some none := nd (by kernel_rfl)
theorem sz_117 : szOf Try.prog 117 = some 1 := nd (by kernel_rfl)
theorem by_117 : bytesA Try.prog 117 = some 8 := nd (by kernel_rfl)
theorem ze_117 : zeroOf Try.prog 117 = some #[.nilFunc] := nd (by kernel_rfl)
theorem us_117 : (Try.prog.underlying 117).isSome = true := nd (by kernel_rfl)
theorem row_118 : rowOf Try.prog 118 = some none := nd (by kernel_rfl)
theorem sz_118 : szOf Try.prog 118 = some 1 := nd (by kernel_rfl)
theorem by_118 : bytesA Try.prog 118 = some 8 := nd (by kernel_rfl)
theorem ze_118 : zeroOf Try.prog 118 = some #[.nilFunc] := nd (by kernel_rfl)
theorem us_118 : (Try.prog.underlying 118).isSome = true := nd (by kernel_rfl)
theorem row_119 : rowOf Try.prog 119 = some none := nd (by kernel_rfl)
theorem sz_119 : szOf Try.prog 119 = some 1 := nd (by kernel_rfl)
theorem by_119 : bytesA Try.prog 119 = some 8 := nd (by kernel_rfl)
theorem ze_119 : zeroOf Try.prog 119 = some #[.nilFunc] := nd (by kernel_rfl)
theorem us_119 : (Try.prog.underlying 119).isSome = true := nd (by kernel_rfl)
theorem row_120 : rowOf Try.prog 120 = some none := nd (by kernel_rfl)
theorem sz_120 : szOf Try.prog 120 = some 1 := nd (by kernel_rfl)
theorem by_120 : bytesA Try.prog 120 = some 8 := nd (by kernel_rfl)
theorem ze_120 : zeroOf Try.prog 120 = some #[.nilFunc] := nd (by kernel_rfl)
theorem us_120 : (Try.prog.underlying 120).isSome = true := nd (by kernel_rfl)
theorem row_121 : rowOf Try.prog 121 = some none := nd (by kernel_rfl)
theorem sz_121 : szOf Try.prog 121 = some 1 := nd (by kernel_rfl)
theorem by_121 : bytesA Try.prog 121 = some 8 := nd (by kernel_rfl)
theorem ze_121 : zeroOf Try.prog 121 = some #[.nilFunc] := nd (by kernel_rfl)
theorem us_121 : (Try.prog.underlying 121).isSome = true := nd (by kernel_rfl)
theorem row_123 : rowOf Try.prog 123 = some none := nd (by kernel_rfl)
theorem sz_123 : szOf Try.prog 123 = some 1 := nd (by kernel_rfl)
theorem by_123 : bytesA Try.prog 123 = some 8 := nd (by kernel_rfl)
theorem ze_123 : zeroOf Try.prog 123 = some #[.nilFunc] := nd (by kernel_rfl)
theorem us_123 : (Try.prog.underlying 123).isSome = true := nd (by kernel_rfl)
theorem row_124 : rowOf Try.prog 124 = some none := nd (by kernel_rfl)
theorem sz_124 : szOf Try.prog 124 = some 1 := nd (by kernel_rfl)
theorem by_124 : bytesA Try.prog 124 = some 8 := nd (by kernel_rfl)
theorem ze_124 : zeroOf Try.prog 124 = some #[.nilFunc] := nd (by kernel_rfl)
theorem us_124 : (Try.prog.underlying 124).isSome = true := nd (by kernel_rfl)
theorem row_125 : rowOf Try.prog 125 = some none := nd (by kernel_rfl)
theorem sz_125 : szOf Try.prog 125 = some 1 := nd (by kernel_rfl)
theorem by_125 : bytesA Try.prog 125 = some 8 := nd (by kernel_rfl)
theorem ze_125 : zeroOf Try.prog 125 = some #[.nilFunc] := nd (by kernel_rfl)
theorem us_125 : (Try.prog.underlying 125).isSome = true := nd (by kernel_rfl)
theorem row_126 : rowOf Try.prog 126 = some none := nd (by kernel_rfl)
theorem sz_126 : szOf Try.prog 126 = some 1 := nd (by kernel_rfl)
theorem by_126 : bytesA Try.prog 126 = some 8 := nd (by kernel_rfl)
theorem ze_126 : zeroOf Try.prog 126 = some #[.nilFunc] := nd (by kernel_rfl)
theorem us_126 : (Try.prog.underlying 126).isSome = true := nd (by kernel_rfl)
theorem row_127 : rowOf Try.prog 127 = some none := nd (by kernel_rfl)
theorem sz_127 : szOf Try.prog 127 = some 1 := nd (by kernel_rfl)
theorem by_127 : bytesA Try.prog 127 = some 8 := nd (by kernel_rfl)
theorem ze_127 : zeroOf Try.prog 127 = some #[.nilFunc] := nd (by kernel_rfl)
theorem us_127 : (Try.prog.underlying 127).isSome = true := nd (by kernel_rfl)
theorem row_128 : rowOf Try.prog 128 = some none := nd (by kernel_rfl)
theorem sz_128 : szOf Try.prog 128 = some 1 := nd (by kernel_rfl)
theorem by_128 : bytesA Try.prog 128 = some 8 := nd (by kernel_rfl)
theorem ze_128 : zeroOf Try.prog 128 = some #[.nilFunc] := nd (by kernel_rfl)
theorem us_128 : (Try.prog.underlying 128).isSome = true := nd (by kernel_rfl)
theorem row_129 : rowOf Try.prog 129 = some none := nd (by kernel_rfl)
theorem sz_129 : szOf Try.prog 129 = some 1 := nd (by kernel_rfl)
theorem by_129 : bytesA Try.prog 129 = some 24 := nd (by kernel_rfl)
theorem ze_129 : zeroOf Try.prog 129 = some #[(.slice none 0 0)] := nd (by kernel_rfl)
theorem us_129 : (Try.prog.underlying 129).isSome = true := nd (by kernel_rfl)
theorem sl_129 : slOf Try.prog 129 = some (4, 1) := nd (by kernel_rfl)
theorem isl_129 : isSlT Try.prog 129 = true := nd (by kernel_rfl)
theorem row_130 : rowOf Try.prog 130 = some none := nd (by kernel_rfl)
theorem sz_130 : szOf Try.prog 130 = some 1 := nd (by kernel_rfl)
theorem by_130 : bytesA Try.prog 130 = some 8 := nd (by kernel_rfl)
theorem ze_130 : zeroOf Try.prog 130 = some #[.nilFunc] := nd (by kernel_rfl)
theorem us_130 : (Try.prog.underlying 130).isSome = true := nd (by kernel_rfl)
theorem row_131 : rowOf Try.prog 131 = some none := nd (by kernel_rfl)
theorem sz_131 : szOf Try.prog 131 = some 1 := nd (by kernel_rfl)
theorem by_131 : bytesA Try.prog 131 = some 8 := nd (by kernel_rfl)
theorem ze_131 : zeroOf Try.prog 131 = some #[.nilFunc] := nd (by kernel_rfl)
theorem us_131 : (Try.prog.underlying 131).isSome = true := nd (by kernel_rfl)
theorem row_132 : rowOf Try.prog 132 = some (some 4) := nd (by kernel_rfl)
theorem sz_132 : szOf Try.prog 132 = some 4 := nd (by kernel_rfl)
theorem by_132 : bytesA Try.prog 132 = some 40 := nd (by kernel_rfl)
theorem ze_132 : zeroOf Try.prog 132 = some #[(.pointer none), (.pointer none), (.pointer none), (.string ⟨#[]⟩)] := nd (by kernel_rfl)
theorem us_132 : (Try.prog.underlying 132).isSome = true := nd (by kernel_rfl)
theorem fo_132_0 : fieldOff Try.prog 132 0 = some 0 := nd (by kernel_rfl)
theorem fr_132_0 : fieldRow Try.prog 132 0 = some (0, none) := nd (by kernel_rfl)
theorem fo_132_1 : fieldOff Try.prog 132 1 = some 1 := nd (by kernel_rfl)
theorem fr_132_1 : fieldRow Try.prog 132 1 = some (1, none) := nd (by kernel_rfl)
theorem fo_132_2 : fieldOff Try.prog 132 2 = some 2 := nd (by kernel_rfl)
theorem fr_132_2 : fieldRow Try.prog 132 2 = some (2, none) := nd (by kernel_rfl)
theorem fo_132_3 : fieldOff Try.prog 132 3 = some 3 := nd (by kernel_rfl)
theorem fr_132_3 : fieldRow Try.prog 132 3 = some (3, none) := nd (by kernel_rfl)
theorem row_133 : rowOf Try.prog 133 = some (some 4) := nd (by kernel_rfl)
theorem sz_133 : szOf Try.prog 133 = some 4 := nd (by kernel_rfl)
theorem by_133 : bytesA Try.prog 133 = some 40 := nd (by kernel_rfl)
theorem ze_133 : zeroOf Try.prog 133 = some #[(.pointer none), (.pointer none), (.pointer none), (.string ⟨#[]⟩)] := nd (by kernel_rfl)
theorem us_133 : (Try.prog.underlying 133).isSome = true := nd (by kernel_rfl)
theorem fo_133_0 : fieldOff Try.prog 133 0 = some 0 := nd (by kernel_rfl)
theorem fr_133_0 : fieldRow Try.prog 133 0 = some (0, none) := nd (by kernel_rfl)
theorem fo_133_1 : fieldOff Try.prog 133 1 = some 1 := nd (by kernel_rfl)
theorem fr_133_1 : fieldRow Try.prog 133 1 = some (1, none) := nd (by kernel_rfl)
theorem fo_133_2 : fieldOff Try.prog 133 2 = some 2 := nd (by kernel_rfl)
theorem fr_133_2 : fieldRow Try.prog 133 2 = some (2, none) := nd (by kernel_rfl)
theorem fo_133_3 : fieldOff Try.prog 133 3 = some 3 := nd (by kernel_rfl)
theorem fr_133_3 : fieldRow Try.prog 133 3 = some (3, none) := nd (by kernel_rfl)
theorem row_134 : rowOf Try.prog 134 = some (some 0) := nd (by kernel_rfl)
theorem sz_134 : szOf Try.prog 134 = some 0 := nd (by kernel_rfl)
theorem by_134 : bytesA Try.prog 134 = some 0 := nd (by kernel_rfl)
theorem ze_134 : zeroOf Try.prog 134 = some #[] := nd (by kernel_rfl)
theorem us_134 : (Try.prog.underlying 134).isSome = true := nd (by kernel_rfl)
theorem ar_134 : arrOf Try.prog 134 = some (0, 1, none) := nd (by kernel_rfl)
theorem row_135 : rowOf Try.prog 135 = some (some 0) := nd (by kernel_rfl)
theorem sz_135 : szOf Try.prog 135 = some 0 := nd (by kernel_rfl)
theorem by_135 : bytesA Try.prog 135 = some 0 := nd (by kernel_rfl)
theorem ze_135 : zeroOf Try.prog 135 = some #[] := nd (by kernel_rfl)
theorem us_135 : (Try.prog.underlying 135).isSome = true := nd (by kernel_rfl)
theorem row_136 : rowOf Try.prog 136 = some (some 0) := nd (by kernel_rfl)
theorem sz_136 : szOf Try.prog 136 = some 0 := nd (by kernel_rfl)
theorem by_136 : bytesA Try.prog 136 = some 0 := nd (by kernel_rfl)
theorem ze_136 : zeroOf Try.prog 136 = some #[] := nd (by kernel_rfl)
theorem us_136 : (Try.prog.underlying 136).isSome = true := nd (by kernel_rfl)
theorem row_137 : rowOf Try.prog 137 = some none := nd (by kernel_rfl)
theorem sz_137 : szOf Try.prog 137 = some 1 := nd (by kernel_rfl)
theorem by_137 : bytesA Try.prog 137 = some 4 := nd (by kernel_rfl)
theorem ze_137 : zeroOf Try.prog 137 = some #[(.int .u32 0)] := nd (by kernel_rfl)
theorem us_137 : (Try.prog.underlying 137).isSome = true := nd (by kernel_rfl)
theorem un_137 : Try.prog.underlying 137 = some (.int .u32) := nd (by kernel_rfl)
theorem row_138 : rowOf Try.prog 138 = some none := nd (by kernel_rfl)
theorem sz_138 : szOf Try.prog 138 = some 1 := nd (by kernel_rfl)
theorem by_138 : bytesA Try.prog 138 = some 1 := nd (by kernel_rfl)
theorem ze_138 : zeroOf Try.prog 138 = some #[(.int .u8 0)] := nd (by kernel_rfl)
theorem us_138 : (Try.prog.underlying 138).isSome = true := nd (by kernel_rfl)
theorem un_138 : Try.prog.underlying 138 = some (.int .u8) := nd (by kernel_rfl)
theorem row_139 : rowOf Try.prog 139 = some none := nd (by kernel_rfl)
theorem sz_139 : szOf Try.prog 139 = some 1 := nd (by kernel_rfl)
theorem by_139 : bytesA Try.prog 139 = some 1 := nd (by kernel_rfl)
theorem ze_139 : zeroOf Try.prog 139 = some #[(.int .u8 0)] := nd (by kernel_rfl)
theorem us_139 : (Try.prog.underlying 139).isSome = true := nd (by kernel_rfl)
theorem un_139 : Try.prog.underlying 139 = some (.int .u8) := nd (by kernel_rfl)
theorem row_140 : rowOf Try.prog 140 = some none := nd (by kernel_rfl)
theorem sz_140 : szOf Try.prog 140 = some 1 := nd (by kernel_rfl)
theorem by_140 : bytesA Try.prog 140 = some 8 := nd (by kernel_rfl)
theorem ze_140 : zeroOf Try.prog 140 = some #[.nilFunc] := nd (by kernel_rfl)
theorem us_140 : (Try.prog.underlying 140).isSome = true := nd (by kernel_rfl)
theorem row_141 : rowOf Try.prog 141 = some none := nd (by kernel_rfl)
theorem sz_141 : szOf Try.prog 141 = some 1 := nd (by kernel_rfl)
theorem by_141 : bytesA Try.prog 141 = some 8 := nd (by kernel_rfl)
theorem ze_141 : zeroOf Try.prog 141 = some #[(.pointer none)] := nd (by kernel_rfl)
theorem us_141 : (Try.prog.underlying 141).isSome = true := nd (by kernel_rfl)
theorem ip_141 : isPtr Try.prog 141 = true := nd (by kernel_rfl)
theorem row_142 : rowOf Try.prog 142 = some none := nd (by kernel_rfl)
theorem sz_142 : szOf Try.prog 142 = some 1 := nd (by kernel_rfl)
theorem by_142 : bytesA Try.prog 142 = some 4 := nd (by kernel_rfl)
theorem ze_142 : zeroOf Try.prog 142 = some #[(.int .i32 0)] := nd (by kernel_rfl)
theorem us_142 : (Try.prog.underlying 142).isSome = true := nd (by kernel_rfl)
theorem un_142 : Try.prog.underlying 142 = some (.int .i32) := nd (by kernel_rfl)
theorem row_143 : rowOf Try.prog 143 = some none := nd (by kernel_rfl)
theorem sz_143 : szOf Try.prog 143 = some 1 := nd (by kernel_rfl)
theorem by_143 : bytesA Try.prog 143 = some 4 := nd (by kernel_rfl)
theorem ze_143 : zeroOf Try.prog 143 = some #[(.int .i32 0)] := nd (by kernel_rfl)
theorem us_143 : (Try.prog.underlying 143).isSome = true := nd (by kernel_rfl)
theorem un_143 : Try.prog.underlying 143 = some (.int .i32) := nd (by kernel_rfl)
theorem row_144 : rowOf Try.prog 144 = some (some 11) := nd (by kernel_rfl)
theorem sz_144 : szOf Try.prog 144 = some 11 := nd (by kernel_rfl)
theorem by_144 : bytesA Try.prog 144 = some 48 := nd (by kernel_rfl)
theorem ze_144 : zeroOf Try.prog 144 = some #[(.int .u64 0), (.int .u64 0), (.int .u32 0), (.int .u8 0), (.int .u8 0), (.int .u8 0), (.int .u8 0), .nilFunc, (.pointer none), (.int .i32 0), (.int .i32 0)] := nd (by kernel_rfl)
theorem us_144 : (Try.prog.underlying 144).isSome = true := nd (by kernel_rfl)
theorem fo_144_0 : fieldOff Try.prog 144 0 = some 0 := nd (by kernel_rfl)
theorem fr_144_0 : fieldRow Try.prog 144 0 = some (0, none) := nd (by kernel_rfl)
theorem fo_144_1 : fieldOff Try.prog 144 1 = some 1 := nd (by kernel_rfl)
theorem fr_144_1 : fieldRow Try.prog 144 1 = some (1, none) := nd (by kernel_rfl)
theorem fo_144_2 : fieldOff Try.prog 144 2 = some 2 := nd (by kernel_rfl)
theorem fr_144_2 : fieldRow Try.prog 144 2 = some (2, none) := nd (by kernel_rfl)
theorem fo_144_3 : fieldOff Try.prog 144 3 = some 3 := nd (by kernel_rfl)
theorem fr_144_3 : fieldRow Try.prog 144 3 = some (3, none) := nd (by kernel_rfl)
theorem fo_144_4 : fieldOff Try.prog 144 4 = some 4 := nd (by kernel_rfl)
theorem fr_144_4 : fieldRow Try.prog 144 4 = some (4, none) := nd (by kernel_rfl)
theorem fo_144_5 : fieldOff Try.prog 144 5 = some 5 := nd (by kernel_rfl)
theorem fr_144_5 : fieldRow Try.prog 144 5 = some (5, none) := nd (by kernel_rfl)
theorem fo_144_6 : fieldOff Try.prog 144 6 = some 6 := nd (by kernel_rfl)
theorem fr_144_6 : fieldRow Try.prog 144 6 = some (6, none) := nd (by kernel_rfl)
theorem fo_144_7 : fieldOff Try.prog 144 7 = some 7 := nd (by kernel_rfl)
theorem fr_144_7 : fieldRow Try.prog 144 7 = some (7, none) := nd (by kernel_rfl)
theorem fo_144_8 : fieldOff Try.prog 144 8 = some 8 := nd (by kernel_rfl)
theorem fr_144_8 : fieldRow Try.prog 144 8 = some (8, none) := nd (by kernel_rfl)
theorem fo_144_9 : fieldOff Try.prog 144 9 = some 9 := nd (by kernel_rfl)
theorem fr_144_9 : fieldRow Try.prog 144 9 = some (9, none) := nd (by kernel_rfl)
theorem fo_144_10 : fieldOff Try.prog 144 10 = some 10 := nd (by kernel_rfl)
theorem fr_144_10 : fieldRow Try.prog 144 10 = some (10, none) := nd (by kernel_rfl)
theorem row_145 : rowOf Try.prog 145 = some (some 11) := nd (by kernel_rfl)
theorem sz_145 : szOf Try.prog 145 = some 11 := nd (by kernel_rfl)
theorem by_145 : bytesA Try.prog 145 = some 48 := nd (by kernel_rfl)
theorem ze_145 : zeroOf Try.prog 145 = some #[(.int .u64 0), (.int .u64 0), (.int .u32 0), (.int .u8 0), (.int .u8 0), (.int .u8 0), (.int .u8 0), .nilFunc, (.pointer none), (.int .i32 0), (.int .i32 0)] := nd (by kernel_rfl)
theorem us_145 : (Try.prog.underlying 145).isSome = true := nd (by kernel_rfl)
theorem fo_145_0 : fieldOff Try.prog 145 0 = some 0 := nd (by kernel_rfl)
theorem fr_145_0 : fieldRow Try.prog 145 0 = some (0, none) := nd (by kernel_rfl)
theorem fo_145_1 : fieldOff Try.prog 145 1 = some 1 := nd (by kernel_rfl)
theorem fr_145_1 : fieldRow Try.prog 145 1 = some (1, none) := nd (by kernel_rfl)
theorem fo_145_2 : fieldOff Try.prog 145 2 = some 2 := nd (by kernel_rfl)
theorem fr_145_2 : fieldRow Try.prog 145 2 = some (2, none) := nd (by kernel_rfl)
theorem fo_145_3 : fieldOff Try.prog 145 3 = some 3 := nd (by kernel_rfl)
theorem fr_145_3 : fieldRow Try.prog 145 3 = some (3, none) := nd (by kernel_rfl)
theorem fo_145_4 : fieldOff Try.prog 145 4 = some 4 := nd (by kernel_rfl)
theorem fr_145_4 : fieldRow Try.prog 145 4 = some (4, none) := nd (by kernel_rfl)
theorem fo_145_5 : fieldOff Try.prog 145 5 = some 5 := nd (by kernel_rfl)
theorem fr_145_5 : fieldRow Try.prog 145 5 = some (5, none) := nd (by kernel_rfl)
theorem fo_145_6 : fieldOff Try.prog 145 6 = some 6 := nd (by kernel_rfl)
theorem fr_145_6 : fieldRow Try.prog 145 6 = some (6, none) := nd (by kernel_rfl)
theorem fo_145_7 : fieldOff Try.prog 145 7 = some 7 := nd (by kernel_rfl)
theorem fr_145_7 : fieldRow Try.prog 145 7 = some (7, none) := nd (by kernel_rfl)
theorem fo_145_8 : fieldOff Try.prog 145 8 = some 8 := nd (by kernel_rfl)
theorem fr_145_8 : fieldRow Try.prog 145 8 = some (8, none) := nd (by kernel_rfl)
theorem fo_145_9 : fieldOff Try.prog 145 9 = some 9 := nd (by kernel_rfl)
theorem fr_145_9 : fieldRow Try.prog 145 9 = some (9, none) := nd (by kernel_rfl)
theorem fo_145_10 : fieldOff Try.prog 145 10 = some 10 := nd (by kernel_rfl)
theorem fr_145_10 : fieldRow Try.prog 145 10 = some (10, none) := nd (by kernel_rfl)
theorem row_146 : rowOf Try.prog 146 = some none := nd (by kernel_rfl)
theorem sz_146 : szOf Try.prog 146 = some 1 := nd (by kernel_rfl)
theorem by_146 : bytesA Try.prog 146 = some 8 := nd (by kernel_rfl)
theorem ze_146 : zeroOf Try.prog 146 = some #[(.pointer none)] := nd (by kernel_rfl)
theorem us_146 : (Try.prog.underlying 146).isSome = true := nd (by kernel_rfl)
theorem bd_7 : ∀ parts : List (Nat × Value), Try.prog.built 7 parts = bld #[(.int .i64 0), (.int .i64 0), (.bool false), (.int .u8 0)] [(0, 1), (1, 1), (2, 1), (3, 1)] parts := built_bld ze_7 (by kernel_rfl) (by kernel_rfl)
theorem bd_8 : ∀ parts : List (Nat × Value), Try.prog.built 8 parts = bld #[(.int .i64 0), (.int .i64 0), (.bool false), (.int .u8 0)] [(0, 1), (1, 1), (2, 1), (3, 1)] parts := built_bld ze_8 (by kernel_rfl) (by kernel_rfl)
theorem bd_13 : ∀ parts : List (Nat × Value), Try.prog.built 13 parts = bld #[(.string ⟨#[]⟩), (.int .u64 0)] [(0, 1), (1, 1)] parts := built_bld ze_13 (by kernel_rfl) (by kernel_rfl)
theorem bd_14 : ∀ parts : List (Nat × Value), Try.prog.built 14 parts = bld #[(.string ⟨#[]⟩), (.int .u64 0)] [(0, 1), (1, 1)] parts := built_bld ze_14 (by kernel_rfl) (by kernel_rfl)
theorem bd_18 : ∀ parts : List (Nat × Value), Try.prog.built 18 parts = bld #[(.pointer none)] [(0, 1)] parts := built_bld ze_18 (by kernel_rfl) (by kernel_rfl)
theorem bd_19 : ∀ parts : List (Nat × Value), Try.prog.built 19 parts = bld #[(.pointer none)] [(0, 1)] parts := built_bld ze_19 (by kernel_rfl) (by kernel_rfl)
theorem bd_24 : ∀ parts : List (Nat × Value), Try.prog.built 24 parts = bld #[(.bool false), (.int .i64 0), (.int .i64 0)] [(0, 1), (1, 1), (2, 1)] parts := built_bld ze_24 (by kernel_rfl) (by kernel_rfl)
theorem bd_25 : ∀ parts : List (Nat × Value), Try.prog.built 25 parts = bld #[(.bool false), (.int .i64 0), (.int .i64 0)] [(0, 1), (1, 1), (2, 1)] parts := built_bld ze_25 (by kernel_rfl) (by kernel_rfl)
theorem bd_30 : ∀ parts : List (Nat × Value), Try.prog.built 30 parts = bld #[(.int .i64 0), (.int .i64 0), (.int .i64 0), (.int .i64 0), (.int .i64 0), (.int .i64 0), (.int .i64 0), (.bool false)] [(0, 1), (1, 1), (2, 1), (3, 1), (4, 1), (5, 1), (6, 1), (7, 1)] parts := built_bld ze_30 (by kernel_rfl) (by kernel_rfl)
theorem bd_31 : ∀ parts : List (Nat × Value), Try.prog.built 31 parts = bld #[(.int .i64 0), (.int .i64 0), (.int .i64 0), (.int .i64 0), (.int .i64 0), (.int .i64 0), (.int .i64 0), (.bool false)] [(0, 1), (1, 1), (2, 1), (3, 1), (4, 1), (5, 1), (6, 1), (7, 1)] parts := built_bld ze_31 (by kernel_rfl) (by kernel_rfl)
theorem bd_36 : ∀ parts : List (Nat × Value), Try.prog.built 36 parts = bld #[(.int .u8 0), (.bool false), (.int .i64 0)] [(0, 1), (1, 1), (2, 1)] parts := built_bld ze_36 (by kernel_rfl) (by kernel_rfl)
theorem bd_37 : ∀ parts : List (Nat × Value), Try.prog.built 37 parts = bld #[(.int .u8 0), (.bool false), (.int .i64 0)] [(0, 1), (1, 1), (2, 1)] parts := built_bld ze_37 (by kernel_rfl) (by kernel_rfl)
theorem bd_38 : ∀ parts : List (Nat × Value), Try.prog.built 38 parts = bld (List.replicate 1 ((.int .u8 0) : Value) ++ List.replicate 1 ((.bool false) : Value) ++ List.replicate 1 ((.int .i64 0) : Value) ++ List.replicate 1 ((.int .u8 0) : Value) ++ List.replicate 1 ((.bool false) : Value) ++ List.replicate 1 ((.int .i64 0) : Value) ++ List.replicate 1 ((.int .u8 0) : Value) ++ List.replicate 1 ((.bool false) : Value) ++ List.replicate 1 ((.int .i64 0) : Value) ++ List.replicate 1 ((.int .u8 0) : Value) ++ List.replicate 1 ((.bool false) : Value) ++ List.replicate 1 ((.int .i64 0) : Value) ++ List.replicate 1 ((.int .u8 0) : Value) ++ List.replicate 1 ((.bool false) : Value) ++ List.replicate 1 ((.int .i64 0) : Value) ++ List.replicate 1 ((.int .u8 0) : Value) ++ List.replicate 1 ((.bool false) : Value) ++ List.replicate 1 ((.int .i64 0) : Value) ++ List.replicate 1 ((.int .u8 0) : Value) ++ List.replicate 1 ((.bool false) : Value) ++ List.replicate 1 ((.int .i64 0) : Value) ++ List.replicate 1 ((.int .u8 0) : Value) ++ List.replicate 1 ((.bool false) : Value) ++ List.replicate 1 ((.int .i64 0) : Value) ++ List.replicate 1 ((.int .u8 0) : Value) ++ List.replicate 1 ((.bool false) : Value) ++ List.replicate 1 ((.int .i64 0) : Value) ++ List.replicate 1 ((.int .u8 0) : Value) ++ List.replicate 1 ((.bool false) : Value) ++ List.replicate 1 ((.int .i64 0) : Value) ++ List.replicate 1 ((.int .u8 0) : Value) ++ List.replicate 1 ((.bool false) : Value) ++ List.replicate 1 ((.int .i64 0) : Value) ++ List.replicate 1 ((.int .u8 0) : Value) ++ List.replicate 1 ((.bool false) : Value) ++ List.replicate 1 ((.int .i64 0) : Value) ++ List.replicate 1 ((.int .u8 0) : Value) ++ List.replicate 1 ((.bool false) : Value) ++ List.replicate 1 ((.int .i64 0) : Value) ++ List.replicate 1 ((.int .u8 0) : Value) ++ List.replicate 1 ((.bool false) : Value) ++ List.replicate 1 ((.int .i64 0) : Value) ++ List.replicate 1 ((.int .u8 0) : Value) ++ List.replicate 1 ((.bool false) : Value) ++ List.replicate 1 ((.int .i64 0) : Value) ++ List.replicate 1 ((.int .u8 0) : Value) ++ List.replicate 1 ((.bool false) : Value) ++ List.replicate 1 ((.int .i64 0) : Value) ++ List.replicate 1 ((.int .u8 0) : Value) ++ List.replicate 1 ((.bool false) : Value) ++ List.replicate 1 ((.int .i64 0) : Value) ++ List.replicate 1 ((.int .u8 0) : Value) ++ List.replicate 1 ((.bool false) : Value) ++ List.replicate 1 ((.int .i64 0) : Value) ++ List.replicate 1 ((.int .u8 0) : Value) ++ List.replicate 1 ((.bool false) : Value) ++ List.replicate 1 ((.int .i64 0) : Value) ++ List.replicate 1 ((.int .u8 0) : Value) ++ List.replicate 1 ((.bool false) : Value) ++ List.replicate 1 ((.int .i64 0) : Value) ++ List.replicate 1 ((.int .u8 0) : Value) ++ List.replicate 1 ((.bool false) : Value) ++ List.replicate 1 ((.int .i64 0) : Value) ++ List.replicate 1 ((.int .u8 0) : Value) ++ List.replicate 1 ((.bool false) : Value) ++ List.replicate 1 ((.int .i64 0) : Value) ++ List.replicate 1 ((.int .u8 0) : Value) ++ List.replicate 1 ((.bool false) : Value) ++ List.replicate 1 ((.int .i64 0) : Value) ++ List.replicate 1 ((.int .u8 0) : Value) ++ List.replicate 1 ((.bool false) : Value) ++ List.replicate 1 ((.int .i64 0) : Value) ++ List.replicate 1 ((.int .u8 0) : Value) ++ List.replicate 1 ((.bool false) : Value) ++ List.replicate 1 ((.int .i64 0) : Value) ++ List.replicate 1 ((.int .u8 0) : Value) ++ List.replicate 1 ((.bool false) : Value) ++ List.replicate 1 ((.int .i64 0) : Value) ++ List.replicate 1 ((.int .u8 0) : Value) ++ List.replicate 1 ((.bool false) : Value) ++ List.replicate 1 ((.int .i64 0) : Value) ++ List.replicate 1 ((.int .u8 0) : Value) ++ List.replicate 1 ((.bool false) : Value) ++ List.replicate 1 ((.int .i64 0) : Value) ++ List.replicate 1 ((.int .u8 0) : Value) ++ List.replicate 1 ((.bool false) : Value) ++ List.replicate 1 ((.int .i64 0) : Value) ++ List.replicate 1 ((.int .u8 0) : Value) ++ List.replicate 1 ((.bool false) : Value) ++ List.replicate 1 ((.int .i64 0) : Value) ++ List.replicate 1 ((.int .u8 0) : Value) ++ List.replicate 1 ((.bool false) : Value) ++ List.replicate 1 ((.int .i64 0) : Value) ++ List.replicate 1 ((.int .u8 0) : Value) ++ List.replicate 1 ((.bool false) : Value) ++ List.replicate 1 ((.int .i64 0) : Value) ++ List.replicate 1 ((.int .u8 0) : Value) ++ List.replicate 1 ((.bool false) : Value) ++ List.replicate 1 ((.int .i64 0) : Value) ++ List.replicate 1 ((.int .u8 0) : Value) ++ List.replicate 1 ((.bool false) : Value) ++ List.replicate 1 ((.int .i64 0) : Value) ++ List.replicate 1 ((.int .u8 0) : Value) ++ List.replicate 1 ((.bool false) : Value) ++ List.replicate 1 ((.int .i64 0) : Value) ++ List.replicate 1 ((.int .u8 0) : Value) ++ List.replicate 1 ((.bool false) : Value) ++ List.replicate 1 ((.int .i64 0) : Value) ++ List.replicate 1 ((.int .u8 0) : Value) ++ List.replicate 1 ((.bool false) : Value) ++ List.replicate 1 ((.int .i64 0) : Value) ++ List.replicate 1 ((.int .u8 0) : Value) ++ List.replicate 1 ((.bool false) : Value) ++ List.replicate 1 ((.int .i64 0) : Value) ++ List.replicate 1 ((.int .u8 0) : Value) ++ List.replicate 1 ((.bool false) : Value) ++ List.replicate 1 ((.int .i64 0) : Value) ++ List.replicate 1 ((.int .u8 0) : Value) ++ List.replicate 1 ((.bool false) : Value) ++ List.replicate 1 ((.int .i64 0) : Value) ++ List.replicate 1 ((.int .u8 0) : Value) ++ List.replicate 1 ((.bool false) : Value) ++ List.replicate 1 ((.int .i64 0) : Value) ++ List.replicate 1 ((.int .u8 0) : Value) ++ List.replicate 1 ((.bool false) : Value) ++ List.replicate 1 ((.int .i64 0) : Value) ++ List.replicate 1 ((.int .u8 0) : Value) ++ List.replicate 1 ((.bool false) : Value) ++ List.replicate 1 ((.int .i64 0) : Value) ++ List.replicate 1 ((.int .u8 0) : Value) ++ List.replicate 1 ((.bool false) : Value) ++ List.replicate 1 ((.int .i64 0) : Value) ++ List.replicate 1 ((.int .u8 0) : Value) ++ List.replicate 1 ((.bool false) : Value) ++ List.replicate 1 ((.int .i64 0) : Value) ++ List.replicate 1 ((.int .u8 0) : Value) ++ List.replicate 1 ((.bool false) : Value) ++ List.replicate 1 ((.int .i64 0) : Value) ++ List.replicate 1 ((.int .u8 0) : Value) ++ List.replicate 1 ((.bool false) : Value) ++ List.replicate 1 ((.int .i64 0) : Value) ++ List.replicate 1 ((.int .u8 0) : Value) ++ List.replicate 1 ((.bool false) : Value) ++ List.replicate 1 ((.int .i64 0) : Value) ++ List.replicate 1 ((.int .u8 0) : Value) ++ List.replicate 1 ((.bool false) : Value) ++ List.replicate 1 ((.int .i64 0) : Value) ++ List.replicate 1 ((.int .u8 0) : Value) ++ List.replicate 1 ((.bool false) : Value) ++ List.replicate 1 ((.int .i64 0) : Value) ++ List.replicate 1 ((.int .u8 0) : Value) ++ List.replicate 1 ((.bool false) : Value) ++ List.replicate 1 ((.int .i64 0) : Value) ++ List.replicate 1 ((.int .u8 0) : Value) ++ List.replicate 1 ((.bool false) : Value) ++ List.replicate 1 ((.int .i64 0) : Value) ++ List.replicate 1 ((.int .u8 0) : Value) ++ List.replicate 1 ((.bool false) : Value) ++ List.replicate 1 ((.int .i64 0) : Value) ++ List.replicate 1 ((.int .u8 0) : Value) ++ List.replicate 1 ((.bool false) : Value) ++ List.replicate 1 ((.int .i64 0) : Value) ++ List.replicate 1 ((.int .u8 0) : Value) ++ List.replicate 1 ((.bool false) : Value) ++ List.replicate 1 ((.int .i64 0) : Value) ++ List.replicate 1 ((.int .u8 0) : Value) ++ List.replicate 1 ((.bool false) : Value) ++ List.replicate 1 ((.int .i64 0) : Value) ++ List.replicate 1 ((.int .u8 0) : Value) ++ List.replicate 1 ((.bool false) : Value) ++ List.replicate 1 ((.int .i64 0) : Value) ++ List.replicate 1 ((.int .u8 0) : Value) ++ List.replicate 1 ((.bool false) : Value) ++ List.replicate 1 ((.int .i64 0) : Value) ++ List.replicate 1 ((.int .u8 0) : Value) ++ List.replicate 1 ((.bool false) : Value) ++ List.replicate 1 ((.int .i64 0) : Value) ++ List.replicate 1 ((.int .u8 0) : Value) ++ List.replicate 1 ((.bool false) : Value) ++ List.replicate 1 ((.int .i64 0) : Value) ++ List.replicate 1 ((.int .u8 0) : Value) ++ List.replicate 1 ((.bool false) : Value) ++ List.replicate 1 ((.int .i64 0) : Value) ++ List.replicate 1 ((.int .u8 0) : Value) ++ List.replicate 1 ((.bool false) : Value) ++ List.replicate 1 ((.int .i64 0) : Value) ++ List.replicate 1 ((.int .u8 0) : Value) ++ List.replicate 1 ((.bool false) : Value) ++ List.replicate 1 ((.int .i64 0) : Value) ++ List.replicate 1 ((.int .u8 0) : Value) ++ List.replicate 1 ((.bool false) : Value) ++ List.replicate 1 ((.int .i64 0) : Value)).toArray [(0, 3), (3, 3), (6, 3), (9, 3), (12, 3), (15, 3), (18, 3), (21, 3), (24, 3), (27, 3), (30, 3), (33, 3), (36, 3), (39, 3), (42, 3), (45, 3), (48, 3), (51, 3), (54, 3), (57, 3), (60, 3), (63, 3), (66, 3), (69, 3), (72, 3), (75, 3), (78, 3), (81, 3), (84, 3), (87, 3), (90, 3), (93, 3), (96, 3), (99, 3), (102, 3), (105, 3), (108, 3), (111, 3), (114, 3), (117, 3), (120, 3), (123, 3), (126, 3), (129, 3), (132, 3), (135, 3), (138, 3), (141, 3), (144, 3), (147, 3), (150, 3), (153, 3), (156, 3), (159, 3), (162, 3), (165, 3), (168, 3), (171, 3), (174, 3), (177, 3), (180, 3), (183, 3), (186, 3), (189, 3)] parts := built_bld ze_38 (by kernel_rfl) (by kernel_rfl)
theorem bd_40 : ∀ parts : List (Nat × Value), Try.prog.built 40 parts = bld #[(.int .i64 0), (.int .i64 0), (.int .i64 0), (.slice none 0 0)] [(0, 1), (1, 1), (2, 1), (3, 1)] parts := built_bld ze_40 (by kernel_rfl) (by kernel_rfl)
theorem bd_41 : ∀ parts : List (Nat × Value), Try.prog.built 41 parts = bld #[(.int .i64 0), (.int .i64 0), (.int .i64 0), (.slice none 0 0)] [(0, 1), (1, 1), (2, 1), (3, 1)] parts := built_bld ze_41 (by kernel_rfl) (by kernel_rfl)
theorem bd_58 : ∀ parts : List (Nat × Value), Try.prog.built 58 parts = bld (List.replicate 64 ((.int .u8 0) : Value)).toArray [(0, 1), (1, 1), (2, 1), (3, 1), (4, 1), (5, 1), (6, 1), (7, 1), (8, 1), (9, 1), (10, 1), (11, 1), (12, 1), (13, 1), (14, 1), (15, 1), (16, 1), (17, 1), (18, 1), (19, 1), (20, 1), (21, 1), (22, 1), (23, 1), (24, 1), (25, 1), (26, 1), (27, 1), (28, 1), (29, 1), (30, 1), (31, 1), (32, 1), (33, 1), (34, 1), (35, 1), (36, 1), (37, 1), (38, 1), (39, 1), (40, 1), (41, 1), (42, 1), (43, 1), (44, 1), (45, 1), (46, 1), (47, 1), (48, 1), (49, 1), (50, 1), (51, 1), (52, 1), (53, 1), (54, 1), (55, 1), (56, 1), (57, 1), (58, 1), (59, 1), (60, 1), (61, 1), (62, 1), (63, 1)] parts := built_bld ze_58 (by kernel_rfl) (by kernel_rfl)
theorem bd_59 : ∀ parts : List (Nat × Value), Try.prog.built 59 parts = bld (List.replicate 64 ((.bool false) : Value)).toArray [(0, 1), (1, 1), (2, 1), (3, 1), (4, 1), (5, 1), (6, 1), (7, 1), (8, 1), (9, 1), (10, 1), (11, 1), (12, 1), (13, 1), (14, 1), (15, 1), (16, 1), (17, 1), (18, 1), (19, 1), (20, 1), (21, 1), (22, 1), (23, 1), (24, 1), (25, 1), (26, 1), (27, 1), (28, 1), (29, 1), (30, 1), (31, 1), (32, 1), (33, 1), (34, 1), (35, 1), (36, 1), (37, 1), (38, 1), (39, 1), (40, 1), (41, 1), (42, 1), (43, 1), (44, 1), (45, 1), (46, 1), (47, 1), (48, 1), (49, 1), (50, 1), (51, 1), (52, 1), (53, 1), (54, 1), (55, 1), (56, 1), (57, 1), (58, 1), (59, 1), (60, 1), (61, 1), (62, 1), (63, 1)] parts := built_bld ze_59 (by kernel_rfl) (by kernel_rfl)
theorem bd_60 : ∀ parts : List (Nat × Value), Try.prog.built 60 parts = bld (List.replicate 64 ((.int .i64 0) : Value)).toArray [(0, 1), (1, 1), (2, 1), (3, 1), (4, 1), (5, 1), (6, 1), (7, 1), (8, 1), (9, 1), (10, 1), (11, 1), (12, 1), (13, 1), (14, 1), (15, 1), (16, 1), (17, 1), (18, 1), (19, 1), (20, 1), (21, 1), (22, 1), (23, 1), (24, 1), (25, 1), (26, 1), (27, 1), (28, 1), (29, 1), (30, 1), (31, 1), (32, 1), (33, 1), (34, 1), (35, 1), (36, 1), (37, 1), (38, 1), (39, 1), (40, 1), (41, 1), (42, 1), (43, 1), (44, 1), (45, 1), (46, 1), (47, 1), (48, 1), (49, 1), (50, 1), (51, 1), (52, 1), (53, 1), (54, 1), (55, 1), (56, 1), (57, 1), (58, 1), (59, 1), (60, 1), (61, 1), (62, 1), (63, 1)] parts := built_bld ze_60 (by kernel_rfl) (by kernel_rfl)
theorem bd_61 : ∀ parts : List (Nat × Value), Try.prog.built 61 parts = bld (List.replicate 1 ((.bool false) : Value) ++ List.replicate 64 ((.int .u8 0) : Value) ++ List.replicate 64 ((.bool false) : Value) ++ List.replicate 64 ((.int .i64 0) : Value)).toArray [(0, 1), (1, 64), (65, 64), (129, 64)] parts := built_bld ze_61 (by kernel_rfl) (by kernel_rfl)
theorem bd_62 : ∀ parts : List (Nat × Value), Try.prog.built 62 parts = bld (List.replicate 1 ((.bool false) : Value) ++ List.replicate 64 ((.int .u8 0) : Value) ++ List.replicate 64 ((.bool false) : Value) ++ List.replicate 64 ((.int .i64 0) : Value)).toArray [(0, 1), (1, 64), (65, 64), (129, 64)] parts := built_bld ze_62 (by kernel_rfl) (by kernel_rfl)
theorem bd_70 : ∀ parts : List (Nat × Value), Try.prog.built 70 parts = bld #[(.int .i64 0), (.bool false), (.int .u8 0)] [(0, 1), (1, 1), (2, 1)] parts := built_bld ze_70 (by kernel_rfl) (by kernel_rfl)
theorem bd_71 : ∀ parts : List (Nat × Value), Try.prog.built 71 parts = bld #[(.int .i64 0), (.bool false), (.int .u8 0)] [(0, 1), (1, 1), (2, 1)] parts := built_bld ze_71 (by kernel_rfl) (by kernel_rfl)
theorem bd_72 : ∀ parts : List (Nat × Value), Try.prog.built 72 parts = bld #[(.int .i64 0), (.bool false), (.int .i64 0)] [(0, 1), (1, 1), (2, 1)] parts := built_bld ze_72 (by kernel_rfl) (by kernel_rfl)
theorem bd_73 : ∀ parts : List (Nat × Value), Try.prog.built 73 parts = bld #[(.int .i64 0), (.bool false), (.int .i64 0)] [(0, 1), (1, 1), (2, 1)] parts := built_bld ze_73 (by kernel_rfl) (by kernel_rfl)
theorem bd_74 : ∀ parts : List (Nat × Value), Try.prog.built 74 parts = bld #[(.int .i64 0), (.int .i64 0)] [(0, 1), (1, 1)] parts := built_bld ze_74 (by kernel_rfl) (by kernel_rfl)
theorem bd_75 : ∀ parts : List (Nat × Value), Try.prog.built 75 parts = bld #[(.bool false), (.bool false), (.bool false), (.bool false)] [(0, 1), (1, 1), (2, 1), (3, 1)] parts := built_bld ze_75 (by kernel_rfl) (by kernel_rfl)
theorem bd_83 : ∀ parts : List (Nat × Value), Try.prog.built 83 parts = bld #[(.bool false), (.slice none 0 0)] [(0, 1), (1, 1)] parts := built_bld ze_83 (by kernel_rfl) (by kernel_rfl)
theorem bd_84 : ∀ parts : List (Nat × Value), Try.prog.built 84 parts = bld #[(.bool false), (.slice none 0 0)] [(0, 1), (1, 1)] parts := built_bld ze_84 (by kernel_rfl) (by kernel_rfl)
theorem bd_86 : ∀ parts : List (Nat × Value), Try.prog.built 86 parts = bld #[(.slice none 0 0), (.slice none 0 0)] [(0, 1), (1, 1)] parts := built_bld ze_86 (by kernel_rfl) (by kernel_rfl)
theorem bd_87 : ∀ parts : List (Nat × Value), Try.prog.built 87 parts = bld #[(.int .i64 0), (.slice none 0 0), (.slice none 0 0)] [(0, 1), (1, 2)] parts := built_bld ze_87 (by kernel_rfl) (by kernel_rfl)
theorem bd_88 : ∀ parts : List (Nat × Value), Try.prog.built 88 parts = bld #[(.int .i64 0), (.slice none 0 0), (.slice none 0 0)] [(0, 1), (1, 2)] parts := built_bld ze_88 (by kernel_rfl) (by kernel_rfl)
theorem bd_97 : ∀ parts : List (Nat × Value), Try.prog.built 97 parts = bld #[(.int .i64 0), (.int .i64 0), (.int .i64 0), (.int .i64 0), (.int .i64 0), (.int .i64 0), (.int .i64 0), (.bool false)] [(0, 1), (1, 1), (2, 1), (3, 1), (4, 1), (5, 1), (6, 1), (7, 1)] parts := built_bld ze_97 (by kernel_rfl) (by kernel_rfl)
theorem bd_100 : ∀ parts : List (Nat × Value), Try.prog.built 100 parts = bld #[(.int .i64 0), (.int .i64 0), (.int .i64 0), (.int .i64 0), (.slice none 0 0), (.slice none 0 0)] [(0, 1), (1, 1), (2, 1), (3, 1), (4, 1), (5, 1)] parts := built_bld ze_100 (by kernel_rfl) (by kernel_rfl)
theorem bd_101 : ∀ parts : List (Nat × Value), Try.prog.built 101 parts = bld #[(.int .i64 0), (.int .i64 0), (.int .i64 0), (.int .i64 0), (.slice none 0 0), (.slice none 0 0)] [(0, 1), (1, 1), (2, 1), (3, 1), (4, 1), (5, 1)] parts := built_bld ze_101 (by kernel_rfl) (by kernel_rfl)
theorem bd_103 : ∀ parts : List (Nat × Value), Try.prog.built 103 parts = bld #[(.int .i64 0), (.int .i64 0), (.int .i64 0), (.int .i64 0), (.slice none 0 0), (.slice none 0 0)] [(0, 1), (1, 1), (2, 1), (3, 1), (4, 1), (5, 1)] parts := built_bld ze_103 (by kernel_rfl) (by kernel_rfl)
theorem bd_107 : ∀ parts : List (Nat × Value), Try.prog.built 107 parts = bld #[(.bool false), (.bool false)] [(0, 1), (1, 1)] parts := built_bld ze_107 (by kernel_rfl) (by kernel_rfl)
theorem bd_113 : ∀ parts : List (Nat × Value), Try.prog.built 113 parts = bld #[(.bool false), (.bool false), (.bool false), (.bool false), (.bool false)] [(0, 1), (1, 4)] parts := built_bld ze_113 (by kernel_rfl) (by kernel_rfl)
theorem bd_114 : ∀ parts : List (Nat × Value), Try.prog.built 114 parts = bld #[(.bool false), (.bool false), (.bool false), (.bool false), (.bool false)] [(0, 1), (1, 4)] parts := built_bld ze_114 (by kernel_rfl) (by kernel_rfl)
theorem bd_115 : ∀ parts : List (Nat × Value), Try.prog.built 115 parts = bld #[(.bool false), (.bool false), (.bool false), (.bool false), (.bool false), (.bool false), (.bool false), (.bool false), (.bool false), (.bool false)] [(0, 5), (5, 5)] parts := built_bld ze_115 (by kernel_rfl) (by kernel_rfl)
theorem bd_132 : ∀ parts : List (Nat × Value), Try.prog.built 132 parts = bld #[(.pointer none), (.pointer none), (.pointer none), (.string ⟨#[]⟩)] [(0, 1), (1, 1), (2, 1), (3, 1)] parts := built_bld ze_132 (by kernel_rfl) (by kernel_rfl)
theorem bd_133 : ∀ parts : List (Nat × Value), Try.prog.built 133 parts = bld #[(.pointer none), (.pointer none), (.pointer none), (.string ⟨#[]⟩)] [(0, 1), (1, 1), (2, 1), (3, 1)] parts := built_bld ze_133 (by kernel_rfl) (by kernel_rfl)
theorem bd_134 : ∀ parts : List (Nat × Value), Try.prog.built 134 parts = bld #[] [] parts := built_bld ze_134 (by kernel_rfl) (by kernel_rfl)
theorem bd_135 : ∀ parts : List (Nat × Value), Try.prog.built 135 parts = bld #[] [(0, 0)] parts := built_bld ze_135 (by kernel_rfl) (by kernel_rfl)
theorem bd_136 : ∀ parts : List (Nat × Value), Try.prog.built 136 parts = bld #[] [(0, 0)] parts := built_bld ze_136 (by kernel_rfl) (by kernel_rfl)
theorem bd_144 : ∀ parts : List (Nat × Value), Try.prog.built 144 parts = bld #[(.int .u64 0), (.int .u64 0), (.int .u32 0), (.int .u8 0), (.int .u8 0), (.int .u8 0), (.int .u8 0), .nilFunc, (.pointer none), (.int .i32 0), (.int .i32 0)] [(0, 1), (1, 1), (2, 1), (3, 1), (4, 1), (5, 1), (6, 1), (7, 1), (8, 1), (9, 1), (10, 1)] parts := built_bld ze_144 (by kernel_rfl) (by kernel_rfl)
theorem bd_145 : ∀ parts : List (Nat × Value), Try.prog.built 145 parts = bld #[(.int .u64 0), (.int .u64 0), (.int .u32 0), (.int .u8 0), (.int .u8 0), (.int .u8 0), (.int .u8 0), .nilFunc, (.pointer none), (.int .i32 0), (.int .i32 0)] [(0, 1), (1, 1), (2, 1), (3, 1), (4, 1), (5, 1), (6, 1), (7, 1), (8, 1), (9, 1), (10, 1)] parts := built_bld ze_145 (by kernel_rfl) (by kernel_rfl)
theorem ty_1 : rowOf Try.prog 1 = some none ∧ szOf Try.prog 1 = some 1 ∧ bytesA Try.prog 1 = some 8 ∧ zeroOf Try.prog 1 = some #[.nilFunc] ∧ (Try.prog.underlying 1).isSome = true := ⟨row_1, sz_1, by_1, ze_1, us_1⟩
theorem ty_2 : rowOf Try.prog 2 = some none ∧ szOf Try.prog 2 = some 1 ∧ bytesA Try.prog 2 = some 8 ∧ zeroOf Try.prog 2 = some #[(.int .i64 0)] ∧ (Try.prog.underlying 2).isSome = true ∧ Try.prog.underlying 2 = some (.int .i64) := ⟨row_2, sz_2, by_2, ze_2, us_2, un_2⟩
theorem ty_3 : rowOf Try.prog 3 = some none ∧ szOf Try.prog 3 = some 1 ∧ bytesA Try.prog 3 = some 8 ∧ zeroOf Try.prog 3 = some #[(.int .i64 0)] ∧ (Try.prog.underlying 3).isSome = true ∧ Try.prog.underlying 3 = some (.int .i64) := ⟨row_3, sz_3, by_3, ze_3, us_3, un_3⟩
theorem ty_4 : rowOf Try.prog 4 = some none ∧ szOf Try.prog 4 = some 1 ∧ bytesA Try.prog 4 = some 1 ∧ zeroOf Try.prog 4 = some #[(.bool false)] ∧ (Try.prog.underlying 4).isSome = true ∧ isBoolT Try.prog 4 = true := ⟨row_4, sz_4, by_4, ze_4, us_4, ib_4⟩
theorem ty_5 : rowOf Try.prog 5 = some none ∧ szOf Try.prog 5 = some 1 ∧ bytesA Try.prog 5 = some 1 ∧ zeroOf Try.prog 5 = some #[(.int .u8 0)] ∧ (Try.prog.underlying 5).isSome = true ∧ Try.prog.underlying 5 = some (.int .u8) := ⟨row_5, sz_5, by_5, ze_5, us_5, un_5⟩
theorem ty_6 : rowOf Try.prog 6 = some none ∧ szOf Try.prog 6 = some 1 ∧ bytesA Try.prog 6 = some 1 ∧ zeroOf Try.prog 6 = some #[(.int .u8 0)] ∧ (Try.prog.underlying 6).isSome = true ∧ Try.prog.underlying 6 = some (.int .u8) := ⟨row_6, sz_6, by_6, ze_6, us_6, un_6⟩
theorem ty_7 : rowOf Try.prog 7 = some (some 4) ∧ szOf Try.prog 7 = some 4 ∧ bytesA Try.prog 7 = some 24 ∧ zeroOf Try.prog 7 = some #[(.int .i64 0), (.int .i64 0), (.bool false), (.int .u8 0)] ∧ (Try.prog.underlying 7).isSome = true ∧ fieldOff Try.prog 7 0 = some 0 ∧ fieldRow Try.prog 7 0 = some (0, none) ∧ fieldOff Try.prog 7 1 = some 1 ∧ fieldRow Try.prog 7 1 = some (1, none) ∧ fieldOff Try.prog 7 2 = some 2 ∧ fieldRow Try.prog 7 2 = some (2, none) ∧ fieldOff Try.prog 7 3 = some 3 ∧ fieldRow Try.prog 7 3 = some (3, none) ∧ ∀ parts : List (Nat × Value), Try.prog.built 7 parts = bld #[(.int .i64 0), (.int .i64 0), (.bool false), (.int .u8 0)] [(0, 1), (1, 1), (2, 1), (3, 1)] parts := ⟨row_7, sz_7, by_7, ze_7, us_7, fo_7_0, fr_7_0, fo_7_1, fr_7_1, fo_7_2, fr_7_2, fo_7_3, fr_7_3, bd_7⟩
theorem ty_8 : rowOf Try.prog 8 = some (some 4) ∧ szOf Try.prog 8 = some 4 ∧ bytesA Try.prog 8 = some 24 ∧ zeroOf Try.prog 8 = some #[(.int .i64 0), (.int .i64 0), (.bool false), (.int .u8 0)] ∧ (Try.prog.underlying 8).isSome = true ∧ fieldOff Try.prog 8 0 = some 0 ∧ fieldRow Try.prog 8 0 = some (0, none) ∧ fieldOff Try.prog 8 1 = some 1 ∧ fieldRow Try.prog 8 1 = some (1, none) ∧ fieldOff Try.prog 8 2 = some 2 ∧ fieldRow Try.prog 8 2 = some (2, none) ∧ fieldOff Try.prog 8 3 = some 3 ∧ fieldRow Try.prog 8 3 = some (3, none) ∧ ∀ parts : List (Nat × Value), Try.prog.built 8 parts = bld #[(.int .i64 0), (.int .i64 0), (.bool false), (.int .u8 0)] [(0, 1), (1, 1), (2, 1), (3, 1)] parts := ⟨row_8, sz_8, by_8, ze_8, us_8, fo_8_0, fr_8_0, fo_8_1, fr_8_1, fo_8_2, fr_8_2, fo_8_3, fr_8_3, bd_8⟩
theorem ty_9 : rowOf Try.prog 9 = some none ∧ szOf Try.prog 9 = some 1 ∧ bytesA Try.prog 9 = some 16 ∧ zeroOf Try.prog 9 = some #[(.string ⟨#[]⟩)] ∧ (Try.prog.underlying 9).isSome = true ∧ Try.prog.underlying 9 = some .string := ⟨row_9, sz_9, by_9, ze_9, us_9, un_9⟩
theorem ty_10 : rowOf Try.prog 10 = some none ∧ szOf Try.prog 10 = some 1 ∧ bytesA Try.prog 10 = some 16 ∧ zeroOf Try.prog 10 = some #[(.string ⟨#[]⟩)] ∧ (Try.prog.underlying 10).isSome = true ∧ Try.prog.underlying 10 = some .string := ⟨row_10, sz_10, by_10, ze_10, us_10, un_10⟩
theorem ty_11 : rowOf Try.prog 11 = some none ∧ szOf Try.prog 11 = some 1 ∧ bytesA Try.prog 11 = some 16 ∧ zeroOf Try.prog 11 = some #[(.string ⟨#[]⟩)] ∧ (Try.prog.underlying 11).isSome = true ∧ Try.prog.underlying 11 = some .string := ⟨row_11, sz_11, by_11, ze_11, us_11, un_11⟩
theorem ty_12 : rowOf Try.prog 12 = some none ∧ szOf Try.prog 12 = some 1 ∧ bytesA Try.prog 12 = some 8 ∧ zeroOf Try.prog 12 = some #[(.int .u64 0)] ∧ (Try.prog.underlying 12).isSome = true ∧ Try.prog.underlying 12 = some (.int .u64) := ⟨row_12, sz_12, by_12, ze_12, us_12, un_12⟩
theorem ty_13 : rowOf Try.prog 13 = some (some 2) ∧ szOf Try.prog 13 = some 2 ∧ bytesA Try.prog 13 = some 24 ∧ zeroOf Try.prog 13 = some #[(.string ⟨#[]⟩), (.int .u64 0)] ∧ (Try.prog.underlying 13).isSome = true ∧ fieldOff Try.prog 13 0 = some 0 ∧ fieldRow Try.prog 13 0 = some (0, none) ∧ fieldOff Try.prog 13 1 = some 1 ∧ fieldRow Try.prog 13 1 = some (1, none) ∧ ∀ parts : List (Nat × Value), Try.prog.built 13 parts = bld #[(.string ⟨#[]⟩), (.int .u64 0)] [(0, 1), (1, 1)] parts := ⟨row_13, sz_13, by_13, ze_13, us_13, fo_13_0, fr_13_0, fo_13_1, fr_13_1, bd_13⟩
theorem ty_14 : rowOf Try.prog 14 = some (some 2) ∧ szOf Try.prog 14 = some 2 ∧ bytesA Try.prog 14 = some 24 ∧ zeroOf Try.prog 14 = some #[(.string ⟨#[]⟩), (.int .u64 0)] ∧ (Try.prog.underlying 14).isSome = true ∧ fieldOff Try.prog 14 0 = some 0 ∧ fieldRow Try.prog 14 0 = some (0, none) ∧ fieldOff Try.prog 14 1 = some 1 ∧ fieldRow Try.prog 14 1 = some (1, none) ∧ ∀ parts : List (Nat × Value), Try.prog.built 14 parts = bld #[(.string ⟨#[]⟩), (.int .u64 0)] [(0, 1), (1, 1)] parts := ⟨row_14, sz_14, by_14, ze_14, us_14, fo_14_0, fr_14_0, fo_14_1, fr_14_1, bd_14⟩
theorem ty_15 : rowOf Try.prog 15 = some none ∧ szOf Try.prog 15 = some 1 ∧ bytesA Try.prog 15 = some 8 ∧ zeroOf Try.prog 15 = some #[(.pointer none)] ∧ (Try.prog.underlying 15).isSome = true ∧ isPtr Try.prog 15 = true := ⟨row_15, sz_15, by_15, ze_15, us_15, ip_15⟩
theorem ty_16 : rowOf Try.prog 16 = some none ∧ szOf Try.prog 16 = some 1 ∧ bytesA Try.prog 16 = some 8 ∧ zeroOf Try.prog 16 = some #[(.pointer none)] ∧ (Try.prog.underlying 16).isSome = true ∧ isPtr Try.prog 16 = true := ⟨row_16, sz_16, by_16, ze_16, us_16, ip_16⟩
theorem ty_17 : rowOf Try.prog 17 = some none ∧ szOf Try.prog 17 = some 1 ∧ bytesA Try.prog 17 = some 8 ∧ zeroOf Try.prog 17 = some #[(.pointer none)] ∧ (Try.prog.underlying 17).isSome = true ∧ isPtr Try.prog 17 = true := ⟨row_17, sz_17, by_17, ze_17, us_17, ip_17⟩
theorem ty_18 : rowOf Try.prog 18 = some (some 1) ∧ szOf Try.prog 18 = some 1 ∧ bytesA Try.prog 18 = some 8 ∧ zeroOf Try.prog 18 = some #[(.pointer none)] ∧ (Try.prog.underlying 18).isSome = true ∧ fieldOff Try.prog 18 0 = some 0 ∧ fieldRow Try.prog 18 0 = some (0, none) ∧ ∀ parts : List (Nat × Value), Try.prog.built 18 parts = bld #[(.pointer none)] [(0, 1)] parts := ⟨row_18, sz_18, by_18, ze_18, us_18, fo_18_0, fr_18_0, bd_18⟩
theorem ty_19 : rowOf Try.prog 19 = some (some 1) ∧ szOf Try.prog 19 = some 1 ∧ bytesA Try.prog 19 = some 8 ∧ zeroOf Try.prog 19 = some #[(.pointer none)] ∧ (Try.prog.underlying 19).isSome = true ∧ fieldOff Try.prog 19 0 = some 0 ∧ fieldRow Try.prog 19 0 = some (0, none) ∧ ∀ parts : List (Nat × Value), Try.prog.built 19 parts = bld #[(.pointer none)] [(0, 1)] parts := ⟨row_19, sz_19, by_19, ze_19, us_19, fo_19_0, fr_19_0, bd_19⟩
theorem ty_21 : rowOf Try.prog 21 = some none ∧ szOf Try.prog 21 = some 1 ∧ bytesA Try.prog 21 = some 4 ∧ zeroOf Try.prog 21 = some #[(.int .i32 0)] ∧ (Try.prog.underlying 21).isSome = true ∧ Try.prog.underlying 21 = some (.int .i32) := ⟨row_21, sz_21, by_21, ze_21, us_21, un_21⟩
theorem ty_22 : rowOf Try.prog 22 = some none ∧ szOf Try.prog 22 = some 1 ∧ bytesA Try.prog 22 = some 1 ∧ zeroOf Try.prog 22 = some #[(.int .u8 0)] ∧ (Try.prog.underlying 22).isSome = true ∧ Try.prog.underlying 22 = some (.int .u8) := ⟨row_22, sz_22, by_22, ze_22, us_22, un_22⟩
theorem ty_23 : rowOf Try.prog 23 = some none ∧ szOf Try.prog 23 = some 1 ∧ bytesA Try.prog 23 = some 8 ∧ zeroOf Try.prog 23 = some #[(.pointer none)] ∧ (Try.prog.underlying 23).isSome = true ∧ isPtr Try.prog 23 = true := ⟨row_23, sz_23, by_23, ze_23, us_23, ip_23⟩
theorem ty_24 : rowOf Try.prog 24 = some (some 3) ∧ szOf Try.prog 24 = some 3 ∧ bytesA Try.prog 24 = some 24 ∧ zeroOf Try.prog 24 = some #[(.bool false), (.int .i64 0), (.int .i64 0)] ∧ (Try.prog.underlying 24).isSome = true ∧ fieldOff Try.prog 24 0 = some 0 ∧ fieldRow Try.prog 24 0 = some (0, none) ∧ fieldOff Try.prog 24 1 = some 1 ∧ fieldRow Try.prog 24 1 = some (1, none) ∧ fieldOff Try.prog 24 2 = some 2 ∧ fieldRow Try.prog 24 2 = some (2, none) ∧ ∀ parts : List (Nat × Value), Try.prog.built 24 parts = bld #[(.bool false), (.int .i64 0), (.int .i64 0)] [(0, 1), (1, 1), (2, 1)] parts := ⟨row_24, sz_24, by_24, ze_24, us_24, fo_24_0, fr_24_0, fo_24_1, fr_24_1, fo_24_2, fr_24_2, bd_24⟩
theorem ty_25 : rowOf Try.prog 25 = some (some 3) ∧ szOf Try.prog 25 = some 3 ∧ bytesA Try.prog 25 = some 24 ∧ zeroOf Try.prog 25 = some #[(.bool false), (.int .i64 0), (.int .i64 0)] ∧ (Try.prog.underlying 25).isSome = true ∧ fieldOff Try.prog 25 0 = some 0 ∧ fieldRow Try.prog 25 0 = some (0, none) ∧ fieldOff Try.prog 25 1 = some 1 ∧ fieldRow Try.prog 25 1 = some (1, none) ∧ fieldOff Try.prog 25 2 = some 2 ∧ fieldRow Try.prog 25 2 = some (2, none) ∧ ∀ parts : List (Nat × Value), Try.prog.built 25 parts = bld #[(.bool false), (.int .i64 0), (.int .i64 0)] [(0, 1), (1, 1), (2, 1)] parts := ⟨row_25, sz_25, by_25, ze_25, us_25, fo_25_0, fr_25_0, fo_25_1, fr_25_1, fo_25_2, fr_25_2, bd_25⟩
theorem ty_26 : rowOf Try.prog 26 = some none ∧ szOf Try.prog 26 = some 1 ∧ bytesA Try.prog 26 = some 8 ∧ zeroOf Try.prog 26 = some #[.nilFunc] ∧ (Try.prog.underlying 26).isSome = true := ⟨row_26, sz_26, by_26, ze_26, us_26⟩
theorem ty_27 : rowOf Try.prog 27 = some none ∧ szOf Try.prog 27 = some 1 ∧ bytesA Try.prog 27 = some 8 ∧ zeroOf Try.prog 27 = some #[.nilFunc] ∧ (Try.prog.underlying 27).isSome = true := ⟨row_27, sz_27, by_27, ze_27, us_27⟩
theorem ty_28 : rowOf Try.prog 28 = some none ∧ szOf Try.prog 28 = some 1 ∧ bytesA Try.prog 28 = some 8 ∧ zeroOf Try.prog 28 = some #[.nilFunc] ∧ (Try.prog.underlying 28).isSome = true := ⟨row_28, sz_28, by_28, ze_28, us_28⟩
theorem ty_29 : rowOf Try.prog 29 = some none ∧ szOf Try.prog 29 = some 1 ∧ bytesA Try.prog 29 = some 8 ∧ zeroOf Try.prog 29 = some #[.nilFunc] ∧ (Try.prog.underlying 29).isSome = true := ⟨row_29, sz_29, by_29, ze_29, us_29⟩
theorem ty_30 : rowOf Try.prog 30 = some (some 8) ∧ szOf Try.prog 30 = some 8 ∧ bytesA Try.prog 30 = some 64 ∧ zeroOf Try.prog 30 = some #[(.int .i64 0), (.int .i64 0), (.int .i64 0), (.int .i64 0), (.int .i64 0), (.int .i64 0), (.int .i64 0), (.bool false)] ∧ (Try.prog.underlying 30).isSome = true ∧ fieldOff Try.prog 30 0 = some 0 ∧ fieldRow Try.prog 30 0 = some (0, none) ∧ fieldOff Try.prog 30 1 = some 1 ∧ fieldRow Try.prog 30 1 = some (1, none) ∧ fieldOff Try.prog 30 2 = some 2 ∧ fieldRow Try.prog 30 2 = some (2, none) ∧ fieldOff Try.prog 30 3 = some 3 ∧ fieldRow Try.prog 30 3 = some (3, none) ∧ fieldOff Try.prog 30 4 = some 4 ∧ fieldRow Try.prog 30 4 = some (4, none) ∧ fieldOff Try.prog 30 5 = some 5 ∧ fieldRow Try.prog 30 5 = some (5, none) ∧ fieldOff Try.prog 30 6 = some 6 ∧ fieldRow Try.prog 30 6 = some (6, none) ∧ fieldOff Try.prog 30 7 = some 7 ∧ fieldRow Try.prog 30 7 = some (7, none) ∧ ∀ parts : List (Nat × Value), Try.prog.built 30 parts = bld #[(.int .i64 0), (.int .i64 0), (.int .i64 0), (.int .i64 0), (.int .i64 0), (.int .i64 0), (.int .i64 0), (.bool false)] [(0, 1), (1, 1), (2, 1), (3, 1), (4, 1), (5, 1), (6, 1), (7, 1)] parts := ⟨row_30, sz_30, by_30, ze_30, us_30, fo_30_0, fr_30_0, fo_30_1, fr_30_1, fo_30_2, fr_30_2, fo_30_3, fr_30_3, fo_30_4, fr_30_4, fo_30_5, fr_30_5, fo_30_6, fr_30_6, fo_30_7, fr_30_7, bd_30⟩
theorem ty_31 : rowOf Try.prog 31 = some (some 8) ∧ szOf Try.prog 31 = some 8 ∧ bytesA Try.prog 31 = some 64 ∧ zeroOf Try.prog 31 = some #[(.int .i64 0), (.int .i64 0), (.int .i64 0), (.int .i64 0), (.int .i64 0), (.int .i64 0), (.int .i64 0), (.bool false)] ∧ (Try.prog.underlying 31).isSome = true ∧ fieldOff Try.prog 31 0 = some 0 ∧ fieldRow Try.prog 31 0 = some (0, none) ∧ fieldOff Try.prog 31 1 = some 1 ∧ fieldRow Try.prog 31 1 = some (1, none) ∧ fieldOff Try.prog 31 2 = some 2 ∧ fieldRow Try.prog 31 2 = some (2, none) ∧ fieldOff Try.prog 31 3 = some 3 ∧ fieldRow Try.prog 31 3 = some (3, none) ∧ fieldOff Try.prog 31 4 = some 4 ∧ fieldRow Try.prog 31 4 = some (4, none) ∧ fieldOff Try.prog 31 5 = some 5 ∧ fieldRow Try.prog 31 5 = some (5, none) ∧ fieldOff Try.prog 31 6 = some 6 ∧ fieldRow Try.prog 31 6 = some (6, none) ∧ fieldOff Try.prog 31 7 = some 7 ∧ fieldRow Try.prog 31 7 = some (7, none) ∧ ∀ parts : List (Nat × Value), Try.prog.built 31 parts = bld #[(.int .i64 0), (.int .i64 0), (.int .i64 0), (.int .i64 0), (.int .i64 0), (.int .i64 0), (.int .i64 0), (.bool false)] [(0, 1), (1, 1), (2, 1), (3, 1), (4, 1), (5, 1), (6, 1), (7, 1)] parts := ⟨row_31, sz_31, by_31, ze_31, us_31, fo_31_0, fr_31_0, fo_31_1, fr_31_1, fo_31_2, fr_31_2, fo_31_3, fr_31_3, fo_31_4, fr_31_4, fo_31_5, fr_31_5, fo_31_6, fr_31_6, fo_31_7, fr_31_7, bd_31⟩
theorem ty_32 : rowOf Try.prog 32 = some none ∧ szOf Try.prog 32 = some 1 ∧ bytesA Try.prog 32 = some 8 ∧ zeroOf Try.prog 32 = some #[.nilFunc] ∧ (Try.prog.underlying 32).isSome = true := ⟨row_32, sz_32, by_32, ze_32, us_32⟩
theorem ty_33 : rowOf Try.prog 33 = some none ∧ szOf Try.prog 33 = some 1 ∧ bytesA Try.prog 33 = some 24 ∧ zeroOf Try.prog 33 = some #[(.slice none 0 0)] ∧ (Try.prog.underlying 33).isSome = true ∧ slOf Try.prog 33 = some (41, 4) ∧ isSlT Try.prog 33 = true := ⟨row_33, sz_33, by_33, ze_33, us_33, sl_33, isl_33⟩
theorem ty_34 : rowOf Try.prog 34 = some none ∧ szOf Try.prog 34 = some 1 ∧ bytesA Try.prog 34 = some 8 ∧ zeroOf Try.prog 34 = some #[(.pointer none)] ∧ (Try.prog.underlying 34).isSome = true ∧ isPtr Try.prog 34 = true := ⟨row_34, sz_34, by_34, ze_34, us_34, ip_34⟩
theorem ty_35 : rowOf Try.prog 35 = some none ∧ szOf Try.prog 35 = some 1 ∧ bytesA Try.prog 35 = some 8 ∧ zeroOf Try.prog 35 = some #[.nilFunc] ∧ (Try.prog.underlying 35).isSome = true := ⟨row_35, sz_35, by_35, ze_35, us_35⟩
theorem ty_36 : rowOf Try.prog 36 = some (some 3) ∧ szOf Try.prog 36 = some 3 ∧ bytesA Try.prog 36 = some 16 ∧ zeroOf Try.prog 36 = some #[(.int .u8 0), (.bool false), (.int .i64 0)] ∧ (Try.prog.underlying 36).isSome = true ∧ fieldOff Try.prog 36 0 = some 0 ∧ fieldRow Try.prog 36 0 = some (0, none) ∧ fieldOff Try.prog 36 1 = some 1 ∧ fieldRow Try.prog 36 1 = some (1, none) ∧ fieldOff Try.prog 36 2 = some 2 ∧ fieldRow Try.prog 36 2 = some (2, none) ∧ ∀ parts : List (Nat × Value), Try.prog.built 36 parts = bld #[(.int .u8 0), (.bool false), (.int .i64 0)] [(0, 1), (1, 1), (2, 1)] parts := ⟨row_36, sz_36, by_36, ze_36, us_36, fo_36_0, fr_36_0, fo_36_1, fr_36_1, fo_36_2, fr_36_2, bd_36⟩
theorem ty_37 : rowOf Try.prog 37 = some (some 3) ∧ szOf Try.prog 37 = some 3 ∧ bytesA Try.prog 37 = some 16 ∧ zeroOf Try.prog 37 = some #[(.int .u8 0), (.bool false), (.int .i64 0)] ∧ (Try.prog.underlying 37).isSome = true ∧ fieldOff Try.prog 37 0 = some 0 ∧ fieldRow Try.prog 37 0 = some (0, none) ∧ fieldOff Try.prog 37 1 = some 1 ∧ fieldRow Try.prog 37 1 = some (1, none) ∧ fieldOff Try.prog 37 2 = some 2 ∧ fieldRow Try.prog 37 2 = some (2, none) ∧ ∀ parts : List (Nat × Value), Try.prog.built 37 parts = bld #[(.int .u8 0), (.bool false), (.int .i64 0)] [(0, 1), (1, 1), (2, 1)] parts := ⟨row_37, sz_37, by_37, ze_37, us_37, fo_37_0, fr_37_0, fo_37_1, fr_37_1, fo_37_2, fr_37_2, bd_37⟩
theorem ty_38 : rowOf Try.prog 38 = some (some 192) ∧ szOf Try.prog 38 = some 192 ∧ bytesA Try.prog 38 = some 1024 ∧ zeroOf Try.prog 38 = some (List.replicate 1 ((.int .u8 0) : Value) ++ List.replicate 1 ((.bool false) : Value) ++ List.replicate 1 ((.int .i64 0) : Value) ++ List.replicate 1 ((.int .u8 0) : Value) ++ List.replicate 1 ((.bool false) : Value) ++ List.replicate 1 ((.int .i64 0) : Value) ++ List.replicate 1 ((.int .u8 0) : Value) ++ List.replicate 1 ((.bool false) : Value) ++ List.replicate 1 ((.int .i64 0) : Value) ++ List.replicate 1 ((.int .u8 0) : Value) ++ List.replicate 1 ((.bool false) : Value) ++ List.replicate 1 ((.int .i64 0) : Value) ++ List.replicate 1 ((.int .u8 0) : Value) ++ List.replicate 1 ((.bool false) : Value) ++ List.replicate 1 ((.int .i64 0) : Value) ++ List.replicate 1 ((.int .u8 0) : Value) ++ List.replicate 1 ((.bool false) : Value) ++ List.replicate 1 ((.int .i64 0) : Value) ++ List.replicate 1 ((.int .u8 0) : Value) ++ List.replicate 1 ((.bool false) : Value) ++ List.replicate 1 ((.int .i64 0) : Value) ++ List.replicate 1 ((.int .u8 0) : Value) ++ List.replicate 1 ((.bool false) : Value) ++ List.replicate 1 ((.int .i64 0) : Value) ++ List.replicate 1 ((.int .u8 0) : Value) ++ List.replicate 1 ((.bool false) : Value) ++ List.replicate 1 ((.int .i64 0) : Value) ++ List.replicate 1 ((.int .u8 0) : Value) ++ List.replicate 1 ((.bool false) : Value) ++ List.replicate 1 ((.int .i64 0) : Value) ++ List.replicate 1 ((.int .u8 0) : Value) ++ List.replicate 1 ((.bool false) : Value) ++ List.replicate 1 ((.int .i64 0) : Value) ++ List.replicate 1 ((.int .u8 0) : Value) ++ List.replicate 1 ((.bool false) : Value) ++ List.replicate 1 ((.int .i64 0) : Value) ++ List.replicate 1 ((.int .u8 0) : Value) ++ List.replicate 1 ((.bool false) : Value) ++ List.replicate 1 ((.int .i64 0) : Value) ++ List.replicate 1 ((.int .u8 0) : Value) ++ List.replicate 1 ((.bool false) : Value) ++ List.replicate 1 ((.int .i64 0) : Value) ++ List.replicate 1 ((.int .u8 0) : Value) ++ List.replicate 1 ((.bool false) : Value) ++ List.replicate 1 ((.int .i64 0) : Value) ++ List.replicate 1 ((.int .u8 0) : Value) ++ List.replicate 1 ((.bool false) : Value) ++ List.replicate 1 ((.int .i64 0) : Value) ++ List.replicate 1 ((.int .u8 0) : Value) ++ List.replicate 1 ((.bool false) : Value) ++ List.replicate 1 ((.int .i64 0) : Value) ++ List.replicate 1 ((.int .u8 0) : Value) ++ List.replicate 1 ((.bool false) : Value) ++ List.replicate 1 ((.int .i64 0) : Value) ++ List.replicate 1 ((.int .u8 0) : Value) ++ List.replicate 1 ((.bool false) : Value) ++ List.replicate 1 ((.int .i64 0) : Value) ++ List.replicate 1 ((.int .u8 0) : Value) ++ List.replicate 1 ((.bool false) : Value) ++ List.replicate 1 ((.int .i64 0) : Value) ++ List.replicate 1 ((.int .u8 0) : Value) ++ List.replicate 1 ((.bool false) : Value) ++ List.replicate 1 ((.int .i64 0) : Value) ++ List.replicate 1 ((.int .u8 0) : Value) ++ List.replicate 1 ((.bool false) : Value) ++ List.replicate 1 ((.int .i64 0) : Value) ++ List.replicate 1 ((.int .u8 0) : Value) ++ List.replicate 1 ((.bool false) : Value) ++ List.replicate 1 ((.int .i64 0) : Value) ++ List.replicate 1 ((.int .u8 0) : Value) ++ List.replicate 1 ((.bool false) : Value) ++ List.replicate 1 ((.int .i64 0) : Value) ++ List.replicate 1 ((.int .u8 0) : Value) ++ List.replicate 1 ((.bool false) : Value) ++ List.replicate 1 ((.int .i64 0) : Value) ++ List.replicate 1 ((.int .u8 0) : Value) ++ List.replicate 1 ((.bool false) : Value) ++ List.replicate 1 ((.int .i64 0) : Value) ++ List.replicate 1 ((.int .u8 0) : Value) ++ List.replicate 1 ((.bool false) : Value) ++ List.replicate 1 ((.int .i64 0) : Value) ++ List.replicate 1 ((.int .u8 0) : Value) ++ List.replicate 1 ((.bool false) : Value) ++ List.replicate 1 ((.int .i64 0) : Value) ++ List.replicate 1 ((.int .u8 0) : Value) ++ List.replicate 1 ((.bool false) : Value) ++ List.replicate 1 ((.int .i64 0) : Value) ++ List.replicate 1 ((.int .u8 0) : Value) ++ List.replicate 1 ((.bool false) : Value) ++ List.replicate 1 ((.int .i64 0) : Value) ++ List.replicate 1 ((.int .u8 0) : Value) ++ List.replicate 1 ((.bool false) : Value) ++ List.replicate 1 ((.int .i64 0) : Value) ++ List.replicate 1 ((.int .u8 0) : Value) ++ List.replicate 1 ((.bool false) : Value) ++ List.replicate 1 ((.int .i64 0) : Value) ++ List.replicate 1 ((.int .u8 0) : Value) ++ List.replicate 1 ((.bool false) : Value) ++ List.replicate 1 ((.int .i64 0) : Value) ++ List.replicate 1 ((.int .u8 0) : Value) ++ List.replicate 1 ((.bool false) : Value) ++ List.replicate 1 ((.int .i64 0) : Value) ++ List.replicate 1 ((.int .u8 0) : Value) ++ List.replicate 1 ((.bool false) : Value) ++ List.replicate 1 ((.int .i64 0) : Value) ++ List.replicate 1 ((.int .u8 0) : Value) ++ List.replicate 1 ((.bool false) : Value) ++ List.replicate 1 ((.int .i64 0) : Value) ++ List.replicate 1 ((.int .u8 0) : Value) ++ List.replicate 1 ((.bool false) : Value) ++ List.replicate 1 ((.int .i64 0) : Value) ++ List.replicate 1 ((.int .u8 0) : Value) ++ List.replicate 1 ((.bool false) : Value) ++ List.replicate 1 ((.int .i64 0) : Value) ++ List.replicate 1 ((.int .u8 0) : Value) ++ List.replicate 1 ((.bool false) : Value) ++ List.replicate 1 ((.int .i64 0) : Value) ++ List.replicate 1 ((.int .u8 0) : Value) ++ List.replicate 1 ((.bool false) : Value) ++ List.replicate 1 ((.int .i64 0) : Value) ++ List.replicate 1 ((.int .u8 0) : Value) ++ List.replicate 1 ((.bool false) : Value) ++ List.replicate 1 ((.int .i64 0) : Value) ++ List.replicate 1 ((.int .u8 0) : Value) ++ List.replicate 1 ((.bool false) : Value) ++ List.replicate 1 ((.int .i64 0) : Value) ++ List.replicate 1 ((.int .u8 0) : Value) ++ List.replicate 1 ((.bool false) : Value) ++ List.replicate 1 ((.int .i64 0) : Value) ++ List.replicate 1 ((.int .u8 0) : Value) ++ List.replicate 1 ((.bool false) : Value) ++ List.replicate 1 ((.int .i64 0) : Value) ++ List.replicate 1 ((.int .u8 0) : Value) ++ List.replicate 1 ((.bool false) : Value) ++ List.replicate 1 ((.int .i64 0) : Value) ++ List.replicate 1 ((.int .u8 0) : Value) ++ List.replicate 1 ((.bool false) : Value) ++ List.replicate 1 ((.int .i64 0) : Value) ++ List.replicate 1 ((.int .u8 0) : Value) ++ List.replicate 1 ((.bool false) : Value) ++ List.replicate 1 ((.int .i64 0) : Value) ++ List.replicate 1 ((.int .u8 0) : Value) ++ List.replicate 1 ((.bool false) : Value) ++ List.replicate 1 ((.int .i64 0) : Value) ++ List.replicate 1 ((.int .u8 0) : Value) ++ List.replicate 1 ((.bool false) : Value) ++ List.replicate 1 ((.int .i64 0) : Value) ++ List.replicate 1 ((.int .u8 0) : Value) ++ List.replicate 1 ((.bool false) : Value) ++ List.replicate 1 ((.int .i64 0) : Value) ++ List.replicate 1 ((.int .u8 0) : Value) ++ List.replicate 1 ((.bool false) : Value) ++ List.replicate 1 ((.int .i64 0) : Value) ++ List.replicate 1 ((.int .u8 0) : Value) ++ List.replicate 1 ((.bool false) : Value) ++ List.replicate 1 ((.int .i64 0) : Value) ++ List.replicate 1 ((.int .u8 0) : Value) ++ List.replicate 1 ((.bool false) : Value) ++ List.replicate 1 ((.int .i64 0) : Value) ++ List.replicate 1 ((.int .u8 0) : Value) ++ List.replicate 1 ((.bool false) : Value) ++ List.replicate 1 ((.int .i64 0) : Value) ++ List.replicate 1 ((.int .u8 0) : Value) ++ List.replicate 1 ((.bool false) : Value) ++ List.replicate 1 ((.int .i64 0) : Value) ++ List.replicate 1 ((.int .u8 0) : Value) ++ List.replicate 1 ((.bool false) : Value) ++ List.replicate 1 ((.int .i64 0) : Value) ++ List.replicate 1 ((.int .u8 0) : Value) ++ List.replicate 1 ((.bool false) : Value) ++ List.replicate 1 ((.int .i64 0) : Value) ++ List.replicate 1 ((.int .u8 0) : Value) ++ List.replicate 1 ((.bool false) : Value) ++ List.replicate 1 ((.int .i64 0) : Value) ++ List.replicate 1 ((.int .u8 0) : Value) ++ List.replicate 1 ((.bool false) : Value) ++ List.replicate 1 ((.int .i64 0) : Value) ++ List.replicate 1 ((.int .u8 0) : Value) ++ List.replicate 1 ((.bool false) : Value) ++ List.replicate 1 ((.int .i64 0) : Value) ++ List.replicate 1 ((.int .u8 0) : Value) ++ List.replicate 1 ((.bool false) : Value) ++ List.replicate 1 ((.int .i64 0) : Value) ++ List.replicate 1 ((.int .u8 0) : Value) ++ List.replicate 1 ((.bool false) : Value) ++ List.replicate 1 ((.int .i64 0) : Value) ++ List.replicate 1 ((.int .u8 0) : Value) ++ List.replicate 1 ((.bool false) : Value) ++ List.replicate 1 ((.int .i64 0) : Value) ++ List.replicate 1 ((.int .u8 0) : Value) ++ List.replicate 1 ((.bool false) : Value) ++ List.replicate 1 ((.int .i64 0) : Value)).toArray ∧ (Try.prog.underlying 38).isSome = true ∧ arrOf Try.prog 38 = some (64, 3, some 3) ∧ ∀ parts : List (Nat × Value), Try.prog.built 38 parts = bld (List.replicate 1 ((.int .u8 0) : Value) ++ List.replicate 1 ((.bool false) : Value) ++ List.replicate 1 ((.int .i64 0) : Value) ++ List.replicate 1 ((.int .u8 0) : Value) ++ List.replicate 1 ((.bool false) : Value) ++ List.replicate 1 ((.int .i64 0) : Value) ++ List.replicate 1 ((.int .u8 0) : Value) ++ List.replicate 1 ((.bool false) : Value) ++ List.replicate 1 ((.int .i64 0) : Value) ++ List.replicate 1 ((.int .u8 0) : Value) ++ List.replicate 1 ((.bool false) : Value) ++ List.replicate 1 ((.int .i64 0) : Value) ++ List.replicate 1 ((.int .u8 0) : Value) ++ List.replicate 1 ((.bool false) : Value) ++ List.replicate 1 ((.int .i64 0) : Value) ++ List.replicate 1 ((.int .u8 0) : Value) ++ List.replicate 1 ((.bool false) : Value) ++ List.replicate 1 ((.int .i64 0) : Value) ++ List.replicate 1 ((.int .u8 0) : Value) ++ List.replicate 1 ((.bool false) : Value) ++ List.replicate 1 ((.int .i64 0) : Value) ++ List.replicate 1 ((.int .u8 0) : Value) ++ List.replicate 1 ((.bool false) : Value) ++ List.replicate 1 ((.int .i64 0) : Value) ++ List.replicate 1 ((.int .u8 0) : Value) ++ List.replicate 1 ((.bool false) : Value) ++ List.replicate 1 ((.int .i64 0) : Value) ++ List.replicate 1 ((.int .u8 0) : Value) ++ List.replicate 1 ((.bool false) : Value) ++ List.replicate 1 ((.int .i64 0) : Value) ++ List.replicate 1 ((.int .u8 0) : Value) ++ List.replicate 1 ((.bool false) : Value) ++ List.replicate 1 ((.int .i64 0) : Value) ++ List.replicate 1 ((.int .u8 0) : Value) ++ List.replicate 1 ((.bool false) : Value) ++ List.replicate 1 ((.int .i64 0) : Value) ++ List.replicate 1 ((.int .u8 0) : Value) ++ List.replicate 1 ((.bool false) : Value) ++ List.replicate 1 ((.int .i64 0) : Value) ++ List.replicate 1 ((.int .u8 0) : Value) ++ List.replicate 1 ((.bool false) : Value) ++ List.replicate 1 ((.int .i64 0) : Value) ++ List.replicate 1 ((.int .u8 0) : Value) ++ List.replicate 1 ((.bool false) : Value) ++ List.replicate 1 ((.int .i64 0) : Value) ++ List.replicate 1 ((.int .u8 0) : Value) ++ List.replicate 1 ((.bool false) : Value) ++ List.replicate 1 ((.int .i64 0) : Value) ++ List.replicate 1 ((.int .u8 0) : Value) ++ List.replicate 1 ((.bool false) : Value) ++ List.replicate 1 ((.int .i64 0) : Value) ++ List.replicate 1 ((.int .u8 0) : Value) ++ List.replicate 1 ((.bool false) : Value) ++ List.replicate 1 ((.int .i64 0) : Value) ++ List.replicate 1 ((.int .u8 0) : Value) ++ List.replicate 1 ((.bool false) : Value) ++ List.replicate 1 ((.int .i64 0) : Value) ++ List.replicate 1 ((.int .u8 0) : Value) ++ List.replicate 1 ((.bool false) : Value) ++ List.replicate 1 ((.int .i64 0) : Value) ++ List.replicate 1 ((.int .u8 0) : Value) ++ List.replicate 1 ((.bool false) : Value) ++ List.replicate 1 ((.int .i64 0) : Value) ++ List.replicate 1 ((.int .u8 0) : Value) ++ List.replicate 1 ((.bool false) : Value) ++ List.replicate 1 ((.int .i64 0) : Value) ++ List.replicate 1 ((.int .u8 0) : Value) ++ List.replicate 1 ((.bool false) : Value) ++ List.replicate 1 ((.int .i64 0) : Value) ++ List.replicate 1 ((.int .u8 0) : Value) ++ List.replicate 1 ((.bool false) : Value) ++ List.replicate 1 ((.int .i64 0) : Value) ++ List.replicate 1 ((.int .u8 0) : Value) ++ List.replicate 1 ((.bool false) : Value) ++ List.replicate 1 ((.int .i64 0) : Value) ++ List.replicate 1 ((.int .u8 0) : Value) ++ List.replicate 1 ((.bool false) : Value) ++ List.replicate 1 ((.int .i64 0) : Value) ++ List.replicate 1 ((.int .u8 0) : Value) ++ List.replicate 1 ((.bool false) : Value) ++ List.replicate 1 ((.int .i64 0) : Value) ++ List.replicate 1 ((.int .u8 0) : Value) ++ List.replicate 1 ((.bool false) : Value) ++ List.replicate 1 ((.int .i64 0) : Value) ++ List.replicate 1 ((.int .u8 0) : Value) ++ List.replicate 1 ((.bool false) : Value) ++ List.replicate 1 ((.int .i64 0) : Value) ++ List.replicate 1 ((.int .u8 0) : Value) ++ List.replicate 1 ((.bool false) : Value) ++ List.replicate 1 ((.int .i64 0) : Value) ++ List.replicate 1 ((.int .u8 0) : Value) ++ List.replicate 1 ((.bool false) : Value) ++ List.replicate 1 ((.int .i64 0) : Value) ++ List.replicate 1 ((.int .u8 0) : Value) ++ List.replicate 1 ((.bool false) : Value) ++ List.replicate 1 ((.int .i64 0) : Value) ++ List.replicate 1 ((.int .u8 0) : Value) ++ List.replicate 1 ((.bool false) : Value) ++ List.replicate 1 ((.int .i64 0) : Value) ++ List.replicate 1 ((.int .u8 0) : Value) ++ List.replicate 1 ((.bool false) : Value) ++ List.replicate 1 ((.int .i64 0) : Value) ++ List.replicate 1 ((.int .u8 0) : Value) ++ List.replicate 1 ((.bool false) : Value) ++ List.replicate 1 ((.int .i64 0) : Value) ++ List.replicate 1 ((.int .u8 0) : Value) ++ List.replicate 1 ((.bool false) : Value) ++ List.replicate 1 ((.int .i64 0) : Value) ++ List.replicate 1 ((.int .u8 0) : Value) ++ List.replicate 1 ((.bool false) : Value) ++ List.replicate 1 ((.int .i64 0) : Value) ++ List.replicate 1 ((.int .u8 0) : Value) ++ List.replicate 1 ((.bool false) : Value) ++ List.replicate 1 ((.int .i64 0) : Value) ++ List.replicate 1 ((.int .u8 0) : Value) ++ List.replicate 1 ((.bool false) : Value) ++ List.replicate 1 ((.int .i64 0) : Value) ++ List.replicate 1 ((.int .u8 0) : Value) ++ List.replicate 1 ((.bool false) : Value) ++ List.replicate 1 ((.int .i64 0) : Value) ++ List.replicate 1 ((.int .u8 0) : Value) ++ List.replicate 1 ((.bool false) : Value) ++ List.replicate 1 ((.int .i64 0) : Value) ++ List.replicate 1 ((.int .u8 0) : Value) ++ List.replicate 1 ((.bool false) : Value) ++ List.replicate 1 ((.int .i64 0) : Value) ++ List.replicate 1 ((.int .u8 0) : Value) ++ List.replicate 1 ((.bool false) : Value) ++ List.replicate 1 ((.int .i64 0) : Value) ++ List.replicate 1 ((.int .u8 0) : Value) ++ List.replicate 1 ((.bool false) : Value) ++ List.replicate 1 ((.int .i64 0) : Value) ++ List.replicate 1 ((.int .u8 0) : Value) ++ List.replicate 1 ((.bool false) : Value) ++ List.replicate 1 ((.int .i64 0) : Value) ++ List.replicate 1 ((.int .u8 0) : Value) ++ List.replicate 1 ((.bool false) : Value) ++ List.replicate 1 ((.int .i64 0) : Value) ++ List.replicate 1 ((.int .u8 0) : Value) ++ List.replicate 1 ((.bool false) : Value) ++ List.replicate 1 ((.int .i64 0) : Value) ++ List.replicate 1 ((.int .u8 0) : Value) ++ List.replicate 1 ((.bool false) : Value) ++ List.replicate 1 ((.int .i64 0) : Value) ++ List.replicate 1 ((.int .u8 0) : Value) ++ List.replicate 1 ((.bool false) : Value) ++ List.replicate 1 ((.int .i64 0) : Value) ++ List.replicate 1 ((.int .u8 0) : Value) ++ List.replicate 1 ((.bool false) : Value) ++ List.replicate 1 ((.int .i64 0) : Value) ++ List.replicate 1 ((.int .u8 0) : Value) ++ List.replicate 1 ((.bool false) : Value) ++ List.replicate 1 ((.int .i64 0) : Value) ++ List.replicate 1 ((.int .u8 0) : Value) ++ List.replicate 1 ((.bool false) : Value) ++ List.replicate 1 ((.int .i64 0) : Value) ++ List.replicate 1 ((.int .u8 0) : Value) ++ List.replicate 1 ((.bool false) : Value) ++ List.replicate 1 ((.int .i64 0) : Value) ++ List.replicate 1 ((.int .u8 0) : Value) ++ List.replicate 1 ((.bool false) : Value) ++ List.replicate 1 ((.int .i64 0) : Value) ++ List.replicate 1 ((.int .u8 0) : Value) ++ List.replicate 1 ((.bool false) : Value) ++ List.replicate 1 ((.int .i64 0) : Value) ++ List.replicate 1 ((.int .u8 0) : Value) ++ List.replicate 1 ((.bool false) : Value) ++ List.replicate 1 ((.int .i64 0) : Value) ++ List.replicate 1 ((.int .u8 0) : Value) ++ List.replicate 1 ((.bool false) : Value) ++ List.replicate 1 ((.int .i64 0) : Value) ++ List.replicate 1 ((.int .u8 0) : Value) ++ List.replicate 1 ((.bool false) : Value) ++ List.replicate 1 ((.int .i64 0) : Value) ++ List.replicate 1 ((.int .u8 0) : Value) ++ List.replicate 1 ((.bool false) : Value) ++ List.replicate 1 ((.int .i64 0) : Value) ++ List.replicate 1 ((.int .u8 0) : Value) ++ List.replicate 1 ((.bool false) : Value) ++ List.replicate 1 ((.int .i64 0) : Value) ++ List.replicate 1 ((.int .u8 0) : Value) ++ List.replicate 1 ((.bool false) : Value) ++ List.replicate 1 ((.int .i64 0) : Value) ++ List.replicate 1 ((.int .u8 0) : Value) ++ List.replicate 1 ((.bool false) : Value) ++ List.replicate 1 ((.int .i64 0) : Value) ++ List.replicate 1 ((.int .u8 0) : Value) ++ List.replicate 1 ((.bool false) : Value) ++ List.replicate 1 ((.int .i64 0) : Value) ++ List.replicate 1 ((.int .u8 0) : Value) ++ List.replicate 1 ((.bool false) : Value) ++ List.replicate 1 ((.int .i64 0) : Value)).toArray [(0, 3), (3, 3), (6, 3), (9, 3), (12, 3), (15, 3), (18, 3), (21, 3), (24, 3), (27, 3), (30, 3), (33, 3), (36, 3), (39, 3), (42, 3), (45, 3), (48, 3), (51, 3), (54, 3), (57, 3), (60, 3), (63, 3), (66, 3), (69, 3), (72, 3), (75, 3), (78, 3), (81, 3), (84, 3), (87, 3), (90, 3), (93, 3), (96, 3), (99, 3), (102, 3), (105, 3), (108, 3), (111, 3), (114, 3), (117, 3), (120, 3), (123, 3), (126, 3), (129, 3), (132, 3), (135, 3), (138, 3), (141, 3), (144, 3), (147, 3), (150, 3), (153, 3), (156, 3), (159, 3), (162, 3), (165, 3), (168, 3), (171, 3), (174, 3), (177, 3), (180, 3), (183, 3), (186, 3), (189, 3)] parts := ⟨row_38, sz_38, by_38, ze_38, us_38, ar_38, bd_38⟩
theorem ty_39 : rowOf Try.prog 39 = some none ∧ szOf Try.prog 39 = some 1 ∧ bytesA Try.prog 39 = some 24 ∧ zeroOf Try.prog 39 = some #[(.slice none 0 0)] ∧ (Try.prog.underlying 39).isSome = true ∧ slOf Try.prog 39 = some (5, 1) ∧ isSlT Try.prog 39 = true := ⟨row_39, sz_39, by_39, ze_39, us_39, sl_39, isl_39⟩
theorem ty_40 : rowOf Try.prog 40 = some (some 4) ∧ szOf Try.prog 40 = some 4 ∧ bytesA Try.prog 40 = some 48 ∧ zeroOf Try.prog 40 = some #[(.int .i64 0), (.int .i64 0), (.int .i64 0), (.slice none 0 0)] ∧ (Try.prog.underlying 40).isSome = true ∧ fieldOff Try.prog 40 0 = some 0 ∧ fieldRow Try.prog 40 0 = some (0, none) ∧ fieldOff Try.prog 40 1 = some 1 ∧ fieldRow Try.prog 40 1 = some (1, none) ∧ fieldOff Try.prog 40 2 = some 2 ∧ fieldRow Try.prog 40 2 = some (2, none) ∧ fieldOff Try.prog 40 3 = some 3 ∧ fieldRow Try.prog 40 3 = some (3, none) ∧ ∀ parts : List (Nat × Value), Try.prog.built 40 parts = bld #[(.int .i64 0), (.int .i64 0), (.int .i64 0), (.slice none 0 0)] [(0, 1), (1, 1), (2, 1), (3, 1)] parts := ⟨row_40, sz_40, by_40, ze_40, us_40, fo_40_0, fr_40_0, fo_40_1, fr_40_1, fo_40_2, fr_40_2, fo_40_3, fr_40_3, bd_40⟩
theorem ty_41 : rowOf Try.prog 41 = some (some 4) ∧ szOf Try.prog 41 = some 4 ∧ bytesA Try.prog 41 = some 48 ∧ zeroOf Try.prog 41 = some #[(.int .i64 0), (.int .i64 0), (.int .i64 0), (.slice none 0 0)] ∧ (Try.prog.underlying 41).isSome = true ∧ fieldOff Try.prog 41 0 = some 0 ∧ fieldRow Try.prog 41 0 = some (0, none) ∧ fieldOff Try.prog 41 1 = some 1 ∧ fieldRow Try.prog 41 1 = some (1, none) ∧ fieldOff Try.prog 41 2 = some 2 ∧ fieldRow Try.prog 41 2 = some (2, none) ∧ fieldOff Try.prog 41 3 = some 3 ∧ fieldRow Try.prog 41 3 = some (3, none) ∧ ∀ parts : List (Nat × Value), Try.prog.built 41 parts = bld #[(.int .i64 0), (.int .i64 0), (.int .i64 0), (.slice none 0 0)] [(0, 1), (1, 1), (2, 1), (3, 1)] parts := ⟨row_41, sz_41, by_41, ze_41, us_41, fo_41_0, fr_41_0, fo_41_1, fr_41_1, fo_41_2, fr_41_2, fo_41_3, fr_41_3, bd_41⟩
theorem ty_42 : rowOf Try.prog 42 = some none ∧ szOf Try.prog 42 = some 1 ∧ bytesA Try.prog 42 = some 8 ∧ zeroOf Try.prog 42 = some #[.nilFunc] ∧ (Try.prog.underlying 42).isSome = true := ⟨row_42, sz_42, by_42, ze_42, us_42⟩
theorem ty_43 : rowOf Try.prog 43 = some none ∧ szOf Try.prog 43 = some 1 ∧ bytesA Try.prog 43 = some 8 ∧ zeroOf Try.prog 43 = some #[(.int .i64 0)] ∧ (Try.prog.underlying 43).isSome = true ∧ Try.prog.underlying 43 = some (.int .i64) := ⟨row_43, sz_43, by_43, ze_43, us_43, un_43⟩
theorem ty_44 : rowOf Try.prog 44 = some none ∧ szOf Try.prog 44 = some 1 ∧ bytesA Try.prog 44 = some 8 ∧ zeroOf Try.prog 44 = some #[.nilFunc] ∧ (Try.prog.underlying 44).isSome = true := ⟨row_44, sz_44, by_44, ze_44, us_44⟩
theorem ty_45 : rowOf Try.prog 45 = some none ∧ szOf Try.prog 45 = some 1 ∧ bytesA Try.prog 45 = some 8 ∧ zeroOf Try.prog 45 = some #[.nilFunc] ∧ (Try.prog.underlying 45).isSome = true := ⟨row_45, sz_45, by_45, ze_45, us_45⟩
theorem ty_46 : rowOf Try.prog 46 = some none ∧ szOf Try.prog 46 = some 1 ∧ bytesA Try.prog 46 = some 8 ∧ zeroOf Try.prog 46 = some #[.nilFunc] ∧ (Try.prog.underlying 46).isSome = true := ⟨row_46, sz_46, by_46, ze_46, us_46⟩
theorem ty_47 : rowOf Try.prog 47 = some none ∧ szOf Try.prog 47 = some 1 ∧ bytesA Try.prog 47 = some 8 ∧ zeroOf Try.prog 47 = some #[.nilFunc] ∧ (Try.prog.underlying 47).isSome = true := ⟨row_47, sz_47, by_47, ze_47, us_47⟩
theorem ty_49 : rowOf Try.prog 49 = some none ∧ szOf Try.prog 49 = some 1 ∧ bytesA Try.prog 49 = some 8 ∧ zeroOf Try.prog 49 = some #[.nilFunc] ∧ (Try.prog.underlying 49).isSome = true := ⟨row_49, sz_49, by_49, ze_49, us_49⟩
theorem ty_50 : rowOf Try.prog 50 = some none ∧ szOf Try.prog 50 = some 1 ∧ bytesA Try.prog 50 = some 8 ∧ zeroOf Try.prog 50 = some #[.nilFunc] ∧ (Try.prog.underlying 50).isSome = true := ⟨row_50, sz_50, by_50, ze_50, us_50⟩
theorem ty_51 : rowOf Try.prog 51 = some none ∧ szOf Try.prog 51 = some 1 ∧ bytesA Try.prog 51 = some 8 ∧ zeroOf Try.prog 51 = some #[.nilFunc] ∧ (Try.prog.underlying 51).isSome = true := ⟨row_51, sz_51, by_51, ze_51, us_51⟩
theorem ty_52 : rowOf Try.prog 52 = some none ∧ szOf Try.prog 52 = some 1 ∧ bytesA Try.prog 52 = some 8 ∧ zeroOf Try.prog 52 = some #[.nilFunc] ∧ (Try.prog.underlying 52).isSome = true := ⟨row_52, sz_52, by_52, ze_52, us_52⟩
theorem ty_54 : rowOf Try.prog 54 = some none ∧ szOf Try.prog 54 = some 1 ∧ bytesA Try.prog 54 = some 8 ∧ zeroOf Try.prog 54 = some #[.nilFunc] ∧ (Try.prog.underlying 54).isSome = true := ⟨row_54, sz_54, by_54, ze_54, us_54⟩
theorem ty_55 : rowOf Try.prog 55 = some none ∧ szOf Try.prog 55 = some 1 ∧ bytesA Try.prog 55 = some 8 ∧ zeroOf Try.prog 55 = some #[.nilFunc] ∧ (Try.prog.underlying 55).isSome = true := ⟨row_55, sz_55, by_55, ze_55, us_55⟩
theorem ty_56 : rowOf Try.prog 56 = some none ∧ szOf Try.prog 56 = some 1 ∧ bytesA Try.prog 56 = some 8 ∧ zeroOf Try.prog 56 = some #[.nilFunc] ∧ (Try.prog.underlying 56).isSome = true := ⟨row_56, sz_56, by_56, ze_56, us_56⟩
theorem ty_57 : rowOf Try.prog 57 = some none ∧ szOf Try.prog 57 = some 1 ∧ bytesA Try.prog 57 = some 8 ∧ zeroOf Try.prog 57 = some #[.nilFunc] ∧ (Try.prog.underlying 57).isSome = true := ⟨row_57, sz_57, by_57, ze_57, us_57⟩
theorem ty_58 : rowOf Try.prog 58 = some (some 64) ∧ szOf Try.prog 58 = some 64 ∧ bytesA Try.prog 58 = some 64 ∧ zeroOf Try.prog 58 = some (List.replicate 64 ((.int .u8 0) : Value)).toArray ∧ (Try.prog.underlying 58).isSome = true ∧ arrOf Try.prog 58 = some (64, 1, none) ∧ ∀ parts : List (Nat × Value), Try.prog.built 58 parts = bld (List.replicate 64 ((.int .u8 0) : Value)).toArray [(0, 1), (1, 1), (2, 1), (3, 1), (4, 1), (5, 1), (6, 1), (7, 1), (8, 1), (9, 1), (10, 1), (11, 1), (12, 1), (13, 1), (14, 1), (15, 1), (16, 1), (17, 1), (18, 1), (19, 1), (20, 1), (21, 1), (22, 1), (23, 1), (24, 1), (25, 1), (26, 1), (27, 1), (28, 1), (29, 1), (30, 1), (31, 1), (32, 1), (33, 1), (34, 1), (35, 1), (36, 1), (37, 1), (38, 1), (39, 1), (40, 1), (41, 1), (42, 1), (43, 1), (44, 1), (45, 1), (46, 1), (47, 1), (48, 1), (49, 1), (50, 1), (51, 1), (52, 1), (53, 1), (54, 1), (55, 1), (56, 1), (57, 1), (58, 1), (59, 1), (60, 1), (61, 1), (62, 1), (63, 1)] parts := ⟨row_58, sz_58, by_58, ze_58, us_58, ar_58, bd_58⟩
theorem ty_59 : rowOf Try.prog 59 = some (some 64) ∧ szOf Try.prog 59 = some 64 ∧ bytesA Try.prog 59 = some 64 ∧ zeroOf Try.prog 59 = some (List.replicate 64 ((.bool false) : Value)).toArray ∧ (Try.prog.underlying 59).isSome = true ∧ arrOf Try.prog 59 = some (64, 1, none) ∧ ∀ parts : List (Nat × Value), Try.prog.built 59 parts = bld (List.replicate 64 ((.bool false) : Value)).toArray [(0, 1), (1, 1), (2, 1), (3, 1), (4, 1), (5, 1), (6, 1), (7, 1), (8, 1), (9, 1), (10, 1), (11, 1), (12, 1), (13, 1), (14, 1), (15, 1), (16, 1), (17, 1), (18, 1), (19, 1), (20, 1), (21, 1), (22, 1), (23, 1), (24, 1), (25, 1), (26, 1), (27, 1), (28, 1), (29, 1), (30, 1), (31, 1), (32, 1), (33, 1), (34, 1), (35, 1), (36, 1), (37, 1), (38, 1), (39, 1), (40, 1), (41, 1), (42, 1), (43, 1), (44, 1), (45, 1), (46, 1), (47, 1), (48, 1), (49, 1), (50, 1), (51, 1), (52, 1), (53, 1), (54, 1), (55, 1), (56, 1), (57, 1), (58, 1), (59, 1), (60, 1), (61, 1), (62, 1), (63, 1)] parts := ⟨row_59, sz_59, by_59, ze_59, us_59, ar_59, bd_59⟩
theorem ty_60 : rowOf Try.prog 60 = some (some 64) ∧ szOf Try.prog 60 = some 64 ∧ bytesA Try.prog 60 = some 512 ∧ zeroOf Try.prog 60 = some (List.replicate 64 ((.int .i64 0) : Value)).toArray ∧ (Try.prog.underlying 60).isSome = true ∧ arrOf Try.prog 60 = some (64, 1, none) ∧ ∀ parts : List (Nat × Value), Try.prog.built 60 parts = bld (List.replicate 64 ((.int .i64 0) : Value)).toArray [(0, 1), (1, 1), (2, 1), (3, 1), (4, 1), (5, 1), (6, 1), (7, 1), (8, 1), (9, 1), (10, 1), (11, 1), (12, 1), (13, 1), (14, 1), (15, 1), (16, 1), (17, 1), (18, 1), (19, 1), (20, 1), (21, 1), (22, 1), (23, 1), (24, 1), (25, 1), (26, 1), (27, 1), (28, 1), (29, 1), (30, 1), (31, 1), (32, 1), (33, 1), (34, 1), (35, 1), (36, 1), (37, 1), (38, 1), (39, 1), (40, 1), (41, 1), (42, 1), (43, 1), (44, 1), (45, 1), (46, 1), (47, 1), (48, 1), (49, 1), (50, 1), (51, 1), (52, 1), (53, 1), (54, 1), (55, 1), (56, 1), (57, 1), (58, 1), (59, 1), (60, 1), (61, 1), (62, 1), (63, 1)] parts := ⟨row_60, sz_60, by_60, ze_60, us_60, ar_60, bd_60⟩
theorem ty_61 : rowOf Try.prog 61 = some (some 193) ∧ szOf Try.prog 61 = some 193 ∧ bytesA Try.prog 61 = some 648 ∧ zeroOf Try.prog 61 = some (List.replicate 1 ((.bool false) : Value) ++ List.replicate 64 ((.int .u8 0) : Value) ++ List.replicate 64 ((.bool false) : Value) ++ List.replicate 64 ((.int .i64 0) : Value)).toArray ∧ (Try.prog.underlying 61).isSome = true ∧ fieldOff Try.prog 61 0 = some 0 ∧ fieldRow Try.prog 61 0 = some (0, none) ∧ fieldOff Try.prog 61 1 = some 1 ∧ fieldRow Try.prog 61 1 = some (1, some 64) ∧ fieldOff Try.prog 61 2 = some 65 ∧ fieldRow Try.prog 61 2 = some (65, some 64) ∧ fieldOff Try.prog 61 3 = some 129 ∧ fieldRow Try.prog 61 3 = some (129, some 64) ∧ ∀ parts : List (Nat × Value), Try.prog.built 61 parts = bld (List.replicate 1 ((.bool false) : Value) ++ List.replicate 64 ((.int .u8 0) : Value) ++ List.replicate 64 ((.bool false) : Value) ++ List.replicate 64 ((.int .i64 0) : Value)).toArray [(0, 1), (1, 64), (65, 64), (129, 64)] parts := ⟨row_61, sz_61, by_61, ze_61, us_61, fo_61_0, fr_61_0, fo_61_1, fr_61_1, fo_61_2, fr_61_2, fo_61_3, fr_61_3, bd_61⟩
theorem ty_62 : rowOf Try.prog 62 = some (some 193) ∧ szOf Try.prog 62 = some 193 ∧ bytesA Try.prog 62 = some 648 ∧ zeroOf Try.prog 62 = some (List.replicate 1 ((.bool false) : Value) ++ List.replicate 64 ((.int .u8 0) : Value) ++ List.replicate 64 ((.bool false) : Value) ++ List.replicate 64 ((.int .i64 0) : Value)).toArray ∧ (Try.prog.underlying 62).isSome = true ∧ fieldOff Try.prog 62 0 = some 0 ∧ fieldRow Try.prog 62 0 = some (0, none) ∧ fieldOff Try.prog 62 1 = some 1 ∧ fieldRow Try.prog 62 1 = some (1, some 64) ∧ fieldOff Try.prog 62 2 = some 65 ∧ fieldRow Try.prog 62 2 = some (65, some 64) ∧ fieldOff Try.prog 62 3 = some 129 ∧ fieldRow Try.prog 62 3 = some (129, some 64) ∧ ∀ parts : List (Nat × Value), Try.prog.built 62 parts = bld (List.replicate 1 ((.bool false) : Value) ++ List.replicate 64 ((.int .u8 0) : Value) ++ List.replicate 64 ((.bool false) : Value) ++ List.replicate 64 ((.int .i64 0) : Value)).toArray [(0, 1), (1, 64), (65, 64), (129, 64)] parts := ⟨row_62, sz_62, by_62, ze_62, us_62, fo_62_0, fr_62_0, fo_62_1, fr_62_1, fo_62_2, fr_62_2, fo_62_3, fr_62_3, bd_62⟩
theorem ty_63 : rowOf Try.prog 63 = some none ∧ szOf Try.prog 63 = some 1 ∧ bytesA Try.prog 63 = some 8 ∧ zeroOf Try.prog 63 = some #[.nilFunc] ∧ (Try.prog.underlying 63).isSome = true := ⟨row_63, sz_63, by_63, ze_63, us_63⟩
theorem ty_64 : rowOf Try.prog 64 = some none ∧ szOf Try.prog 64 = some 1 ∧ bytesA Try.prog 64 = some 24 ∧ zeroOf Try.prog 64 = some #[(.slice none 0 0)] ∧ (Try.prog.underlying 64).isSome = true ∧ slOf Try.prog 64 = some (71, 3) ∧ isSlT Try.prog 64 = true := ⟨row_64, sz_64, by_64, ze_64, us_64, sl_64, isl_64⟩
theorem ty_65 : rowOf Try.prog 65 = some none ∧ szOf Try.prog 65 = some 1 ∧ bytesA Try.prog 65 = some 8 ∧ zeroOf Try.prog 65 = some #[(.pointer none)] ∧ (Try.prog.underlying 65).isSome = true ∧ isPtr Try.prog 65 = true := ⟨row_65, sz_65, by_65, ze_65, us_65, ip_65⟩
theorem ty_66 : rowOf Try.prog 66 = some none ∧ szOf Try.prog 66 = some 1 ∧ bytesA Try.prog 66 = some 8 ∧ zeroOf Try.prog 66 = some #[.nilFunc] ∧ (Try.prog.underlying 66).isSome = true := ⟨row_66, sz_66, by_66, ze_66, us_66⟩
theorem ty_67 : rowOf Try.prog 67 = some none ∧ szOf Try.prog 67 = some 1 ∧ bytesA Try.prog 67 = some 24 ∧ zeroOf Try.prog 67 = some #[(.slice none 0 0)] ∧ (Try.prog.underlying 67).isSome = true ∧ slOf Try.prog 67 = some (73, 3) ∧ isSlT Try.prog 67 = true := ⟨row_67, sz_67, by_67, ze_67, us_67, sl_67, isl_67⟩
theorem ty_68 : rowOf Try.prog 68 = some none ∧ szOf Try.prog 68 = some 1 ∧ bytesA Try.prog 68 = some 8 ∧ zeroOf Try.prog 68 = some #[(.map none)] ∧ (Try.prog.underlying 68).isSome = true := ⟨row_68, sz_68, by_68, ze_68, us_68⟩
theorem ty_69 : rowOf Try.prog 69 = some none ∧ szOf Try.prog 69 = some 1 ∧ bytesA Try.prog 69 = some 8 ∧ zeroOf Try.prog 69 = some #[.nilFunc] ∧ (Try.prog.underlying 69).isSome = true := ⟨row_69, sz_69, by_69, ze_69, us_69⟩
theorem ty_70 : rowOf Try.prog 70 = some (some 3) ∧ szOf Try.prog 70 = some 3 ∧ bytesA Try.prog 70 = some 16 ∧ zeroOf Try.prog 70 = some #[(.int .i64 0), (.bool false), (.int .u8 0)] ∧ (Try.prog.underlying 70).isSome = true ∧ fieldOff Try.prog 70 0 = some 0 ∧ fieldRow Try.prog 70 0 = some (0, none) ∧ fieldOff Try.prog 70 1 = some 1 ∧ fieldRow Try.prog 70 1 = some (1, none) ∧ fieldOff Try.prog 70 2 = some 2 ∧ fieldRow Try.prog 70 2 = some (2, none) ∧ ∀ parts : List (Nat × Value), Try.prog.built 70 parts = bld #[(.int .i64 0), (.bool false), (.int .u8 0)] [(0, 1), (1, 1), (2, 1)] parts := ⟨row_70, sz_70, by_70, ze_70, us_70, fo_70_0, fr_70_0, fo_70_1, fr_70_1, fo_70_2, fr_70_2, bd_70⟩
theorem ty_71 : rowOf Try.prog 71 = some (some 3) ∧ szOf Try.prog 71 = some 3 ∧ bytesA Try.prog 71 = some 16 ∧ zeroOf Try.prog 71 = some #[(.int .i64 0), (.bool false), (.int .u8 0)] ∧ (Try.prog.underlying 71).isSome = true ∧ fieldOff Try.prog 71 0 = some 0 ∧ fieldRow Try.prog 71 0 = some (0, none) ∧ fieldOff Try.prog 71 1 = some 1 ∧ fieldRow Try.prog 71 1 = some (1, none) ∧ fieldOff Try.prog 71 2 = some 2 ∧ fieldRow Try.prog 71 2 = some (2, none) ∧ ∀ parts : List (Nat × Value), Try.prog.built 71 parts = bld #[(.int .i64 0), (.bool false), (.int .u8 0)] [(0, 1), (1, 1), (2, 1)] parts := ⟨row_71, sz_71, by_71, ze_71, us_71, fo_71_0, fr_71_0, fo_71_1, fr_71_1, fo_71_2, fr_71_2, bd_71⟩
theorem ty_72 : rowOf Try.prog 72 = some (some 3) ∧ szOf Try.prog 72 = some 3 ∧ bytesA Try.prog 72 = some 24 ∧ zeroOf Try.prog 72 = some #[(.int .i64 0), (.bool false), (.int .i64 0)] ∧ (Try.prog.underlying 72).isSome = true ∧ fieldOff Try.prog 72 0 = some 0 ∧ fieldRow Try.prog 72 0 = some (0, none) ∧ fieldOff Try.prog 72 1 = some 1 ∧ fieldRow Try.prog 72 1 = some (1, none) ∧ fieldOff Try.prog 72 2 = some 2 ∧ fieldRow Try.prog 72 2 = some (2, none) ∧ ∀ parts : List (Nat × Value), Try.prog.built 72 parts = bld #[(.int .i64 0), (.bool false), (.int .i64 0)] [(0, 1), (1, 1), (2, 1)] parts := ⟨row_72, sz_72, by_72, ze_72, us_72, fo_72_0, fr_72_0, fo_72_1, fr_72_1, fo_72_2, fr_72_2, bd_72⟩
theorem ty_73 : rowOf Try.prog 73 = some (some 3) ∧ szOf Try.prog 73 = some 3 ∧ bytesA Try.prog 73 = some 24 ∧ zeroOf Try.prog 73 = some #[(.int .i64 0), (.bool false), (.int .i64 0)] ∧ (Try.prog.underlying 73).isSome = true ∧ fieldOff Try.prog 73 0 = some 0 ∧ fieldRow Try.prog 73 0 = some (0, none) ∧ fieldOff Try.prog 73 1 = some 1 ∧ fieldRow Try.prog 73 1 = some (1, none) ∧ fieldOff Try.prog 73 2 = some 2 ∧ fieldRow Try.prog 73 2 = some (2, none) ∧ ∀ parts : List (Nat × Value), Try.prog.built 73 parts = bld #[(.int .i64 0), (.bool false), (.int .i64 0)] [(0, 1), (1, 1), (2, 1)] parts := ⟨row_73, sz_73, by_73, ze_73, us_73, fo_73_0, fr_73_0, fo_73_1, fr_73_1, fo_73_2, fr_73_2, bd_73⟩
theorem ty_74 : rowOf Try.prog 74 = some (some 2) ∧ szOf Try.prog 74 = some 2 ∧ bytesA Try.prog 74 = some 16 ∧ zeroOf Try.prog 74 = some #[(.int .i64 0), (.int .i64 0)] ∧ (Try.prog.underlying 74).isSome = true ∧ arrOf Try.prog 74 = some (2, 1, none) ∧ ∀ parts : List (Nat × Value), Try.prog.built 74 parts = bld #[(.int .i64 0), (.int .i64 0)] [(0, 1), (1, 1)] parts := ⟨row_74, sz_74, by_74, ze_74, us_74, ar_74, bd_74⟩
theorem ty_75 : rowOf Try.prog 75 = some (some 4) ∧ szOf Try.prog 75 = some 4 ∧ bytesA Try.prog 75 = some 4 ∧ zeroOf Try.prog 75 = some #[(.bool false), (.bool false), (.bool false), (.bool false)] ∧ (Try.prog.underlying 75).isSome = true ∧ arrOf Try.prog 75 = some (4, 1, none) ∧ ∀ parts : List (Nat × Value), Try.prog.built 75 parts = bld #[(.bool false), (.bool false), (.bool false), (.bool false)] [(0, 1), (1, 1), (2, 1), (3, 1)] parts := ⟨row_75, sz_75, by_75, ze_75, us_75, ar_75, bd_75⟩
theorem ty_77 : rowOf Try.prog 77 = some none ∧ szOf Try.prog 77 = some 1 ∧ bytesA Try.prog 77 = some 8 ∧ zeroOf Try.prog 77 = some #[.nilFunc] ∧ (Try.prog.underlying 77).isSome = true := ⟨row_77, sz_77, by_77, ze_77, us_77⟩
theorem ty_79 : rowOf Try.prog 79 = some none ∧ szOf Try.prog 79 = some 1 ∧ bytesA Try.prog 79 = some 8 ∧ zeroOf Try.prog 79 = some #[.nilFunc] ∧ (Try.prog.underlying 79).isSome = true := ⟨row_79, sz_79, by_79, ze_79, us_79⟩
theorem ty_80 : rowOf Try.prog 80 = some none ∧ szOf Try.prog 80 = some 1 ∧ bytesA Try.prog 80 = some 8 ∧ zeroOf Try.prog 80 = some #[.nilFunc] ∧ (Try.prog.underlying 80).isSome = true := ⟨row_80, sz_80, by_80, ze_80, us_80⟩
theorem ty_81 : rowOf Try.prog 81 = some none ∧ szOf Try.prog 81 = some 1 ∧ bytesA Try.prog 81 = some 8 ∧ zeroOf Try.prog 81 = some #[.nilFunc] ∧ (Try.prog.underlying 81).isSome = true := ⟨row_81, sz_81, by_81, ze_81, us_81⟩
theorem ty_82 : rowOf Try.prog 82 = some none ∧ szOf Try.prog 82 = some 1 ∧ bytesA Try.prog 82 = some 24 ∧ zeroOf Try.prog 82 = some #[(.slice none 0 0)] ∧ (Try.prog.underlying 82).isSome = true ∧ slOf Try.prog 82 = some (115, 10) ∧ isSlT Try.prog 82 = true := ⟨row_82, sz_82, by_82, ze_82, us_82, sl_82, isl_82⟩
theorem ty_83 : rowOf Try.prog 83 = some (some 2) ∧ szOf Try.prog 83 = some 2 ∧ bytesA Try.prog 83 = some 32 ∧ zeroOf Try.prog 83 = some #[(.bool false), (.slice none 0 0)] ∧ (Try.prog.underlying 83).isSome = true ∧ fieldOff Try.prog 83 0 = some 0 ∧ fieldRow Try.prog 83 0 = some (0, none) ∧ fieldOff Try.prog 83 1 = some 1 ∧ fieldRow Try.prog 83 1 = some (1, none) ∧ ∀ parts : List (Nat × Value), Try.prog.built 83 parts = bld #[(.bool false), (.slice none 0 0)] [(0, 1), (1, 1)] parts := ⟨row_83, sz_83, by_83, ze_83, us_83, fo_83_0, fr_83_0, fo_83_1, fr_83_1, bd_83⟩
theorem ty_84 : rowOf Try.prog 84 = some (some 2) ∧ szOf Try.prog 84 = some 2 ∧ bytesA Try.prog 84 = some 32 ∧ zeroOf Try.prog 84 = some #[(.bool false), (.slice none 0 0)] ∧ (Try.prog.underlying 84).isSome = true ∧ fieldOff Try.prog 84 0 = some 0 ∧ fieldRow Try.prog 84 0 = some (0, none) ∧ fieldOff Try.prog 84 1 = some 1 ∧ fieldRow Try.prog 84 1 = some (1, none) ∧ ∀ parts : List (Nat × Value), Try.prog.built 84 parts = bld #[(.bool false), (.slice none 0 0)] [(0, 1), (1, 1)] parts := ⟨row_84, sz_84, by_84, ze_84, us_84, fo_84_0, fr_84_0, fo_84_1, fr_84_1, bd_84⟩
theorem ty_85 : rowOf Try.prog 85 = some none ∧ szOf Try.prog 85 = some 1 ∧ bytesA Try.prog 85 = some 24 ∧ zeroOf Try.prog 85 = some #[(.slice none 0 0)] ∧ (Try.prog.underlying 85).isSome = true ∧ slOf Try.prog 85 = some (101, 6) ∧ isSlT Try.prog 85 = true := ⟨row_85, sz_85, by_85, ze_85, us_85, sl_85, isl_85⟩
theorem ty_86 : rowOf Try.prog 86 = some (some 2) ∧ szOf Try.prog 86 = some 2 ∧ bytesA Try.prog 86 = some 48 ∧ zeroOf Try.prog 86 = some #[(.slice none 0 0), (.slice none 0 0)] ∧ (Try.prog.underlying 86).isSome = true ∧ arrOf Try.prog 86 = some (2, 1, none) ∧ ∀ parts : List (Nat × Value), Try.prog.built 86 parts = bld #[(.slice none 0 0), (.slice none 0 0)] [(0, 1), (1, 1)] parts := ⟨row_86, sz_86, by_86, ze_86, us_86, ar_86, bd_86⟩
theorem ty_87 : rowOf Try.prog 87 = some (some 3) ∧ szOf Try.prog 87 = some 3 ∧ bytesA Try.prog 87 = some 56 ∧ zeroOf Try.prog 87 = some #[(.int .i64 0), (.slice none 0 0), (.slice none 0 0)] ∧ (Try.prog.underlying 87).isSome = true ∧ fieldOff Try.prog 87 0 = some 0 ∧ fieldRow Try.prog 87 0 = some (0, none) ∧ fieldOff Try.prog 87 1 = some 1 ∧ fieldRow Try.prog 87 1 = some (1, some 2) ∧ ∀ parts : List (Nat × Value), Try.prog.built 87 parts = bld #[(.int .i64 0), (.slice none 0 0), (.slice none 0 0)] [(0, 1), (1, 2)] parts := ⟨row_87, sz_87, by_87, ze_87, us_87, fo_87_0, fr_87_0, fo_87_1, fr_87_1, bd_87⟩
theorem ty_88 : rowOf Try.prog 88 = some (some 3) ∧ szOf Try.prog 88 = some 3 ∧ bytesA Try.prog 88 = some 56 ∧ zeroOf Try.prog 88 = some #[(.int .i64 0), (.slice none 0 0), (.slice none 0 0)] ∧ (Try.prog.underlying 88).isSome = true ∧ fieldOff Try.prog 88 0 = some 0 ∧ fieldRow Try.prog 88 0 = some (0, none) ∧ fieldOff Try.prog 88 1 = some 1 ∧ fieldRow Try.prog 88 1 = some (1, some 2) ∧ ∀ parts : List (Nat × Value), Try.prog.built 88 parts = bld #[(.int .i64 0), (.slice none 0 0), (.slice none 0 0)] [(0, 1), (1, 2)] parts := ⟨row_88, sz_88, by_88, ze_88, us_88, fo_88_0, fr_88_0, fo_88_1, fr_88_1, bd_88⟩
theorem ty_89 : rowOf Try.prog 89 = some none ∧ szOf Try.prog 89 = some 1 ∧ bytesA Try.prog 89 = some 8 ∧ zeroOf Try.prog 89 = some #[.nilFunc] ∧ (Try.prog.underlying 89).isSome = true := ⟨row_89, sz_89, by_89, ze_89, us_89⟩
theorem ty_90 : rowOf Try.prog 90 = some none ∧ szOf Try.prog 90 = some 1 ∧ bytesA Try.prog 90 = some 24 ∧ zeroOf Try.prog 90 = some #[(.slice none 0 0)] ∧ (Try.prog.underlying 90).isSome = true ∧ slOf Try.prog 90 = some (31, 8) ∧ isSlT Try.prog 90 = true := ⟨row_90, sz_90, by_90, ze_90, us_90, sl_90, isl_90⟩
theorem ty_91 : rowOf Try.prog 91 = some none ∧ szOf Try.prog 91 = some 1 ∧ bytesA Try.prog 91 = some 8 ∧ zeroOf Try.prog 91 = some #[.nilFunc] ∧ (Try.prog.underlying 91).isSome = true := ⟨row_91, sz_91, by_91, ze_91, us_91⟩
theorem ty_92 : rowOf Try.prog 92 = some none ∧ szOf Try.prog 92 = some 1 ∧ bytesA Try.prog 92 = some 8 ∧ zeroOf Try.prog 92 = some #[.nilFunc] ∧ (Try.prog.underlying 92).isSome = true := ⟨row_92, sz_92, by_92, ze_92, us_92⟩
theorem ty_93 : rowOf Try.prog 93 = some none ∧ szOf Try.prog 93 = some 1 ∧ bytesA Try.prog 93 = some 24 ∧ zeroOf Try.prog 93 = some #[(.slice none 0 0)] ∧ (Try.prog.underlying 93).isSome = true ∧ slOf Try.prog 93 = some (97, 8) ∧ isSlT Try.prog 93 = true := ⟨row_93, sz_93, by_93, ze_93, us_93, sl_93, isl_93⟩
theorem ty_94 : rowOf Try.prog 94 = some none ∧ szOf Try.prog 94 = some 1 ∧ bytesA Try.prog 94 = some 8 ∧ zeroOf Try.prog 94 = some #[.nilFunc] ∧ (Try.prog.underlying 94).isSome = true := ⟨row_94, sz_94, by_94, ze_94, us_94⟩
theorem ty_95 : rowOf Try.prog 95 = some none ∧ szOf Try.prog 95 = some 1 ∧ bytesA Try.prog 95 = some 24 ∧ zeroOf Try.prog 95 = some #[(.slice none 0 0)] ∧ (Try.prog.underlying 95).isSome = true ∧ slOf Try.prog 95 = some (103, 6) ∧ isSlT Try.prog 95 = true := ⟨row_95, sz_95, by_95, ze_95, us_95, sl_95, isl_95⟩
theorem ty_96 : rowOf Try.prog 96 = some none ∧ szOf Try.prog 96 = some 1 ∧ bytesA Try.prog 96 = some 8 ∧ zeroOf Try.prog 96 = some #[.nilFunc] ∧ (Try.prog.underlying 96).isSome = true := ⟨row_96, sz_96, by_96, ze_96, us_96⟩
theorem ty_97 : rowOf Try.prog 97 = some (some 8) ∧ szOf Try.prog 97 = some 8 ∧ bytesA Try.prog 97 = some 64 ∧ zeroOf Try.prog 97 = some #[(.int .i64 0), (.int .i64 0), (.int .i64 0), (.int .i64 0), (.int .i64 0), (.int .i64 0), (.int .i64 0), (.bool false)] ∧ (Try.prog.underlying 97).isSome = true ∧ fieldOff Try.prog 97 0 = some 0 ∧ fieldRow Try.prog 97 0 = some (0, none) ∧ fieldOff Try.prog 97 1 = some 1 ∧ fieldRow Try.prog 97 1 = some (1, none) ∧ fieldOff Try.prog 97 2 = some 2 ∧ fieldRow Try.prog 97 2 = some (2, none) ∧ fieldOff Try.prog 97 3 = some 3 ∧ fieldRow Try.prog 97 3 = some (3, none) ∧ fieldOff Try.prog 97 4 = some 4 ∧ fieldRow Try.prog 97 4 = some (4, none) ∧ fieldOff Try.prog 97 5 = some 5 ∧ fieldRow Try.prog 97 5 = some (5, none) ∧ fieldOff Try.prog 97 6 = some 6 ∧ fieldRow Try.prog 97 6 = some (6, none) ∧ fieldOff Try.prog 97 7 = some 7 ∧ fieldRow Try.prog 97 7 = some (7, none) ∧ ∀ parts : List (Nat × Value), Try.prog.built 97 parts = bld #[(.int .i64 0), (.int .i64 0), (.int .i64 0), (.int .i64 0), (.int .i64 0), (.int .i64 0), (.int .i64 0), (.bool false)] [(0, 1), (1, 1), (2, 1), (3, 1), (4, 1), (5, 1), (6, 1), (7, 1)] parts := ⟨row_97, sz_97, by_97, ze_97, us_97, fo_97_0, fr_97_0, fo_97_1, fr_97_1, fo_97_2, fr_97_2, fo_97_3, fr_97_3, fo_97_4, fr_97_4, fo_97_5, fr_97_5, fo_97_6, fr_97_6, fo_97_7, fr_97_7, bd_97⟩
theorem ty_98 : rowOf Try.prog 98 = some none ∧ szOf Try.prog 98 = some 1 ∧ bytesA Try.prog 98 = some 8 ∧ zeroOf Try.prog 98 = some #[.nilFunc] ∧ (Try.prog.underlying 98).isSome = true := ⟨row_98, sz_98, by_98, ze_98, us_98⟩
theorem ty_99 : rowOf Try.prog 99 = some none ∧ szOf Try.prog 99 = some 1 ∧ bytesA Try.prog 99 = some 24 ∧ zeroOf Try.prog 99 = some #[(.slice none 0 0)] ∧ (Try.prog.underlying 99).isSome = true ∧ slOf Try.prog 99 = some (3, 1) ∧ isSlT Try.prog 99 = true := ⟨row_99, sz_99, by_99, ze_99, us_99, sl_99, isl_99⟩
theorem ty_100 : rowOf Try.prog 100 = some (some 6) ∧ szOf Try.prog 100 = some 6 ∧ bytesA Try.prog 100 = some 80 ∧ zeroOf Try.prog 100 = some #[(.int .i64 0), (.int .i64 0), (.int .i64 0), (.int .i64 0), (.slice none 0 0), (.slice none 0 0)] ∧ (Try.prog.underlying 100).isSome = true ∧ fieldOff Try.prog 100 0 = some 0 ∧ fieldRow Try.prog 100 0 = some (0, none) ∧ fieldOff Try.prog 100 1 = some 1 ∧ fieldRow Try.prog 100 1 = some (1, none) ∧ fieldOff Try.prog 100 2 = some 2 ∧ fieldRow Try.prog 100 2 = some (2, none) ∧ fieldOff Try.prog 100 3 = some 3 ∧ fieldRow Try.prog 100 3 = some (3, none) ∧ fieldOff Try.prog 100 4 = some 4 ∧ fieldRow Try.prog 100 4 = some (4, none) ∧ fieldOff Try.prog 100 5 = some 5 ∧ fieldRow Try.prog 100 5 = some (5, none) ∧ ∀ parts : List (Nat × Value), Try.prog.built 100 parts = bld #[(.int .i64 0), (.int .i64 0), (.int .i64 0), (.int .i64 0), (.slice none 0 0), (.slice none 0 0)] [(0, 1), (1, 1), (2, 1), (3, 1), (4, 1), (5, 1)] parts := ⟨row_100, sz_100, by_100, ze_100, us_100, fo_100_0, fr_100_0, fo_100_1, fr_100_1, fo_100_2, fr_100_2, fo_100_3, fr_100_3, fo_100_4, fr_100_4, fo_100_5, fr_100_5, bd_100⟩
theorem ty_101 : rowOf Try.prog 101 = some (some 6) ∧ szOf Try.prog 101 = some 6 ∧ bytesA Try.prog 101 = some 80 ∧ zeroOf Try.prog 101 = some #[(.int .i64 0), (.int .i64 0), (.int .i64 0), (.int .i64 0), (.slice none 0 0), (.slice none 0 0)] ∧ (Try.prog.underlying 101).isSome = true ∧ fieldOff Try.prog 101 0 = some 0 ∧ fieldRow Try.prog 101 0 = some (0, none) ∧ fieldOff Try.prog 101 1 = some 1 ∧ fieldRow Try.prog 101 1 = some (1, none) ∧ fieldOff Try.prog 101 2 = some 2 ∧ fieldRow Try.prog 101 2 = some (2, none) ∧ fieldOff Try.prog 101 3 = some 3 ∧ fieldRow Try.prog 101 3 = some (3, none) ∧ fieldOff Try.prog 101 4 = some 4 ∧ fieldRow Try.prog 101 4 = some (4, none) ∧ fieldOff Try.prog 101 5 = some 5 ∧ fieldRow Try.prog 101 5 = some (5, none) ∧ ∀ parts : List (Nat × Value), Try.prog.built 101 parts = bld #[(.int .i64 0), (.int .i64 0), (.int .i64 0), (.int .i64 0), (.slice none 0 0), (.slice none 0 0)] [(0, 1), (1, 1), (2, 1), (3, 1), (4, 1), (5, 1)] parts := ⟨row_101, sz_101, by_101, ze_101, us_101, fo_101_0, fr_101_0, fo_101_1, fr_101_1, fo_101_2, fr_101_2, fo_101_3, fr_101_3, fo_101_4, fr_101_4, fo_101_5, fr_101_5, bd_101⟩
theorem ty_102 : rowOf Try.prog 102 = some none ∧ szOf Try.prog 102 = some 1 ∧ bytesA Try.prog 102 = some 8 ∧ zeroOf Try.prog 102 = some #[.nilFunc] ∧ (Try.prog.underlying 102).isSome = true := ⟨row_102, sz_102, by_102, ze_102, us_102⟩
theorem ty_103 : rowOf Try.prog 103 = some (some 6) ∧ szOf Try.prog 103 = some 6 ∧ bytesA Try.prog 103 = some 80 ∧ zeroOf Try.prog 103 = some #[(.int .i64 0), (.int .i64 0), (.int .i64 0), (.int .i64 0), (.slice none 0 0), (.slice none 0 0)] ∧ (Try.prog.underlying 103).isSome = true ∧ fieldOff Try.prog 103 0 = some 0 ∧ fieldRow Try.prog 103 0 = some (0, none) ∧ fieldOff Try.prog 103 1 = some 1 ∧ fieldRow Try.prog 103 1 = some (1, none) ∧ fieldOff Try.prog 103 2 = some 2 ∧ fieldRow Try.prog 103 2 = some (2, none) ∧ fieldOff Try.prog 103 3 = some 3 ∧ fieldRow Try.prog 103 3 = some (3, none) ∧ fieldOff Try.prog 103 4 = some 4 ∧ fieldRow Try.prog 103 4 = some (4, none) ∧ fieldOff Try.prog 103 5 = some 5 ∧ fieldRow Try.prog 103 5 = some (5, none) ∧ ∀ parts : List (Nat × Value), Try.prog.built 103 parts = bld #[(.int .i64 0), (.int .i64 0), (.int .i64 0), (.int .i64 0), (.slice none 0 0), (.slice none 0 0)] [(0, 1), (1, 1), (2, 1), (3, 1), (4, 1), (5, 1)] parts := ⟨row_103, sz_103, by_103, ze_103, us_103, fo_103_0, fr_103_0, fo_103_1, fr_103_1, fo_103_2, fr_103_2, fo_103_3, fr_103_3, fo_103_4, fr_103_4, fo_103_5, fr_103_5, bd_103⟩
theorem ty_104 : rowOf Try.prog 104 = some none ∧ szOf Try.prog 104 = some 1 ∧ bytesA Try.prog 104 = some 8 ∧ zeroOf Try.prog 104 = some #[.nilFunc] ∧ (Try.prog.underlying 104).isSome = true := ⟨row_104, sz_104, by_104, ze_104, us_104⟩
theorem ty_105 : rowOf Try.prog 105 = some none ∧ szOf Try.prog 105 = some 1 ∧ bytesA Try.prog 105 = some 8 ∧ zeroOf Try.prog 105 = some #[.nilFunc] ∧ (Try.prog.underlying 105).isSome = true := ⟨row_105, sz_105, by_105, ze_105, us_105⟩
theorem ty_106 : rowOf Try.prog 106 = some none ∧ szOf Try.prog 106 = some 1 ∧ bytesA Try.prog 106 = some 8 ∧ zeroOf Try.prog 106 = some #[.nilFunc] ∧ (Try.prog.underlying 106).isSome = true := ⟨row_106, sz_106, by_106, ze_106, us_106⟩
theorem ty_107 : rowOf Try.prog 107 = some (some 2) ∧ szOf Try.prog 107 = some 2 ∧ bytesA Try.prog 107 = some 2 ∧ zeroOf Try.prog 107 = some #[(.bool false), (.bool false)] ∧ (Try.prog.underlying 107).isSome = true ∧ arrOf Try.prog 107 = some (2, 1, none) ∧ ∀ parts : List (Nat × Value), Try.prog.built 107 parts = bld #[(.bool false), (.bool false)] [(0, 1), (1, 1)] parts := ⟨row_107, sz_107, by_107, ze_107, us_107, ar_107, bd_107⟩
theorem ty_108 : rowOf Try.prog 108 = some none ∧ szOf Try.prog 108 = some 1 ∧ bytesA Try.prog 108 = some 8 ∧ zeroOf Try.prog 108 = some #[(.int .u64 0)] ∧ (Try.prog.underlying 108).isSome = true ∧ Try.prog.underlying 108 = some (.int .u64) := ⟨row_108, sz_108, by_108, ze_108, us_108, un_108⟩
theorem ty_109 : rowOf Try.prog 109 = some none ∧ szOf Try.prog 109 = some 1 ∧ bytesA Try.prog 109 = some 8 ∧ zeroOf Try.prog 109 = some #[.nilFunc] ∧ (Try.prog.underlying 109).isSome = true := ⟨row_109, sz_109, by_109, ze_109, us_109⟩
theorem ty_110 : rowOf Try.prog 110 = some none ∧ szOf Try.prog 110 = some 1 ∧ bytesA Try.prog 110 = some 8 ∧ zeroOf Try.prog 110 = some #[.nilFunc] ∧ (Try.prog.underlying 110).isSome = true := ⟨row_110, sz_110, by_110, ze_110, us_110⟩
theorem ty_111 : rowOf Try.prog 111 = some none ∧ szOf Try.prog 111 = some 1 ∧ bytesA Try.prog 111 = some 8 ∧ zeroOf Try.prog 111 = some #[.nilFunc] ∧ (Try.prog.underlying 111).isSome = true := ⟨row_111, sz_111, by_111, ze_111, us_111⟩
theorem ty_112 : rowOf Try.prog 112 = some none ∧ szOf Try.prog 112 = some 1 ∧ bytesA Try.prog 112 = some 8 ∧ zeroOf Try.prog 112 = some #[.nilFunc] ∧ (Try.prog.underlying 112).isSome = true := ⟨row_112, sz_112, by_112, ze_112, us_112⟩
theorem ty_113 : rowOf Try.prog 113 = some (some 5) ∧ szOf Try.prog 113 = some 5 ∧ bytesA Try.prog 113 = some 5 ∧ zeroOf Try.prog 113 = some #[(.bool false), (.bool false), (.bool false), (.bool false), (.bool false)] ∧ (Try.prog.underlying 113).isSome = true ∧ fieldOff Try.prog 113 0 = some 0 ∧ fieldRow Try.prog 113 0 = some (0, none) ∧ fieldOff Try.prog 113 1 = some 1 ∧ fieldRow Try.prog 113 1 = some (1, some 4) ∧ ∀ parts : List (Nat × Value), Try.prog.built 113 parts = bld #[(.bool false), (.bool false), (.bool false), (.bool false), (.bool false)] [(0, 1), (1, 4)] parts := ⟨row_113, sz_113, by_113, ze_113, us_113, fo_113_0, fr_113_0, fo_113_1, fr_113_1, bd_113⟩
theorem ty_114 : rowOf Try.prog 114 = some (some 5) ∧ szOf Try.prog 114 = some 5 ∧ bytesA Try.prog 114 = some 5 ∧ zeroOf Try.prog 114 = some #[(.bool false), (.bool false), (.bool false), (.bool false), (.bool false)] ∧ (Try.prog.underlying 114).isSome = true ∧ fieldOff Try.prog 114 0 = some 0 ∧ fieldRow Try.prog 114 0 = some (0, none) ∧ fieldOff Try.prog 114 1 = some 1 ∧ fieldRow Try.prog 114 1 = some (1, some 4) ∧ ∀ parts : List (Nat × Value), Try.prog.built 114 parts = bld #[(.bool false), (.bool false), (.bool false), (.bool false), (.bool false)] [(0, 1), (1, 4)] parts := ⟨row_114, sz_114, by_114, ze_114, us_114, fo_114_0, fr_114_0, fo_114_1, fr_114_1, bd_114⟩
theorem ty_115 : rowOf Try.prog 115 = some (some 10) ∧ szOf Try.prog 115 = some 10 ∧ bytesA Try.prog 115 = some 10 ∧ zeroOf Try.prog 115 = some #[(.bool false), (.bool false), (.bool false), (.bool false), (.bool false), (.bool false), (.bool false), (.bool false), (.bool false), (.bool false)] ∧ (Try.prog.underlying 115).isSome = true ∧ arrOf Try.prog 115 = some (2, 5, some 5) ∧ ∀ parts : List (Nat × Value), Try.prog.built 115 parts = bld #[(.bool false), (.bool false), (.bool false), (.bool false), (.bool false), (.bool false), (.bool false), (.bool false), (.bool false), (.bool false)] [(0, 5), (5, 5)] parts := ⟨row_115, sz_115, by_115, ze_115, us_115, ar_115, bd_115⟩
theorem ty_117 : rowOf Try.prog 117 = some none ∧ szOf Try.prog 117 = some 1 ∧ bytesA Try.prog 117 = some 8 ∧ zeroOf Try.prog 117 = some #[.nilFunc] ∧ (Try.prog.underlying 117).isSome = true := ⟨row_117, sz_117, by_117, ze_117, us_117⟩
theorem ty_118 : rowOf Try.prog 118 = some none ∧ szOf Try.prog 118 = some 1 ∧ bytesA Try.prog 118 = some 8 ∧ zeroOf Try.prog 118 = some #[.nilFunc] ∧ (Try.prog.underlying 118).isSome = true := ⟨row_118, sz_118, by_118, ze_118, us_118⟩
theorem ty_119 : rowOf Try.prog 119 = some none ∧ szOf Try.prog 119 = some 1 ∧ bytesA Try.prog 119 = some 8 ∧ zeroOf Try.prog 119 = some #[.nilFunc] ∧ (Try.prog.underlying 119).isSome = true := ⟨row_119, sz_119, by_119, ze_119, us_119⟩
theorem ty_120 : rowOf Try.prog 120 = some none ∧ szOf Try.prog 120 = some 1 ∧ bytesA Try.prog 120 = some 8 ∧ zeroOf Try.prog 120 = some #[.nilFunc] ∧ (Try.prog.underlying 120).isSome = true := ⟨row_120, sz_120, by_120, ze_120, us_120⟩
theorem ty_121 : rowOf Try.prog 121 = some none ∧ szOf Try.prog 121 = some 1 ∧ bytesA Try.prog 121 = some 8 ∧ zeroOf Try.prog 121 = some #[.nilFunc] ∧ (Try.prog.underlying 121).isSome = true := ⟨row_121, sz_121, by_121, ze_121, us_121⟩
theorem ty_123 : rowOf Try.prog 123 = some none ∧ szOf Try.prog 123 = some 1 ∧ bytesA Try.prog 123 = some 8 ∧ zeroOf Try.prog 123 = some #[.nilFunc] ∧ (Try.prog.underlying 123).isSome = true := ⟨row_123, sz_123, by_123, ze_123, us_123⟩
theorem ty_124 : rowOf Try.prog 124 = some none ∧ szOf Try.prog 124 = some 1 ∧ bytesA Try.prog 124 = some 8 ∧ zeroOf Try.prog 124 = some #[.nilFunc] ∧ (Try.prog.underlying 124).isSome = true := ⟨row_124, sz_124, by_124, ze_124, us_124⟩
theorem ty_125 : rowOf Try.prog 125 = some none ∧ szOf Try.prog 125 = some 1 ∧ bytesA Try.prog 125 = some 8 ∧ zeroOf Try.prog 125 = some #[.nilFunc] ∧ (Try.prog.underlying 125).isSome = true := ⟨row_125, sz_125, by_125, ze_125, us_125⟩
theorem ty_126 : rowOf Try.prog 126 = some none ∧ szOf Try.prog 126 = some 1 ∧ bytesA Try.prog 126 = some 8 ∧ zeroOf Try.prog 126 = some #[.nilFunc] ∧ (Try.prog.underlying 126).isSome = true := ⟨row_126, sz_126, by_126, ze_126, us_126⟩
theorem ty_127 : rowOf Try.prog 127 = some none ∧ szOf Try.prog 127 = some 1 ∧ bytesA Try.prog 127 = some 8 ∧ zeroOf Try.prog 127 = some #[.nilFunc] ∧ (Try.prog.underlying 127).isSome = true := ⟨row_127, sz_127, by_127, ze_127, us_127⟩
theorem ty_128 : rowOf Try.prog 128 = some none ∧ szOf Try.prog 128 = some 1 ∧ bytesA Try.prog 128 = some 8 ∧ zeroOf Try.prog 128 = some #[.nilFunc] ∧ (Try.prog.underlying 128).isSome = true := ⟨row_128, sz_128, by_128, ze_128, us_128⟩
theorem ty_129 : rowOf Try.prog 129 = some none ∧ szOf Try.prog 129 = some 1 ∧ bytesA Try.prog 129 = some 24 ∧ zeroOf Try.prog 129 = some #[(.slice none 0 0)] ∧ (Try.prog.underlying 129).isSome = true ∧ slOf Try.prog 129 = some (4, 1) ∧ isSlT Try.prog 129 = true := ⟨row_129, sz_129, by_129, ze_129, us_129, sl_129, isl_129⟩
theorem ty_130 : rowOf Try.prog 130 = some none ∧ szOf Try.prog 130 = some 1 ∧ bytesA Try.prog 130 = some 8 ∧ zeroOf Try.prog 130 = some #[.nilFunc] ∧ (Try.prog.underlying 130).isSome = true := ⟨row_130, sz_130, by_130, ze_130, us_130⟩
theorem ty_131 : rowOf Try.prog 131 = some none ∧ szOf Try.prog 131 = some 1 ∧ bytesA Try.prog 131 = some 8 ∧ zeroOf Try.prog 131 = some #[.nilFunc] ∧ (Try.prog.underlying 131).isSome = true := ⟨row_131, sz_131, by_131, ze_131, us_131⟩
theorem ty_132 : rowOf Try.prog 132 = some (some 4) ∧ szOf Try.prog 132 = some 4 ∧ bytesA Try.prog 132 = some 40 ∧ zeroOf Try.prog 132 = some #[(.pointer none), (.pointer none), (.pointer none), (.string ⟨#[]⟩)] ∧ (Try.prog.underlying 132).isSome = true ∧ fieldOff Try.prog 132 0 = some 0 ∧ fieldRow Try.prog 132 0 = some (0, none) ∧ fieldOff Try.prog 132 1 = some 1 ∧ fieldRow Try.prog 132 1 = some (1, none) ∧ fieldOff Try.prog 132 2 = some 2 ∧ fieldRow Try.prog 132 2 = some (2, none) ∧ fieldOff Try.prog 132 3 = some 3 ∧ fieldRow Try.prog 132 3 = some (3, none) ∧ ∀ parts : List (Nat × Value), Try.prog.built 132 parts = bld #[(.pointer none), (.pointer none), (.pointer none), (.string ⟨#[]⟩)] [(0, 1), (1, 1), (2, 1), (3, 1)] parts := ⟨row_132, sz_132, by_132, ze_132, us_132, fo_132_0, fr_132_0, fo_132_1, fr_132_1, fo_132_2, fr_132_2, fo_132_3, fr_132_3, bd_132⟩
theorem ty_133 : rowOf Try.prog 133 = some (some 4) ∧ szOf Try.prog 133 = some 4 ∧ bytesA Try.prog 133 = some 40 ∧ zeroOf Try.prog 133 = some #[(.pointer none), (.pointer none), (.pointer none), (.string ⟨#[]⟩)] ∧ (Try.prog.underlying 133).isSome = true ∧ fieldOff Try.prog 133 0 = some 0 ∧ fieldRow Try.prog 133 0 = some (0, none) ∧ fieldOff Try.prog 133 1 = some 1 ∧ fieldRow Try.prog 133 1 = some (1, none) ∧ fieldOff Try.prog 133 2 = some 2 ∧ fieldRow Try.prog 133 2 = some (2, none) ∧ fieldOff Try.prog 133 3 = some 3 ∧ fieldRow Try.prog 133 3 = some (3, none) ∧ ∀ parts : List (Nat × Value), Try.prog.built 133 parts = bld #[(.pointer none), (.pointer none), (.pointer none), (.string ⟨#[]⟩)] [(0, 1), (1, 1), (2, 1), (3, 1)] parts := ⟨row_133, sz_133, by_133, ze_133, us_133, fo_133_0, fr_133_0, fo_133_1, fr_133_1, fo_133_2, fr_133_2, fo_133_3, fr_133_3, bd_133⟩
theorem ty_134 : rowOf Try.prog 134 = some (some 0) ∧ szOf Try.prog 134 = some 0 ∧ bytesA Try.prog 134 = some 0 ∧ zeroOf Try.prog 134 = some #[] ∧ (Try.prog.underlying 134).isSome = true ∧ arrOf Try.prog 134 = some (0, 1, none) ∧ ∀ parts : List (Nat × Value), Try.prog.built 134 parts = bld #[] [] parts := ⟨row_134, sz_134, by_134, ze_134, us_134, ar_134, bd_134⟩
theorem ty_135 : rowOf Try.prog 135 = some (some 0) ∧ szOf Try.prog 135 = some 0 ∧ bytesA Try.prog 135 = some 0 ∧ zeroOf Try.prog 135 = some #[] ∧ (Try.prog.underlying 135).isSome = true ∧ ∀ parts : List (Nat × Value), Try.prog.built 135 parts = bld #[] [(0, 0)] parts := ⟨row_135, sz_135, by_135, ze_135, us_135, bd_135⟩
theorem ty_136 : rowOf Try.prog 136 = some (some 0) ∧ szOf Try.prog 136 = some 0 ∧ bytesA Try.prog 136 = some 0 ∧ zeroOf Try.prog 136 = some #[] ∧ (Try.prog.underlying 136).isSome = true ∧ ∀ parts : List (Nat × Value), Try.prog.built 136 parts = bld #[] [(0, 0)] parts := ⟨row_136, sz_136, by_136, ze_136, us_136, bd_136⟩
theorem ty_137 : rowOf Try.prog 137 = some none ∧ szOf Try.prog 137 = some 1 ∧ bytesA Try.prog 137 = some 4 ∧ zeroOf Try.prog 137 = some #[(.int .u32 0)] ∧ (Try.prog.underlying 137).isSome = true ∧ Try.prog.underlying 137 = some (.int .u32) := ⟨row_137, sz_137, by_137, ze_137, us_137, un_137⟩
theorem ty_138 : rowOf Try.prog 138 = some none ∧ szOf Try.prog 138 = some 1 ∧ bytesA Try.prog 138 = some 1 ∧ zeroOf Try.prog 138 = some #[(.int .u8 0)] ∧ (Try.prog.underlying 138).isSome = true ∧ Try.prog.underlying 138 = some (.int .u8) := ⟨row_138, sz_138, by_138, ze_138, us_138, un_138⟩
theorem ty_139 : rowOf Try.prog 139 = some none ∧ szOf Try.prog 139 = some 1 ∧ bytesA Try.prog 139 = some 1 ∧ zeroOf Try.prog 139 = some #[(.int .u8 0)] ∧ (Try.prog.underlying 139).isSome = true ∧ Try.prog.underlying 139 = some (.int .u8) := ⟨row_139, sz_139, by_139, ze_139, us_139, un_139⟩
theorem ty_140 : rowOf Try.prog 140 = some none ∧ szOf Try.prog 140 = some 1 ∧ bytesA Try.prog 140 = some 8 ∧ zeroOf Try.prog 140 = some #[.nilFunc] ∧ (Try.prog.underlying 140).isSome = true := ⟨row_140, sz_140, by_140, ze_140, us_140⟩
theorem ty_141 : rowOf Try.prog 141 = some none ∧ szOf Try.prog 141 = some 1 ∧ bytesA Try.prog 141 = some 8 ∧ zeroOf Try.prog 141 = some #[(.pointer none)] ∧ (Try.prog.underlying 141).isSome = true ∧ isPtr Try.prog 141 = true := ⟨row_141, sz_141, by_141, ze_141, us_141, ip_141⟩
theorem ty_142 : rowOf Try.prog 142 = some none ∧ szOf Try.prog 142 = some 1 ∧ bytesA Try.prog 142 = some 4 ∧ zeroOf Try.prog 142 = some #[(.int .i32 0)] ∧ (Try.prog.underlying 142).isSome = true ∧ Try.prog.underlying 142 = some (.int .i32) := ⟨row_142, sz_142, by_142, ze_142, us_142, un_142⟩
theorem ty_143 : rowOf Try.prog 143 = some none ∧ szOf Try.prog 143 = some 1 ∧ bytesA Try.prog 143 = some 4 ∧ zeroOf Try.prog 143 = some #[(.int .i32 0)] ∧ (Try.prog.underlying 143).isSome = true ∧ Try.prog.underlying 143 = some (.int .i32) := ⟨row_143, sz_143, by_143, ze_143, us_143, un_143⟩
theorem ty_144 : rowOf Try.prog 144 = some (some 11) ∧ szOf Try.prog 144 = some 11 ∧ bytesA Try.prog 144 = some 48 ∧ zeroOf Try.prog 144 = some #[(.int .u64 0), (.int .u64 0), (.int .u32 0), (.int .u8 0), (.int .u8 0), (.int .u8 0), (.int .u8 0), .nilFunc, (.pointer none), (.int .i32 0), (.int .i32 0)] ∧ (Try.prog.underlying 144).isSome = true ∧ fieldOff Try.prog 144 0 = some 0 ∧ fieldRow Try.prog 144 0 = some (0, none) ∧ fieldOff Try.prog 144 1 = some 1 ∧ fieldRow Try.prog 144 1 = some (1, none) ∧ fieldOff Try.prog 144 2 = some 2 ∧ fieldRow Try.prog 144 2 = some (2, none) ∧ fieldOff Try.prog 144 3 = some 3 ∧ fieldRow Try.prog 144 3 = some (3, none) ∧ fieldOff Try.prog 144 4 = some 4 ∧ fieldRow Try.prog 144 4 = some (4, none) ∧ fieldOff Try.prog 144 5 = some 5 ∧ fieldRow Try.prog 144 5 = some (5, none) ∧ fieldOff Try.prog 144 6 = some 6 ∧ fieldRow Try.prog 144 6 = some (6, none) ∧ fieldOff Try.prog 144 7 = some 7 ∧ fieldRow Try.prog 144 7 = some (7, none) ∧ fieldOff Try.prog 144 8 = some 8 ∧ fieldRow Try.prog 144 8 = some (8, none) ∧ fieldOff Try.prog 144 9 = some 9 ∧ fieldRow Try.prog 144 9 = some (9, none) ∧ fieldOff Try.prog 144 10 = some 10 ∧ fieldRow Try.prog 144 10 = some (10, none) ∧ ∀ parts : List (Nat × Value), Try.prog.built 144 parts = bld #[(.int .u64 0), (.int .u64 0), (.int .u32 0), (.int .u8 0), (.int .u8 0), (.int .u8 0), (.int .u8 0), .nilFunc, (.pointer none), (.int .i32 0), (.int .i32 0)] [(0, 1), (1, 1), (2, 1), (3, 1), (4, 1), (5, 1), (6, 1), (7, 1), (8, 1), (9, 1), (10, 1)] parts := ⟨row_144, sz_144, by_144, ze_144, us_144, fo_144_0, fr_144_0, fo_144_1, fr_144_1, fo_144_2, fr_144_2, fo_144_3, fr_144_3, fo_144_4, fr_144_4, fo_144_5, fr_144_5, fo_144_6, fr_144_6, fo_144_7, fr_144_7, fo_144_8, fr_144_8, fo_144_9, fr_144_9, fo_144_10, fr_144_10, bd_144⟩
theorem ty_145 : rowOf Try.prog 145 = some (some 11) ∧ szOf Try.prog 145 = some 11 ∧ bytesA Try.prog 145 = some 48 ∧ zeroOf Try.prog 145 = some #[(.int .u64 0), (.int .u64 0), (.int .u32 0), (.int .u8 0), (.int .u8 0), (.int .u8 0), (.int .u8 0), .nilFunc, (.pointer none), (.int .i32 0), (.int .i32 0)] ∧ (Try.prog.underlying 145).isSome = true ∧ fieldOff Try.prog 145 0 = some 0 ∧ fieldRow Try.prog 145 0 = some (0, none) ∧ fieldOff Try.prog 145 1 = some 1 ∧ fieldRow Try.prog 145 1 = some (1, none) ∧ fieldOff Try.prog 145 2 = some 2 ∧ fieldRow Try.prog 145 2 = some (2, none) ∧ fieldOff Try.prog 145 3 = some 3 ∧ fieldRow Try.prog 145 3 = some (3, none) ∧ fieldOff Try.prog 145 4 = some 4 ∧ fieldRow Try.prog 145 4 = some (4, none) ∧ fieldOff Try.prog 145 5 = some 5 ∧ fieldRow Try.prog 145 5 = some (5, none) ∧ fieldOff Try.prog 145 6 = some 6 ∧ fieldRow Try.prog 145 6 = some (6, none) ∧ fieldOff Try.prog 145 7 = some 7 ∧ fieldRow Try.prog 145 7 = some (7, none) ∧ fieldOff Try.prog 145 8 = some 8 ∧ fieldRow Try.prog 145 8 = some (8, none) ∧ fieldOff Try.prog 145 9 = some 9 ∧ fieldRow Try.prog 145 9 = some (9, none) ∧ fieldOff Try.prog 145 10 = some 10 ∧ fieldRow Try.prog 145 10 = some (10, none) ∧ ∀ parts : List (Nat × Value), Try.prog.built 145 parts = bld #[(.int .u64 0), (.int .u64 0), (.int .u32 0), (.int .u8 0), (.int .u8 0), (.int .u8 0), (.int .u8 0), .nilFunc, (.pointer none), (.int .i32 0), (.int .i32 0)] [(0, 1), (1, 1), (2, 1), (3, 1), (4, 1), (5, 1), (6, 1), (7, 1), (8, 1), (9, 1), (10, 1)] parts := ⟨row_145, sz_145, by_145, ze_145, us_145, fo_145_0, fr_145_0, fo_145_1, fr_145_1, fo_145_2, fr_145_2, fo_145_3, fr_145_3, fo_145_4, fr_145_4, fo_145_5, fr_145_5, fo_145_6, fr_145_6, fo_145_7, fr_145_7, fo_145_8, fr_145_8, fo_145_9, fr_145_9, fo_145_10, fr_145_10, bd_145⟩
theorem ty_146 : rowOf Try.prog 146 = some none ∧ szOf Try.prog 146 = some 1 ∧ bytesA Try.prog 146 = some 8 ∧ zeroOf Try.prog 146 = some #[(.pointer none)] ∧ (Try.prog.underlying 146).isSome = true := ⟨row_146, sz_146, by_146, ze_146, us_146⟩
theorem mixed : Try.prog.follows .mixedOrders = true := by kernel_rfl
theorem ca_3 : callable Try.prog 3 = true := nd (by kernel_rfl)
theorem en_3 {W0 : World} {m : Mem} {K : Value → Mem → Prop} {l : List Value} (hl : l.length ≤ Try.f3.ntmps) (h : vc Try.prog W0 Try.f3.ntmps (Try.f3.body.getD .skip) (retK Try.prog W0 Try.f3.results K) (envL l) m) : CallA Try.prog W0 3 l.toArray m K :=
  call_of_vc Try.func3 rfl ca_3 (by simp only [List.size_toArray]; omega) (by kernel_rfl) h
theorem ca_4 : callable Try.prog 4 = true := nd (by kernel_rfl)
theorem en_4 {W0 : World} {m : Mem} {K : Value → Mem → Prop} {l : List Value} (hl : l.length ≤ Try.f4.ntmps) (h : vc Try.prog W0 Try.f4.ntmps (Try.f4.body.getD .skip) (retK Try.prog W0 Try.f4.results K) (envL l) m) : CallA Try.prog W0 4 l.toArray m K :=
  call_of_vc Try.func4 rfl ca_4 (by simp only [List.size_toArray]; omega) (by kernel_rfl) h
theorem ca_5 : callable Try.prog 5 = true := nd (by kernel_rfl)
theorem en_5 {W0 : World} {m : Mem} {K : Value → Mem → Prop} {l : List Value} (hl : l.length ≤ Try.f5.ntmps) (h : vc Try.prog W0 Try.f5.ntmps (Try.f5.body.getD .skip) (retK Try.prog W0 Try.f5.results K) (envL l) m) : CallA Try.prog W0 5 l.toArray m K :=
  call_of_vc Try.func5 rfl ca_5 (by simp only [List.size_toArray]; omega) (by kernel_rfl) h
theorem ca_6 : callable Try.prog 6 = true := nd (by kernel_rfl)
theorem en_6 {W0 : World} {m : Mem} {K : Value → Mem → Prop} {l : List Value} (hl : l.length ≤ Try.f6.ntmps) (h : vc Try.prog W0 Try.f6.ntmps (Try.f6.body.getD .skip) (retK Try.prog W0 Try.f6.results K) (envL l) m) : CallA Try.prog W0 6 l.toArray m K :=
  call_of_vc Try.func6 rfl ca_6 (by simp only [List.size_toArray]; omega) (by kernel_rfl) h
theorem ca_7 : callable Try.prog 7 = true := nd (by kernel_rfl)
theorem en_7 {W0 : World} {m : Mem} {K : Value → Mem → Prop} {l : List Value} (hl : l.length ≤ Try.f7.ntmps) (h : vc Try.prog W0 Try.f7.ntmps (Try.f7.body.getD .skip) (retK Try.prog W0 Try.f7.results K) (envL l) m) : CallA Try.prog W0 7 l.toArray m K :=
  call_of_vc Try.func7 rfl ca_7 (by simp only [List.size_toArray]; omega) (by kernel_rfl) h
theorem ca_8 : callable Try.prog 8 = true := nd (by kernel_rfl)
theorem en_8 {W0 : World} {m : Mem} {K : Value → Mem → Prop} {l : List Value} (hl : l.length ≤ Try.f8.ntmps) (h : vc Try.prog W0 Try.f8.ntmps (Try.f8.body.getD .skip) (retK Try.prog W0 Try.f8.results K) (envL l) m) : CallA Try.prog W0 8 l.toArray m K :=
  call_of_vc Try.func8 rfl ca_8 (by simp only [List.size_toArray]; omega) (by kernel_rfl) h
theorem ca_9 : callable Try.prog 9 = true := nd (by kernel_rfl)
theorem en_9 {W0 : World} {m : Mem} {K : Value → Mem → Prop} {l : List Value} (hl : l.length ≤ Try.f9.ntmps) (h : vc Try.prog W0 Try.f9.ntmps (Try.f9.body.getD .skip) (retK Try.prog W0 Try.f9.results K) (envL l) m) : CallA Try.prog W0 9 l.toArray m K :=
  call_of_vc Try.func9 rfl ca_9 (by simp only [List.size_toArray]; omega) (by kernel_rfl) h
theorem ca_10 : callable Try.prog 10 = true := nd (by kernel_rfl)
theorem en_10 {W0 : World} {m : Mem} {K : Value → Mem → Prop} {l : List Value} (hl : l.length ≤ Try.f10.ntmps) (h : vc Try.prog W0 Try.f10.ntmps (Try.f10.body.getD .skip) (retK Try.prog W0 Try.f10.results K) (envL l) m) : CallA Try.prog W0 10 l.toArray m K :=
  call_of_vc Try.func10 rfl ca_10 (by simp only [List.size_toArray]; omega) (by kernel_rfl) h
theorem ca_11 : callable Try.prog 11 = true := nd (by kernel_rfl)
theorem en_11 {W0 : World} {m : Mem} {K : Value → Mem → Prop} {l : List Value} (hl : l.length ≤ Try.f11.ntmps) (h : vc Try.prog W0 Try.f11.ntmps (Try.f11.body.getD .skip) (retK Try.prog W0 Try.f11.results K) (envL l) m) : CallA Try.prog W0 11 l.toArray m K :=
  call_of_vc Try.func11 rfl ca_11 (by simp only [List.size_toArray]; omega) (by kernel_rfl) h
theorem ca_12 : callable Try.prog 12 = true := nd (by kernel_rfl)
theorem en_12 {W0 : World} {m : Mem} {K : Value → Mem → Prop} {l : List Value} (hl : l.length ≤ Try.f12.ntmps) (h : vc Try.prog W0 Try.f12.ntmps (Try.f12.body.getD .skip) (retK Try.prog W0 Try.f12.results K) (envL l) m) : CallA Try.prog W0 12 l.toArray m K :=
  call_of_vc Try.func12 rfl ca_12 (by simp only [List.size_toArray]; omega) (by kernel_rfl) h
theorem ca_13 : callable Try.prog 13 = true := nd (by kernel_rfl)
theorem en_13 {W0 : World} {m : Mem} {K : Value → Mem → Prop} {l : List Value} (hl : l.length ≤ Try.f13.ntmps) (h : vc Try.prog W0 Try.f13.ntmps (Try.f13.body.getD .skip) (retK Try.prog W0 Try.f13.results K) (envL l) m) : CallA Try.prog W0 13 l.toArray m K :=
  call_of_vc Try.func13 rfl ca_13 (by simp only [List.size_toArray]; omega) (by kernel_rfl) h
theorem ca_14 : callable Try.prog 14 = true := nd (by kernel_rfl)
theorem en_14 {W0 : World} {m : Mem} {K : Value → Mem → Prop} {l : List Value} (hl : l.length ≤ Try.f14.ntmps) (h : vc Try.prog W0 Try.f14.ntmps (Try.f14.body.getD .skip) (retK Try.prog W0 Try.f14.results K) (envL l) m) : CallA Try.prog W0 14 l.toArray m K :=
  call_of_vc Try.func14 rfl ca_14 (by simp only [List.size_toArray]; omega) (by kernel_rfl) h
theorem ca_15 : callable Try.prog 15 = true := nd (by kernel_rfl)
theorem en_15 {W0 : World} {m : Mem} {K : Value → Mem → Prop} {l : List Value} (hl : l.length ≤ Try.f15.ntmps) (h : vc Try.prog W0 Try.f15.ntmps (Try.f15.body.getD .skip) (retK Try.prog W0 Try.f15.results K) (envL l) m) : CallA Try.prog W0 15 l.toArray m K :=
  call_of_vc Try.func15 rfl ca_15 (by simp only [List.size_toArray]; omega) (by kernel_rfl) h
theorem ca_16 : callable Try.prog 16 = true := nd (by kernel_rfl)
theorem en_16 {W0 : World} {m : Mem} {K : Value → Mem → Prop} {l : List Value} (hl : l.length ≤ Try.f16.ntmps) (h : vc Try.prog W0 Try.f16.ntmps (Try.f16.body.getD .skip) (retK Try.prog W0 Try.f16.results K) (envL l) m) : CallA Try.prog W0 16 l.toArray m K :=
  call_of_vc Try.func16 rfl ca_16 (by simp only [List.size_toArray]; omega) (by kernel_rfl) h
theorem ca_17 : callable Try.prog 17 = true := nd (by kernel_rfl)
theorem en_17 {W0 : World} {m : Mem} {K : Value → Mem → Prop} {l : List Value} (hl : l.length ≤ Try.f17.ntmps) (h : vc Try.prog W0 Try.f17.ntmps (Try.f17.body.getD .skip) (retK Try.prog W0 Try.f17.results K) (envL l) m) : CallA Try.prog W0 17 l.toArray m K :=
  call_of_vc Try.func17 rfl ca_17 (by simp only [List.size_toArray]; omega) (by kernel_rfl) h
theorem ca_18 : callable Try.prog 18 = true := nd (by kernel_rfl)
theorem en_18 {W0 : World} {m : Mem} {K : Value → Mem → Prop} {l : List Value} (hl : l.length ≤ Try.f18.ntmps) (h : vc Try.prog W0 Try.f18.ntmps (Try.f18.body.getD .skip) (retK Try.prog W0 Try.f18.results K) (envL l) m) : CallA Try.prog W0 18 l.toArray m K :=
  call_of_vc Try.func18 rfl ca_18 (by simp only [List.size_toArray]; omega) (by kernel_rfl) h
theorem ca_19 : callable Try.prog 19 = true := nd (by kernel_rfl)
theorem en_19 {W0 : World} {m : Mem} {K : Value → Mem → Prop} {l : List Value} (hl : l.length ≤ Try.f19.ntmps) (h : vc Try.prog W0 Try.f19.ntmps (Try.f19.body.getD .skip) (retK Try.prog W0 Try.f19.results K) (envL l) m) : CallA Try.prog W0 19 l.toArray m K :=
  call_of_vc Try.func19 rfl ca_19 (by simp only [List.size_toArray]; omega) (by kernel_rfl) h
theorem ca_20 : callable Try.prog 20 = true := nd (by kernel_rfl)
theorem en_20 {W0 : World} {m : Mem} {K : Value → Mem → Prop} {l : List Value} (hl : l.length ≤ Try.f20.ntmps) (h : vc Try.prog W0 Try.f20.ntmps (Try.f20.body.getD .skip) (retK Try.prog W0 Try.f20.results K) (envL l) m) : CallA Try.prog W0 20 l.toArray m K :=
  call_of_vc Try.func20 rfl ca_20 (by simp only [List.size_toArray]; omega) (by kernel_rfl) h
theorem ca_21 : callable Try.prog 21 = true := nd (by kernel_rfl)
theorem en_21 {W0 : World} {m : Mem} {K : Value → Mem → Prop} {l : List Value} (hl : l.length ≤ Try.f21.ntmps) (h : vc Try.prog W0 Try.f21.ntmps (Try.f21.body.getD .skip) (retK Try.prog W0 Try.f21.results K) (envL l) m) : CallA Try.prog W0 21 l.toArray m K :=
  call_of_vc Try.func21 rfl ca_21 (by simp only [List.size_toArray]; omega) (by kernel_rfl) h
theorem ca_22 : callable Try.prog 22 = true := nd (by kernel_rfl)
theorem en_22 {W0 : World} {m : Mem} {K : Value → Mem → Prop} {l : List Value} (hl : l.length ≤ Try.f22.ntmps) (h : vc Try.prog W0 Try.f22.ntmps (Try.f22.body.getD .skip) (retK Try.prog W0 Try.f22.results K) (envL l) m) : CallA Try.prog W0 22 l.toArray m K :=
  call_of_vc Try.func22 rfl ca_22 (by simp only [List.size_toArray]; omega) (by kernel_rfl) h
theorem ca_23 : callable Try.prog 23 = true := nd (by kernel_rfl)
theorem en_23 {W0 : World} {m : Mem} {K : Value → Mem → Prop} {l : List Value} (hl : l.length ≤ Try.f23.ntmps) (h : vc Try.prog W0 Try.f23.ntmps (Try.f23.body.getD .skip) (retK Try.prog W0 Try.f23.results K) (envL l) m) : CallA Try.prog W0 23 l.toArray m K :=
  call_of_vc Try.func23 rfl ca_23 (by simp only [List.size_toArray]; omega) (by kernel_rfl) h
theorem ca_24 : callable Try.prog 24 = true := nd (by kernel_rfl)
theorem en_24 {W0 : World} {m : Mem} {K : Value → Mem → Prop} {l : List Value} (hl : l.length ≤ Try.f24.ntmps) (h : vc Try.prog W0 Try.f24.ntmps (Try.f24.body.getD .skip) (retK Try.prog W0 Try.f24.results K) (envL l) m) : CallA Try.prog W0 24 l.toArray m K :=
  call_of_vc Try.func24 rfl ca_24 (by simp only [List.size_toArray]; omega) (by kernel_rfl) h
theorem ca_25 : callable Try.prog 25 = true := nd (by kernel_rfl)
theorem en_25 {W0 : World} {m : Mem} {K : Value → Mem → Prop} {l : List Value} (hl : l.length ≤ Try.f25.ntmps) (h : vc Try.prog W0 Try.f25.ntmps (Try.f25.body.getD .skip) (retK Try.prog W0 Try.f25.results K) (envL l) m) : CallA Try.prog W0 25 l.toArray m K :=
  call_of_vc Try.func25 rfl ca_25 (by simp only [List.size_toArray]; omega) (by kernel_rfl) h
theorem ca_26 : callable Try.prog 26 = true := nd (by kernel_rfl)
theorem en_26 {W0 : World} {m : Mem} {K : Value → Mem → Prop} {l : List Value} (hl : l.length ≤ Try.f26.ntmps) (h : vc Try.prog W0 Try.f26.ntmps (Try.f26.body.getD .skip) (retK Try.prog W0 Try.f26.results K) (envL l) m) : CallA Try.prog W0 26 l.toArray m K :=
  call_of_vc Try.func26 rfl ca_26 (by simp only [List.size_toArray]; omega) (by kernel_rfl) h
theorem ca_27 : callable Try.prog 27 = true := nd (by kernel_rfl)
theorem en_27 {W0 : World} {m : Mem} {K : Value → Mem → Prop} {l : List Value} (hl : l.length ≤ Try.f27.ntmps) (h : vc Try.prog W0 Try.f27.ntmps (Try.f27.body.getD .skip) (retK Try.prog W0 Try.f27.results K) (envL l) m) : CallA Try.prog W0 27 l.toArray m K :=
  call_of_vc Try.func27 rfl ca_27 (by simp only [List.size_toArray]; omega) (by kernel_rfl) h
theorem ca_28 : callable Try.prog 28 = true := nd (by kernel_rfl)
theorem en_28 {W0 : World} {m : Mem} {K : Value → Mem → Prop} {l : List Value} (hl : l.length ≤ Try.f28.ntmps) (h : vc Try.prog W0 Try.f28.ntmps (Try.f28.body.getD .skip) (retK Try.prog W0 Try.f28.results K) (envL l) m) : CallA Try.prog W0 28 l.toArray m K :=
  call_of_vc Try.func28 rfl ca_28 (by simp only [List.size_toArray]; omega) (by kernel_rfl) h
theorem ca_29 : callable Try.prog 29 = true := nd (by kernel_rfl)
theorem en_29 {W0 : World} {m : Mem} {K : Value → Mem → Prop} {l : List Value} (hl : l.length ≤ Try.f29.ntmps) (h : vc Try.prog W0 Try.f29.ntmps (Try.f29.body.getD .skip) (retK Try.prog W0 Try.f29.results K) (envL l) m) : CallA Try.prog W0 29 l.toArray m K :=
  call_of_vc Try.func29 rfl ca_29 (by simp only [List.size_toArray]; omega) (by kernel_rfl) h
theorem ca_30 : callable Try.prog 30 = true := nd (by kernel_rfl)
theorem en_30 {W0 : World} {m : Mem} {K : Value → Mem → Prop} {l : List Value} (hl : l.length ≤ Try.f30.ntmps) (h : vc Try.prog W0 Try.f30.ntmps (Try.f30.body.getD .skip) (retK Try.prog W0 Try.f30.results K) (envL l) m) : CallA Try.prog W0 30 l.toArray m K :=
  call_of_vc Try.func30 rfl ca_30 (by simp only [List.size_toArray]; omega) (by kernel_rfl) h
theorem ca_31 : callable Try.prog 31 = true := nd (by kernel_rfl)
theorem en_31 {W0 : World} {m : Mem} {K : Value → Mem → Prop} {l : List Value} (hl : l.length ≤ Try.f31.ntmps) (h : vc Try.prog W0 Try.f31.ntmps (Try.f31.body.getD .skip) (retK Try.prog W0 Try.f31.results K) (envL l) m) : CallA Try.prog W0 31 l.toArray m K :=
  call_of_vc Try.func31 rfl ca_31 (by simp only [List.size_toArray]; omega) (by kernel_rfl) h
theorem ca_32 : callable Try.prog 32 = true := nd (by kernel_rfl)
theorem en_32 {W0 : World} {m : Mem} {K : Value → Mem → Prop} {l : List Value} (hl : l.length ≤ Try.f32.ntmps) (h : vc Try.prog W0 Try.f32.ntmps (Try.f32.body.getD .skip) (retK Try.prog W0 Try.f32.results K) (envL l) m) : CallA Try.prog W0 32 l.toArray m K :=
  call_of_vc Try.func32 rfl ca_32 (by simp only [List.size_toArray]; omega) (by kernel_rfl) h
theorem ca_33 : callable Try.prog 33 = true := nd (by kernel_rfl)
theorem en_33 {W0 : World} {m : Mem} {K : Value → Mem → Prop} {l : List Value} (hl : l.length ≤ Try.f33.ntmps) (h : vc Try.prog W0 Try.f33.ntmps (Try.f33.body.getD .skip) (retK Try.prog W0 Try.f33.results K) (envL l) m) : CallA Try.prog W0 33 l.toArray m K :=
  call_of_vc Try.func33 rfl ca_33 (by simp only [List.size_toArray]; omega) (by kernel_rfl) h
theorem ca_34 : callable Try.prog 34 = true := nd (by kernel_rfl)
theorem en_34 {W0 : World} {m : Mem} {K : Value → Mem → Prop} {l : List Value} (hl : l.length ≤ Try.f34.ntmps) (h : vc Try.prog W0 Try.f34.ntmps (Try.f34.body.getD .skip) (retK Try.prog W0 Try.f34.results K) (envL l) m) : CallA Try.prog W0 34 l.toArray m K :=
  call_of_vc Try.func34 rfl ca_34 (by simp only [List.size_toArray]; omega) (by kernel_rfl) h
theorem ca_35 : callable Try.prog 35 = true := nd (by kernel_rfl)
theorem en_35 {W0 : World} {m : Mem} {K : Value → Mem → Prop} {l : List Value} (hl : l.length ≤ Try.f35.ntmps) (h : vc Try.prog W0 Try.f35.ntmps (Try.f35.body.getD .skip) (retK Try.prog W0 Try.f35.results K) (envL l) m) : CallA Try.prog W0 35 l.toArray m K :=
  call_of_vc Try.func35 rfl ca_35 (by simp only [List.size_toArray]; omega) (by kernel_rfl) h
theorem ca_36 : callable Try.prog 36 = true := nd (by kernel_rfl)
theorem en_36 {W0 : World} {m : Mem} {K : Value → Mem → Prop} {l : List Value} (hl : l.length ≤ Try.f36.ntmps) (h : vc Try.prog W0 Try.f36.ntmps (Try.f36.body.getD .skip) (retK Try.prog W0 Try.f36.results K) (envL l) m) : CallA Try.prog W0 36 l.toArray m K :=
  call_of_vc Try.func36 rfl ca_36 (by simp only [List.size_toArray]; omega) (by kernel_rfl) h
theorem ca_37 : callable Try.prog 37 = true := nd (by kernel_rfl)
theorem en_37 {W0 : World} {m : Mem} {K : Value → Mem → Prop} {l : List Value} (hl : l.length ≤ Try.f37.ntmps) (h : vc Try.prog W0 Try.f37.ntmps (Try.f37.body.getD .skip) (retK Try.prog W0 Try.f37.results K) (envL l) m) : CallA Try.prog W0 37 l.toArray m K :=
  call_of_vc Try.func37 rfl ca_37 (by simp only [List.size_toArray]; omega) (by kernel_rfl) h
theorem ca_38 : callable Try.prog 38 = true := nd (by kernel_rfl)
theorem en_38 {W0 : World} {m : Mem} {K : Value → Mem → Prop} {l : List Value} (hl : l.length ≤ Try.f38.ntmps) (h : vc Try.prog W0 Try.f38.ntmps (Try.f38.body.getD .skip) (retK Try.prog W0 Try.f38.results K) (envL l) m) : CallA Try.prog W0 38 l.toArray m K :=
  call_of_vc Try.func38 rfl ca_38 (by simp only [List.size_toArray]; omega) (by kernel_rfl) h
theorem ca_39 : callable Try.prog 39 = true := nd (by kernel_rfl)
theorem en_39 {W0 : World} {m : Mem} {K : Value → Mem → Prop} {l : List Value} (hl : l.length ≤ Try.f39.ntmps) (h : vc Try.prog W0 Try.f39.ntmps (Try.f39.body.getD .skip) (retK Try.prog W0 Try.f39.results K) (envL l) m) : CallA Try.prog W0 39 l.toArray m K :=
  call_of_vc Try.func39 rfl ca_39 (by simp only [List.size_toArray]; omega) (by kernel_rfl) h
theorem ca_40 : callable Try.prog 40 = true := nd (by kernel_rfl)
theorem en_40 {W0 : World} {m : Mem} {K : Value → Mem → Prop} {l : List Value} (hl : l.length ≤ Try.f40.ntmps) (h : vc Try.prog W0 Try.f40.ntmps (Try.f40.body.getD .skip) (retK Try.prog W0 Try.f40.results K) (envL l) m) : CallA Try.prog W0 40 l.toArray m K :=
  call_of_vc Try.func40 rfl ca_40 (by simp only [List.size_toArray]; omega) (by kernel_rfl) h
theorem ca_41 : callable Try.prog 41 = true := nd (by kernel_rfl)
theorem en_41 {W0 : World} {m : Mem} {K : Value → Mem → Prop} {l : List Value} (hl : l.length ≤ Try.f41.ntmps) (h : vc Try.prog W0 Try.f41.ntmps (Try.f41.body.getD .skip) (retK Try.prog W0 Try.f41.results K) (envL l) m) : CallA Try.prog W0 41 l.toArray m K :=
  call_of_vc Try.func41 rfl ca_41 (by simp only [List.size_toArray]; omega) (by kernel_rfl) h
theorem ca_42 : callable Try.prog 42 = true := nd (by kernel_rfl)
theorem en_42 {W0 : World} {m : Mem} {K : Value → Mem → Prop} {l : List Value} (hl : l.length ≤ Try.f42.ntmps) (h : vc Try.prog W0 Try.f42.ntmps (Try.f42.body.getD .skip) (retK Try.prog W0 Try.f42.results K) (envL l) m) : CallA Try.prog W0 42 l.toArray m K :=
  call_of_vc Try.func42 rfl ca_42 (by simp only [List.size_toArray]; omega) (by kernel_rfl) h
theorem ca_43 : callable Try.prog 43 = true := nd (by kernel_rfl)
theorem en_43 {W0 : World} {m : Mem} {K : Value → Mem → Prop} {l : List Value} (hl : l.length ≤ Try.f43.ntmps) (h : vc Try.prog W0 Try.f43.ntmps (Try.f43.body.getD .skip) (retK Try.prog W0 Try.f43.results K) (envL l) m) : CallA Try.prog W0 43 l.toArray m K :=
  call_of_vc Try.func43 rfl ca_43 (by simp only [List.size_toArray]; omega) (by kernel_rfl) h
theorem ca_44 : callable Try.prog 44 = true := nd (by kernel_rfl)
theorem en_44 {W0 : World} {m : Mem} {K : Value → Mem → Prop} {l : List Value} (hl : l.length ≤ Try.f44.ntmps) (h : vc Try.prog W0 Try.f44.ntmps (Try.f44.body.getD .skip) (retK Try.prog W0 Try.f44.results K) (envL l) m) : CallA Try.prog W0 44 l.toArray m K :=
  call_of_vc Try.func44 rfl ca_44 (by simp only [List.size_toArray]; omega) (by kernel_rfl) h
theorem ca_45 : callable Try.prog 45 = true := nd (by kernel_rfl)
theorem en_45 {W0 : World} {m : Mem} {K : Value → Mem → Prop} {l : List Value} (hl : l.length ≤ Try.f45.ntmps) (h : vc Try.prog W0 Try.f45.ntmps (Try.f45.body.getD .skip) (retK Try.prog W0 Try.f45.results K) (envL l) m) : CallA Try.prog W0 45 l.toArray m K :=
  call_of_vc Try.func45 rfl ca_45 (by simp only [List.size_toArray]; omega) (by kernel_rfl) h
theorem ca_46 : callable Try.prog 46 = true := nd (by kernel_rfl)
theorem en_46 {W0 : World} {m : Mem} {K : Value → Mem → Prop} {l : List Value} (hl : l.length ≤ Try.f46.ntmps) (h : vc Try.prog W0 Try.f46.ntmps (Try.f46.body.getD .skip) (retK Try.prog W0 Try.f46.results K) (envL l) m) : CallA Try.prog W0 46 l.toArray m K :=
  call_of_vc Try.func46 rfl ca_46 (by simp only [List.size_toArray]; omega) (by kernel_rfl) h
theorem ca_47 : callable Try.prog 47 = true := nd (by kernel_rfl)
theorem en_47 {W0 : World} {m : Mem} {K : Value → Mem → Prop} {l : List Value} (hl : l.length ≤ Try.f47.ntmps) (h : vc Try.prog W0 Try.f47.ntmps (Try.f47.body.getD .skip) (retK Try.prog W0 Try.f47.results K) (envL l) m) : CallA Try.prog W0 47 l.toArray m K :=
  call_of_vc Try.func47 rfl ca_47 (by simp only [List.size_toArray]; omega) (by kernel_rfl) h
theorem ca_48 : callable Try.prog 48 = true := nd (by kernel_rfl)
theorem en_48 {W0 : World} {m : Mem} {K : Value → Mem → Prop} {l : List Value} (hl : l.length ≤ Try.f48.ntmps) (h : vc Try.prog W0 Try.f48.ntmps (Try.f48.body.getD .skip) (retK Try.prog W0 Try.f48.results K) (envL l) m) : CallA Try.prog W0 48 l.toArray m K :=
  call_of_vc Try.func48 rfl ca_48 (by simp only [List.size_toArray]; omega) (by kernel_rfl) h
theorem ca_49 : callable Try.prog 49 = true := nd (by kernel_rfl)
theorem en_49 {W0 : World} {m : Mem} {K : Value → Mem → Prop} {l : List Value} (hl : l.length ≤ Try.f49.ntmps) (h : vc Try.prog W0 Try.f49.ntmps (Try.f49.body.getD .skip) (retK Try.prog W0 Try.f49.results K) (envL l) m) : CallA Try.prog W0 49 l.toArray m K :=
  call_of_vc Try.func49 rfl ca_49 (by simp only [List.size_toArray]; omega) (by kernel_rfl) h
theorem ca_50 : callable Try.prog 50 = true := nd (by kernel_rfl)
theorem en_50 {W0 : World} {m : Mem} {K : Value → Mem → Prop} {l : List Value} (hl : l.length ≤ Try.f50.ntmps) (h : vc Try.prog W0 Try.f50.ntmps (Try.f50.body.getD .skip) (retK Try.prog W0 Try.f50.results K) (envL l) m) : CallA Try.prog W0 50 l.toArray m K :=
  call_of_vc Try.func50 rfl ca_50 (by simp only [List.size_toArray]; omega) (by kernel_rfl) h
theorem ca_51 : callable Try.prog 51 = true := nd (by kernel_rfl)
theorem en_51 {W0 : World} {m : Mem} {K : Value → Mem → Prop} {l : List Value} (hl : l.length ≤ Try.f51.ntmps) (h : vc Try.prog W0 Try.f51.ntmps (Try.f51.body.getD .skip) (retK Try.prog W0 Try.f51.results K) (envL l) m) : CallA Try.prog W0 51 l.toArray m K :=
  call_of_vc Try.func51 rfl ca_51 (by simp only [List.size_toArray]; omega) (by kernel_rfl) h
theorem ca_52 : callable Try.prog 52 = true := nd (by kernel_rfl)
theorem en_52 {W0 : World} {m : Mem} {K : Value → Mem → Prop} {l : List Value} (hl : l.length ≤ Try.f52.ntmps) (h : vc Try.prog W0 Try.f52.ntmps (Try.f52.body.getD .skip) (retK Try.prog W0 Try.f52.results K) (envL l) m) : CallA Try.prog W0 52 l.toArray m K :=
  call_of_vc Try.func52 rfl ca_52 (by simp only [List.size_toArray]; omega) (by kernel_rfl) h
theorem ca_53 : callable Try.prog 53 = true := nd (by kernel_rfl)
theorem en_53 {W0 : World} {m : Mem} {K : Value → Mem → Prop} {l : List Value} (hl : l.length ≤ Try.f53.ntmps) (h : vc Try.prog W0 Try.f53.ntmps (Try.f53.body.getD .skip) (retK Try.prog W0 Try.f53.results K) (envL l) m) : CallA Try.prog W0 53 l.toArray m K :=
  call_of_vc Try.func53 rfl ca_53 (by simp only [List.size_toArray]; omega) (by kernel_rfl) h
theorem ca_54 : callable Try.prog 54 = true := nd (by kernel_rfl)
theorem en_54 {W0 : World} {m : Mem} {K : Value → Mem → Prop} {l : List Value} (hl : l.length ≤ Try.f54.ntmps) (h : vc Try.prog W0 Try.f54.ntmps (Try.f54.body.getD .skip) (retK Try.prog W0 Try.f54.results K) (envL l) m) : CallA Try.prog W0 54 l.toArray m K :=
  call_of_vc Try.func54 rfl ca_54 (by simp only [List.size_toArray]; omega) (by kernel_rfl) h
theorem ca_55 : callable Try.prog 55 = true := nd (by kernel_rfl)
theorem en_55 {W0 : World} {m : Mem} {K : Value → Mem → Prop} {l : List Value} (hl : l.length ≤ Try.f55.ntmps) (h : vc Try.prog W0 Try.f55.ntmps (Try.f55.body.getD .skip) (retK Try.prog W0 Try.f55.results K) (envL l) m) : CallA Try.prog W0 55 l.toArray m K :=
  call_of_vc Try.func55 rfl ca_55 (by simp only [List.size_toArray]; omega) (by kernel_rfl) h
theorem ca_56 : callable Try.prog 56 = true := nd (by kernel_rfl)
theorem en_56 {W0 : World} {m : Mem} {K : Value → Mem → Prop} {l : List Value} (hl : l.length ≤ Try.f56.ntmps) (h : vc Try.prog W0 Try.f56.ntmps (Try.f56.body.getD .skip) (retK Try.prog W0 Try.f56.results K) (envL l) m) : CallA Try.prog W0 56 l.toArray m K :=
  call_of_vc Try.func56 rfl ca_56 (by simp only [List.size_toArray]; omega) (by kernel_rfl) h
theorem ca_57 : callable Try.prog 57 = true := nd (by kernel_rfl)
theorem en_57 {W0 : World} {m : Mem} {K : Value → Mem → Prop} {l : List Value} (hl : l.length ≤ Try.f57.ntmps) (h : vc Try.prog W0 Try.f57.ntmps (Try.f57.body.getD .skip) (retK Try.prog W0 Try.f57.results K) (envL l) m) : CallA Try.prog W0 57 l.toArray m K :=
  call_of_vc Try.func57 rfl ca_57 (by simp only [List.size_toArray]; omega) (by kernel_rfl) h
theorem ca_58 : callable Try.prog 58 = true := nd (by kernel_rfl)
theorem en_58 {W0 : World} {m : Mem} {K : Value → Mem → Prop} {l : List Value} (hl : l.length ≤ Try.f58.ntmps) (h : vc Try.prog W0 Try.f58.ntmps (Try.f58.body.getD .skip) (retK Try.prog W0 Try.f58.results K) (envL l) m) : CallA Try.prog W0 58 l.toArray m K :=
  call_of_vc Try.func58 rfl ca_58 (by simp only [List.size_toArray]; omega) (by kernel_rfl) h
theorem ca_59 : callable Try.prog 59 = true := nd (by kernel_rfl)
theorem en_59 {W0 : World} {m : Mem} {K : Value → Mem → Prop} {l : List Value} (hl : l.length ≤ Try.f59.ntmps) (h : vc Try.prog W0 Try.f59.ntmps (Try.f59.body.getD .skip) (retK Try.prog W0 Try.f59.results K) (envL l) m) : CallA Try.prog W0 59 l.toArray m K :=
  call_of_vc Try.func59 rfl ca_59 (by simp only [List.size_toArray]; omega) (by kernel_rfl) h
theorem ca_60 : callable Try.prog 60 = true := nd (by kernel_rfl)
theorem en_60 {W0 : World} {m : Mem} {K : Value → Mem → Prop} {l : List Value} (hl : l.length ≤ Try.f60.ntmps) (h : vc Try.prog W0 Try.f60.ntmps (Try.f60.body.getD .skip) (retK Try.prog W0 Try.f60.results K) (envL l) m) : CallA Try.prog W0 60 l.toArray m K :=
  call_of_vc Try.func60 rfl ca_60 (by simp only [List.size_toArray]; omega) (by kernel_rfl) h
theorem ca_61 : callable Try.prog 61 = true := nd (by kernel_rfl)
theorem en_61 {W0 : World} {m : Mem} {K : Value → Mem → Prop} {l : List Value} (hl : l.length ≤ Try.f61.ntmps) (h : vc Try.prog W0 Try.f61.ntmps (Try.f61.body.getD .skip) (retK Try.prog W0 Try.f61.results K) (envL l) m) : CallA Try.prog W0 61 l.toArray m K :=
  call_of_vc Try.func61 rfl ca_61 (by simp only [List.size_toArray]; omega) (by kernel_rfl) h
theorem ca_62 : callable Try.prog 62 = true := nd (by kernel_rfl)
theorem en_62 {W0 : World} {m : Mem} {K : Value → Mem → Prop} {l : List Value} (hl : l.length ≤ Try.f62.ntmps) (h : vc Try.prog W0 Try.f62.ntmps (Try.f62.body.getD .skip) (retK Try.prog W0 Try.f62.results K) (envL l) m) : CallA Try.prog W0 62 l.toArray m K :=
  call_of_vc Try.func62 rfl ca_62 (by simp only [List.size_toArray]; omega) (by kernel_rfl) h
theorem ca_63 : callable Try.prog 63 = true := nd (by kernel_rfl)
theorem en_63 {W0 : World} {m : Mem} {K : Value → Mem → Prop} {l : List Value} (hl : l.length ≤ Try.f63.ntmps) (h : vc Try.prog W0 Try.f63.ntmps (Try.f63.body.getD .skip) (retK Try.prog W0 Try.f63.results K) (envL l) m) : CallA Try.prog W0 63 l.toArray m K :=
  call_of_vc Try.func63 rfl ca_63 (by simp only [List.size_toArray]; omega) (by kernel_rfl) h
theorem ca_64 : callable Try.prog 64 = true := nd (by kernel_rfl)
theorem en_64 {W0 : World} {m : Mem} {K : Value → Mem → Prop} {l : List Value} (hl : l.length ≤ Try.f64.ntmps) (h : vc Try.prog W0 Try.f64.ntmps (Try.f64.body.getD .skip) (retK Try.prog W0 Try.f64.results K) (envL l) m) : CallA Try.prog W0 64 l.toArray m K :=
  call_of_vc Try.func64 rfl ca_64 (by simp only [List.size_toArray]; omega) (by kernel_rfl) h
theorem ca_65 : callable Try.prog 65 = true := nd (by kernel_rfl)
theorem en_65 {W0 : World} {m : Mem} {K : Value → Mem → Prop} {l : List Value} (hl : l.length ≤ Try.f65.ntmps) (h : vc Try.prog W0 Try.f65.ntmps (Try.f65.body.getD .skip) (retK Try.prog W0 Try.f65.results K) (envL l) m) : CallA Try.prog W0 65 l.toArray m K :=
  call_of_vc Try.func65 rfl ca_65 (by simp only [List.size_toArray]; omega) (by kernel_rfl) h
theorem ca_66 : callable Try.prog 66 = true := nd (by kernel_rfl)
theorem en_66 {W0 : World} {m : Mem} {K : Value → Mem → Prop} {l : List Value} (hl : l.length ≤ Try.f66.ntmps) (h : vc Try.prog W0 Try.f66.ntmps (Try.f66.body.getD .skip) (retK Try.prog W0 Try.f66.results K) (envL l) m) : CallA Try.prog W0 66 l.toArray m K :=
  call_of_vc Try.func66 rfl ca_66 (by simp only [List.size_toArray]; omega) (by kernel_rfl) h
theorem ca_67 : callable Try.prog 67 = true := nd (by kernel_rfl)
theorem en_67 {W0 : World} {m : Mem} {K : Value → Mem → Prop} {l : List Value} (hl : l.length ≤ Try.f67.ntmps) (h : vc Try.prog W0 Try.f67.ntmps (Try.f67.body.getD .skip) (retK Try.prog W0 Try.f67.results K) (envL l) m) : CallA Try.prog W0 67 l.toArray m K :=
  call_of_vc Try.func67 rfl ca_67 (by simp only [List.size_toArray]; omega) (by kernel_rfl) h
theorem ca_68 : callable Try.prog 68 = true := nd (by kernel_rfl)
theorem en_68 {W0 : World} {m : Mem} {K : Value → Mem → Prop} {l : List Value} (hl : l.length ≤ Try.f68.ntmps) (h : vc Try.prog W0 Try.f68.ntmps (Try.f68.body.getD .skip) (retK Try.prog W0 Try.f68.results K) (envL l) m) : CallA Try.prog W0 68 l.toArray m K :=
  call_of_vc Try.func68 rfl ca_68 (by simp only [List.size_toArray]; omega) (by kernel_rfl) h
theorem ca_69 : callable Try.prog 69 = true := nd (by kernel_rfl)
theorem en_69 {W0 : World} {m : Mem} {K : Value → Mem → Prop} {l : List Value} (hl : l.length ≤ Try.f69.ntmps) (h : vc Try.prog W0 Try.f69.ntmps (Try.f69.body.getD .skip) (retK Try.prog W0 Try.f69.results K) (envL l) m) : CallA Try.prog W0 69 l.toArray m K :=
  call_of_vc Try.func69 rfl ca_69 (by simp only [List.size_toArray]; omega) (by kernel_rfl) h
theorem ca_70 : callable Try.prog 70 = true := nd (by kernel_rfl)
theorem en_70 {W0 : World} {m : Mem} {K : Value → Mem → Prop} {l : List Value} (hl : l.length ≤ Try.f70.ntmps) (h : vc Try.prog W0 Try.f70.ntmps (Try.f70.body.getD .skip) (retK Try.prog W0 Try.f70.results K) (envL l) m) : CallA Try.prog W0 70 l.toArray m K :=
  call_of_vc Try.func70 rfl ca_70 (by simp only [List.size_toArray]; omega) (by kernel_rfl) h
theorem ca_71 : callable Try.prog 71 = true := nd (by kernel_rfl)
theorem en_71 {W0 : World} {m : Mem} {K : Value → Mem → Prop} {l : List Value} (hl : l.length ≤ Try.f71.ntmps) (h : vc Try.prog W0 Try.f71.ntmps (Try.f71.body.getD .skip) (retK Try.prog W0 Try.f71.results K) (envL l) m) : CallA Try.prog W0 71 l.toArray m K :=
  call_of_vc Try.func71 rfl ca_71 (by simp only [List.size_toArray]; omega) (by kernel_rfl) h
theorem ca_72 : callable Try.prog 72 = true := nd (by kernel_rfl)
theorem en_72 {W0 : World} {m : Mem} {K : Value → Mem → Prop} {l : List Value} (hl : l.length ≤ Try.f72.ntmps) (h : vc Try.prog W0 Try.f72.ntmps (Try.f72.body.getD .skip) (retK Try.prog W0 Try.f72.results K) (envL l) m) : CallA Try.prog W0 72 l.toArray m K :=
  call_of_vc Try.func72 rfl ca_72 (by simp only [List.size_toArray]; omega) (by kernel_rfl) h
theorem ca_73 : callable Try.prog 73 = true := nd (by kernel_rfl)
theorem en_73 {W0 : World} {m : Mem} {K : Value → Mem → Prop} {l : List Value} (hl : l.length ≤ Try.f73.ntmps) (h : vc Try.prog W0 Try.f73.ntmps (Try.f73.body.getD .skip) (retK Try.prog W0 Try.f73.results K) (envL l) m) : CallA Try.prog W0 73 l.toArray m K :=
  call_of_vc Try.func73 rfl ca_73 (by simp only [List.size_toArray]; omega) (by kernel_rfl) h
theorem ca_74 : callable Try.prog 74 = true := nd (by kernel_rfl)
theorem en_74 {W0 : World} {m : Mem} {K : Value → Mem → Prop} {l : List Value} (hl : l.length ≤ Try.f74.ntmps) (h : vc Try.prog W0 Try.f74.ntmps (Try.f74.body.getD .skip) (retK Try.prog W0 Try.f74.results K) (envL l) m) : CallA Try.prog W0 74 l.toArray m K :=
  call_of_vc Try.func74 rfl ca_74 (by simp only [List.size_toArray]; omega) (by kernel_rfl) h
theorem ca_75 : callable Try.prog 75 = true := nd (by kernel_rfl)
theorem en_75 {W0 : World} {m : Mem} {K : Value → Mem → Prop} {l : List Value} (hl : l.length ≤ Try.f75.ntmps) (h : vc Try.prog W0 Try.f75.ntmps (Try.f75.body.getD .skip) (retK Try.prog W0 Try.f75.results K) (envL l) m) : CallA Try.prog W0 75 l.toArray m K :=
  call_of_vc Try.func75 rfl ca_75 (by simp only [List.size_toArray]; omega) (by kernel_rfl) h
theorem ca_76 : callable Try.prog 76 = true := nd (by kernel_rfl)
theorem en_76 {W0 : World} {m : Mem} {K : Value → Mem → Prop} {l : List Value} (hl : l.length ≤ Try.f76.ntmps) (h : vc Try.prog W0 Try.f76.ntmps (Try.f76.body.getD .skip) (retK Try.prog W0 Try.f76.results K) (envL l) m) : CallA Try.prog W0 76 l.toArray m K :=
  call_of_vc Try.func76 rfl ca_76 (by simp only [List.size_toArray]; omega) (by kernel_rfl) h
theorem ca_77 : callable Try.prog 77 = true := nd (by kernel_rfl)
theorem en_77 {W0 : World} {m : Mem} {K : Value → Mem → Prop} {l : List Value} (hl : l.length ≤ Try.f77.ntmps) (h : vc Try.prog W0 Try.f77.ntmps (Try.f77.body.getD .skip) (retK Try.prog W0 Try.f77.results K) (envL l) m) : CallA Try.prog W0 77 l.toArray m K :=
  call_of_vc Try.func77 rfl ca_77 (by simp only [List.size_toArray]; omega) (by kernel_rfl) h
theorem ca_78 : callable Try.prog 78 = true := nd (by kernel_rfl)
theorem en_78 {W0 : World} {m : Mem} {K : Value → Mem → Prop} {l : List Value} (hl : l.length ≤ Try.f78.ntmps) (h : vc Try.prog W0 Try.f78.ntmps (Try.f78.body.getD .skip) (retK Try.prog W0 Try.f78.results K) (envL l) m) : CallA Try.prog W0 78 l.toArray m K :=
  call_of_vc Try.func78 rfl ca_78 (by simp only [List.size_toArray]; omega) (by kernel_rfl) h
theorem ca_79 : callable Try.prog 79 = true := nd (by kernel_rfl)
theorem en_79 {W0 : World} {m : Mem} {K : Value → Mem → Prop} {l : List Value} (hl : l.length ≤ Try.f79.ntmps) (h : vc Try.prog W0 Try.f79.ntmps (Try.f79.body.getD .skip) (retK Try.prog W0 Try.f79.results K) (envL l) m) : CallA Try.prog W0 79 l.toArray m K :=
  call_of_vc Try.func79 rfl ca_79 (by simp only [List.size_toArray]; omega) (by kernel_rfl) h
theorem ca_80 : callable Try.prog 80 = true := nd (by kernel_rfl)
theorem en_80 {W0 : World} {m : Mem} {K : Value → Mem → Prop} {l : List Value} (hl : l.length ≤ Try.f80.ntmps) (h : vc Try.prog W0 Try.f80.ntmps (Try.f80.body.getD .skip) (retK Try.prog W0 Try.f80.results K) (envL l) m) : CallA Try.prog W0 80 l.toArray m K :=
  call_of_vc Try.func80 rfl ca_80 (by simp only [List.size_toArray]; omega) (by kernel_rfl) h
theorem ca_81 : callable Try.prog 81 = true := nd (by kernel_rfl)
theorem en_81 {W0 : World} {m : Mem} {K : Value → Mem → Prop} {l : List Value} (hl : l.length ≤ Try.f81.ntmps) (h : vc Try.prog W0 Try.f81.ntmps (Try.f81.body.getD .skip) (retK Try.prog W0 Try.f81.results K) (envL l) m) : CallA Try.prog W0 81 l.toArray m K :=
  call_of_vc Try.func81 rfl ca_81 (by simp only [List.size_toArray]; omega) (by kernel_rfl) h
theorem ca_82 : callable Try.prog 82 = true := nd (by kernel_rfl)
theorem en_82 {W0 : World} {m : Mem} {K : Value → Mem → Prop} {l : List Value} (hl : l.length ≤ Try.f82.ntmps) (h : vc Try.prog W0 Try.f82.ntmps (Try.f82.body.getD .skip) (retK Try.prog W0 Try.f82.results K) (envL l) m) : CallA Try.prog W0 82 l.toArray m K :=
  call_of_vc Try.func82 rfl ca_82 (by simp only [List.size_toArray]; omega) (by kernel_rfl) h
theorem ca_83 : callable Try.prog 83 = true := nd (by kernel_rfl)
theorem en_83 {W0 : World} {m : Mem} {K : Value → Mem → Prop} {l : List Value} (hl : l.length ≤ Try.f83.ntmps) (h : vc Try.prog W0 Try.f83.ntmps (Try.f83.body.getD .skip) (retK Try.prog W0 Try.f83.results K) (envL l) m) : CallA Try.prog W0 83 l.toArray m K :=
  call_of_vc Try.func83 rfl ca_83 (by simp only [List.size_toArray]; omega) (by kernel_rfl) h
theorem ca_84 : callable Try.prog 84 = true := nd (by kernel_rfl)
theorem en_84 {W0 : World} {m : Mem} {K : Value → Mem → Prop} {l : List Value} (hl : l.length ≤ Try.f84.ntmps) (h : vc Try.prog W0 Try.f84.ntmps (Try.f84.body.getD .skip) (retK Try.prog W0 Try.f84.results K) (envL l) m) : CallA Try.prog W0 84 l.toArray m K :=
  call_of_vc Try.func84 rfl ca_84 (by simp only [List.size_toArray]; omega) (by kernel_rfl) h
theorem ca_85 : callable Try.prog 85 = true := nd (by kernel_rfl)
theorem en_85 {W0 : World} {m : Mem} {K : Value → Mem → Prop} {l : List Value} (hl : l.length ≤ Try.f85.ntmps) (h : vc Try.prog W0 Try.f85.ntmps (Try.f85.body.getD .skip) (retK Try.prog W0 Try.f85.results K) (envL l) m) : CallA Try.prog W0 85 l.toArray m K :=
  call_of_vc Try.func85 rfl ca_85 (by simp only [List.size_toArray]; omega) (by kernel_rfl) h
end Go.Proofs.Ytdoeioljkbjabaa.R
