/- What the rows of the program's types tell. No conditions. Written by gent.py. -/
import Derived.Test.YtcddhbhdpleppaaProg
import Derived.Test.YtcddhbhdpleppaaRBld
set_option linter.unusedVariables false
set_option maxRecDepth 100000
namespace Go.Proofs.Ytcddhbhdpleppaa.R
open Go Go.RowKit Go.Proofs.Ytcddhbhdpleppaa
theorem row_1 : rowOf Try.prog 1 = some none := nd (by kernel_rfl)
theorem sz_1 : szOf Try.prog 1 = some 1 := nd (by kernel_rfl)
theorem by_1 : bytesA Try.prog 1 = some 8 := nd (by kernel_rfl)
theorem ze_1 : zeroOf Try.prog 1 = some #[.nilFunc] := nd (by kernel_rfl)
theorem us_1 : (Try.prog.underlying 1).isSome = true := nd (by kernel_rfl)
theorem row_2 : rowOf Try.prog 2 = some none := nd (by kernel_rfl)
theorem sz_2 : szOf Try.prog 2 = some 1 := nd (by kernel_rfl)
theorem by_2 : bytesA Try.prog 2 = some 8 := nd (by kernel_rfl)
theorem ze_2 : zeroOf Try.prog 2 = some #[(.int .i64 0)] := nd (by kernel_rfl)
theorem us_2 : (Try.prog.underlying 2).isSome = true := nd (by kernel_rfl)
theorem un_2 : Try.prog.underlying 2 = some (.int .i64) := nd (by kernel_rfl)
theorem row_3 : rowOf Try.prog 3 = some none := nd (by kernel_rfl)
theorem sz_3 : szOf Try.prog 3 = some 1 := nd (by kernel_rfl)
theorem by_3 : bytesA Try.prog 3 = some 8 := nd (by kernel_rfl)
theorem ze_3 : zeroOf Try.prog 3 = some #[(.int .i64 0)] := nd (by kernel_rfl)
theorem us_3 : (Try.prog.underlying 3).isSome = true := nd (by kernel_rfl)
theorem un_3 : Try.prog.underlying 3 = some (.int .i64) := nd (by kernel_rfl)
theorem row_4 : rowOf Try.prog 4 = some none := nd (by kernel_rfl)
theorem sz_4 : szOf Try.prog 4 = some 1 := nd (by kernel_rfl)
theorem by_4 : bytesA Try.prog 4 = some 1 := nd (by kernel_rfl)
theorem ze_4 : zeroOf Try.prog 4 = some #[(.bool false)] := nd (by kernel_rfl)
theorem us_4 : (Try.prog.underlying 4).isSome = true := nd (by kernel_rfl)
theorem ib_4 : isBoolT Try.prog 4 = true := nd (by kernel_rfl)
theorem row_5 : rowOf Try.prog 5 = some none := nd (by kernel_rfl)
theorem sz_5 : szOf Try.prog 5 = some 1 := nd (by kernel_rfl)
theorem by_5 : bytesA Try.prog 5 = some 1 := nd (by kernel_rfl)
theorem ze_5 : zeroOf Try.prog 5 = some #[(.int .u8 0)] := nd (by kernel_rfl)
theorem us_5 : (Try.prog.underlying 5).isSome = true := nd (by kernel_rfl)
theorem un_5 : Try.prog.underlying 5 = some (.int .u8) := nd (by kernel_rfl)
theorem row_22 : rowOf Try.prog 22 = some none := nd (by kernel_rfl)
theorem sz_22 : szOf Try.prog 22 = some 1 := nd (by kernel_rfl)
theorem by_22 : bytesA Try.prog 22 = some 24 := nd (by kernel_rfl)
theorem ze_22 : zeroOf Try.prog 22 = some #[(.slice none 0 0)] := nd (by kernel_rfl)
theorem us_22 : (Try.prog.underlying 22).isSome = true := nd (by kernel_rfl)
theorem sl_22 : slOf Try.prog 22 = some (29, 1) := nd (by kernel_rfl)
theorem isl_22 : isSlT Try.prog 22 = true := nd (by kernel_rfl)
theorem row_23 : rowOf Try.prog 23 = some none := nd (by kernel_rfl)
theorem sz_23 : szOf Try.prog 23 = some 1 := nd (by kernel_rfl)
theorem by_23 : bytesA Try.prog 23 = some 24 := nd (by kernel_rfl)
theorem ze_23 : zeroOf Try.prog 23 = some #[(.slice none 0 0)] := nd (by kernel_rfl)
theorem us_23 : (Try.prog.underlying 23).isSome = true := nd (by kernel_rfl)
theorem sl_23 : slOf Try.prog 23 = some (5, 1) := nd (by kernel_rfl)
theorem isl_23 : isSlT Try.prog 23 = true := nd (by kernel_rfl)
theorem row_24 : rowOf Try.prog 24 = some (some 6) := nd (by kernel_rfl)
theorem sz_24 : szOf Try.prog 24 = some 6 := nd (by kernel_rfl)
theorem by_24 : bytesA Try.prog 24 = some 64 := nd (by kernel_rfl)
theorem ze_24 : zeroOf Try.prog 24 = some #[(.int .i64 0), (.int .i64 0), (.bool false), (.int .i64 0), (.int .i64 0), (.slice none 0 0)] := nd (by kernel_rfl)
theorem us_24 : (Try.prog.underlying 24).isSome = true := nd (by kernel_rfl)
theorem fo_24_0 : fieldOff Try.prog 24 0 = some 0 := nd (by kernel_rfl)
theorem fr_24_0 : fieldRow Try.prog 24 0 = some (0, none) := nd (by kernel_rfl)
theorem fo_24_1 : fieldOff Try.prog 24 1 = some 1 := nd (by kernel_rfl)
theorem fr_24_1 : fieldRow Try.prog 24 1 = some (1, none) := nd (by kernel_rfl)
theorem fo_24_2 : fieldOff Try.prog 24 2 = some 2 := nd (by kernel_rfl)
theorem fr_24_2 : fieldRow Try.prog 24 2 = some (2, none) := nd (by kernel_rfl)
theorem fo_24_3 : fieldOff Try.prog 24 3 = some 3 := nd (by kernel_rfl)
theorem fr_24_3 : fieldRow Try.prog 24 3 = some (3, none) := nd (by kernel_rfl)
theorem fo_24_4 : fieldOff Try.prog 24 4 = some 4 := nd (by kernel_rfl)
theorem fr_24_4 : fieldRow Try.prog 24 4 = some (4, none) := nd (by kernel_rfl)
theorem fo_24_5 : fieldOff Try.prog 24 5 = some 5 := nd (by kernel_rfl)
theorem fr_24_5 : fieldRow Try.prog 24 5 = some (5, none) := nd (by kernel_rfl)
theorem row_25 : rowOf Try.prog 25 = some (some 6) := nd (by kernel_rfl)
theorem sz_25 : szOf Try.prog 25 = some 6 := nd (by kernel_rfl)
theorem by_25 : bytesA Try.prog 25 = some 64 := nd (by kernel_rfl)
theorem ze_25 : zeroOf Try.prog 25 = some #[(.int .i64 0), (.int .i64 0), (.bool false), (.int .i64 0), (.int .i64 0), (.slice none 0 0)] := nd (by kernel_rfl)
theorem us_25 : (Try.prog.underlying 25).isSome = true := nd (by kernel_rfl)
theorem fo_25_0 : fieldOff Try.prog 25 0 = some 0 := nd (by kernel_rfl)
theorem fr_25_0 : fieldRow Try.prog 25 0 = some (0, none) := nd (by kernel_rfl)
theorem fo_25_1 : fieldOff Try.prog 25 1 = some 1 := nd (by kernel_rfl)
theorem fr_25_1 : fieldRow Try.prog 25 1 = some (1, none) := nd (by kernel_rfl)
theorem fo_25_2 : fieldOff Try.prog 25 2 = some 2 := nd (by kernel_rfl)
theorem fr_25_2 : fieldRow Try.prog 25 2 = some (2, none) := nd (by kernel_rfl)
theorem fo_25_3 : fieldOff Try.prog 25 3 = some 3 := nd (by kernel_rfl)
theorem fr_25_3 : fieldRow Try.prog 25 3 = some (3, none) := nd (by kernel_rfl)
theorem fo_25_4 : fieldOff Try.prog 25 4 = some 4 := nd (by kernel_rfl)
theorem fr_25_4 : fieldRow Try.prog 25 4 = some (4, none) := nd (by kernel_rfl)
theorem fo_25_5 : fieldOff Try.prog 25 5 = some 5 := nd (by kernel_rfl)
theorem fr_25_5 : fieldRow Try.prog 25 5 = some (5, none) := nd (by kernel_rfl)
theorem row_26 : rowOf Try.prog 26 = some none := nd (by kernel_rfl)
theorem sz_26 : szOf Try.prog 26 = some 1 := nd (by kernel_rfl)
theorem by_26 : bytesA Try.prog 26 = some 8 := nd (by kernel_rfl)
theorem ze_26 : zeroOf Try.prog 26 = some #[(.pointer none)] := nd (by kernel_rfl)
theorem us_26 : (Try.prog.underlying 26).isSome = true := nd (by kernel_rfl)
theorem ip_26 : isPtr Try.prog 26 = true := nd (by kernel_rfl)
theorem row_28 : rowOf Try.prog 28 = some (some 16) := nd (by kernel_rfl)
theorem sz_28 : szOf Try.prog 28 = some 16 := nd (by kernel_rfl)
theorem by_28 : bytesA Try.prog 28 = some 128 := nd (by kernel_rfl)
theorem ze_28 : zeroOf Try.prog 28 = some #[(.int .i64 0), (.int .i64 0), (.int .i64 0), (.int .i64 0), (.int .i64 0), (.int .i64 0), (.int .i64 0), (.int .i64 0), (.int .i64 0), (.int .i64 0), (.int .i64 0), (.int .i64 0), (.int .i64 0), (.int .i64 0), (.int .i64 0), (.int .i64 0)] := nd (by kernel_rfl)
theorem us_28 : (Try.prog.underlying 28).isSome = true := nd (by kernel_rfl)
theorem ar_28 : arrOf Try.prog 28 = some (16, 1, none) := nd (by kernel_rfl)
theorem row_29 : rowOf Try.prog 29 = some none := nd (by kernel_rfl)
theorem sz_29 : szOf Try.prog 29 = some 1 := nd (by kernel_rfl)
theorem by_29 : bytesA Try.prog 29 = some 24 := nd (by kernel_rfl)
theorem ze_29 : zeroOf Try.prog 29 = some #[(.slice none 0 0)] := nd (by kernel_rfl)
theorem us_29 : (Try.prog.underlying 29).isSome = true := nd (by kernel_rfl)
theorem sl_29 : slOf Try.prog 29 = some (32, 2) := nd (by kernel_rfl)
theorem isl_29 : isSlT Try.prog 29 = true := nd (by kernel_rfl)
theorem row_30 : rowOf Try.prog 30 = some none := nd (by kernel_rfl)
theorem sz_30 : szOf Try.prog 30 = some 1 := nd (by kernel_rfl)
theorem by_30 : bytesA Try.prog 30 = some 1 := nd (by kernel_rfl)
theorem ze_30 : zeroOf Try.prog 30 = some #[(.int .u8 0)] := nd (by kernel_rfl)
theorem us_30 : (Try.prog.underlying 30).isSome = true := nd (by kernel_rfl)
theorem un_30 : Try.prog.underlying 30 = some (.int .u8) := nd (by kernel_rfl)
theorem row_31 : rowOf Try.prog 31 = some (some 2) := nd (by kernel_rfl)
theorem sz_31 : szOf Try.prog 31 = some 2 := nd (by kernel_rfl)
theorem by_31 : bytesA Try.prog 31 = some 16 := nd (by kernel_rfl)
theorem ze_31 : zeroOf Try.prog 31 = some #[(.int .i64 0), (.int .u8 0)] := nd (by kernel_rfl)
theorem us_31 : (Try.prog.underlying 31).isSome = true := nd (by kernel_rfl)
theorem fo_31_0 : fieldOff Try.prog 31 0 = some 0 := nd (by kernel_rfl)
theorem fr_31_0 : fieldRow Try.prog 31 0 = some (0, none) := nd (by kernel_rfl)
theorem fo_31_1 : fieldOff Try.prog 31 1 = some 1 := nd (by kernel_rfl)
theorem fr_31_1 : fieldRow Try.prog 31 1 = some (1, none) := nd (by kernel_rfl)
theorem row_32 : rowOf Try.prog 32 = some (some 2) := nd (by kernel_rfl)
theorem sz_32 : szOf Try.prog 32 = some 2 := nd (by kernel_rfl)
theorem by_32 : bytesA Try.prog 32 = some 16 := nd (by kernel_rfl)
theorem ze_32 : zeroOf Try.prog 32 = some #[(.int .i64 0), (.int .u8 0)] := nd (by kernel_rfl)
theorem us_32 : (Try.prog.underlying 32).isSome = true := nd (by kernel_rfl)
theorem fo_32_0 : fieldOff Try.prog 32 0 = some 0 := nd (by kernel_rfl)
theorem fr_32_0 : fieldRow Try.prog 32 0 = some (0, none) := nd (by kernel_rfl)
theorem fo_32_1 : fieldOff Try.prog 32 1 = some 1 := nd (by kernel_rfl)
theorem fr_32_1 : fieldRow Try.prog 32 1 = some (1, none) := nd (by kernel_rfl)
theorem row_38 : rowOf Try.prog 38 = some none := nd (by kernel_rfl)
theorem sz_38 : szOf Try.prog 38 = some 1 := nd (by kernel_rfl)
theorem by_38 : bytesA Try.prog 38 = some 24 := nd (by kernel_rfl)
theorem ze_38 : zeroOf Try.prog 38 = some #[(.slice none 0 0)] := nd (by kernel_rfl)
theorem us_38 : (Try.prog.underlying 38).isSome = true := nd (by kernel_rfl)
theorem sl_38 : slOf Try.prog 38 = some (3, 1) := nd (by kernel_rfl)
theorem isl_38 : isSlT Try.prog 38 = true := nd (by kernel_rfl)
theorem row_54 : rowOf Try.prog 54 = some none := nd (by kernel_rfl)
theorem sz_54 : szOf Try.prog 54 = some 1 := nd (by kernel_rfl)
theorem by_54 : bytesA Try.prog 54 = some 8 := nd (by kernel_rfl)
theorem ze_54 : zeroOf Try.prog 54 = some #[(.int .u64 0)] := nd (by kernel_rfl)
theorem us_54 : (Try.prog.underlying 54).isSome = true := nd (by kernel_rfl)
theorem un_54 : Try.prog.underlying 54 = some (.int .u64) := nd (by kernel_rfl)
end Go.Proofs.Ytcddhbhdpleppaa.R
/- What the rows of the program's types tell. No conditions. Written by gent.py. -/
set_option linter.unusedVariables false
set_option maxRecDepth 100000
namespace Go.Proofs.Ytcddhbhdpleppaa.R
open Go Go.RowKit Go.Proofs.Ytcddhbhdpleppaa
theorem row_141 : rowOf Try.prog 141 = some none := nd (by kernel_rfl)
theorem sz_141 : szOf Try.prog 141 = some 1 := nd (by kernel_rfl)
theorem by_141 : bytesA Try.prog 141 = some 24 := nd (by kernel_rfl)
theorem ze_141 : zeroOf Try.prog 141 = some #[(.slice none 0 0)] := nd (by kernel_rfl)
theorem us_141 : (Try.prog.underlying 141).isSome = true := nd (by kernel_rfl)
theorem sl_141 : slOf Try.prog 141 = some (30, 1) := nd (by kernel_rfl)
theorem isl_141 : isSlT Try.prog 141 = true := nd (by kernel_rfl)
theorem row_142 : rowOf Try.prog 142 = some (some 4) := nd (by kernel_rfl)
theorem sz_142 : szOf Try.prog 142 = some 4 := nd (by kernel_rfl)
theorem by_142 : bytesA Try.prog 142 = some 64 := nd (by kernel_rfl)
theorem ze_142 : zeroOf Try.prog 142 = some #[(.bool false), (.slice none 0 0), (.slice none 0 0), (.int .u8 0)] := nd (by kernel_rfl)
theorem us_142 : (Try.prog.underlying 142).isSome = true := nd (by kernel_rfl)
theorem fo_142_0 : fieldOff Try.prog 142 0 = some 0 := nd (by kernel_rfl)
theorem fr_142_0 : fieldRow Try.prog 142 0 = some (0, none) := nd (by kernel_rfl)
theorem fo_142_1 : fieldOff Try.prog 142 1 = some 1 := nd (by kernel_rfl)
theorem fr_142_1 : fieldRow Try.prog 142 1 = some (1, none) := nd (by kernel_rfl)
theorem fo_142_2 : fieldOff Try.prog 142 2 = some 2 := nd (by kernel_rfl)
theorem fr_142_2 : fieldRow Try.prog 142 2 = some (2, none) := nd (by kernel_rfl)
theorem fo_142_3 : fieldOff Try.prog 142 3 = some 3 := nd (by kernel_rfl)
theorem fr_142_3 : fieldRow Try.prog 142 3 = some (3, none) := nd (by kernel_rfl)
theorem row_143 : rowOf Try.prog 143 = some (some 4) := nd (by kernel_rfl)
theorem sz_143 : szOf Try.prog 143 = some 4 := nd (by kernel_rfl)
theorem by_143 : bytesA Try.prog 143 = some 64 := nd (by kernel_rfl)
theorem ze_143 : zeroOf Try.prog 143 = some #[(.bool false), (.slice none 0 0), (.slice none 0 0), (.int .u8 0)] := nd (by kernel_rfl)
theorem us_143 : (Try.prog.underlying 143).isSome = true := nd (by kernel_rfl)
theorem fo_143_0 : fieldOff Try.prog 143 0 = some 0 := nd (by kernel_rfl)
theorem fr_143_0 : fieldRow Try.prog 143 0 = some (0, none) := nd (by kernel_rfl)
theorem fo_143_1 : fieldOff Try.prog 143 1 = some 1 := nd (by kernel_rfl)
theorem fr_143_1 : fieldRow Try.prog 143 1 = some (1, none) := nd (by kernel_rfl)
theorem fo_143_2 : fieldOff Try.prog 143 2 = some 2 := nd (by kernel_rfl)
theorem fr_143_2 : fieldRow Try.prog 143 2 = some (2, none) := nd (by kernel_rfl)
theorem fo_143_3 : fieldOff Try.prog 143 3 = some 3 := nd (by kernel_rfl)
theorem fr_143_3 : fieldRow Try.prog 143 3 = some (3, none) := nd (by kernel_rfl)
end Go.Proofs.Ytcddhbhdpleppaa.R
/- What the rows of the program's types tell. No conditions. Written by gent.py. -/
set_option linter.unusedVariables false
set_option maxRecDepth 100000
namespace Go.Proofs.Ytcddhbhdpleppaa.R
open Go Go.RowKit Go.Proofs.Ytcddhbhdpleppaa
theorem ca_3 : callable Try.prog 3 = true := nd (by kernel_rfl)
theorem en_3 {W0 : World} {m : Mem} {K : Value → Mem → Prop} {l : List Value} (hl : l.length ≤ Try.f3.ntmps) (h : vc Try.prog W0 Try.f3.ntmps (Try.f3.body.getD .skip) (retK Try.prog W0 Try.f3.results K) (envL l) m) : CallA Try.prog W0 3 l.toArray m K :=
  call_of_vc Try.func3 rfl ca_3 (by simp only [List.size_toArray]; omega) (by kernel_rfl) h
theorem ca_15 : callable Try.prog 15 = true := nd (by kernel_rfl)
theorem en_15 {W0 : World} {m : Mem} {K : Value → Mem → Prop} {l : List Value} (hl : l.length ≤ Try.f15.ntmps) (h : vc Try.prog W0 Try.f15.ntmps (Try.f15.body.getD .skip) (retK Try.prog W0 Try.f15.results K) (envL l) m) : CallA Try.prog W0 15 l.toArray m K :=
  call_of_vc Try.func15 rfl ca_15 (by simp only [List.size_toArray]; omega) (by kernel_rfl) h
theorem ca_16 : callable Try.prog 16 = true := nd (by kernel_rfl)
theorem en_16 {W0 : World} {m : Mem} {K : Value → Mem → Prop} {l : List Value} (hl : l.length ≤ Try.f16.ntmps) (h : vc Try.prog W0 Try.f16.ntmps (Try.f16.body.getD .skip) (retK Try.prog W0 Try.f16.results K) (envL l) m) : CallA Try.prog W0 16 l.toArray m K :=
  call_of_vc Try.func16 rfl ca_16 (by simp only [List.size_toArray]; omega) (by kernel_rfl) h
theorem ca_17 : callable Try.prog 17 = true := nd (by kernel_rfl)
theorem en_17 {W0 : World} {m : Mem} {K : Value → Mem → Prop} {l : List Value} (hl : l.length ≤ Try.f17.ntmps) (h : vc Try.prog W0 Try.f17.ntmps (Try.f17.body.getD .skip) (retK Try.prog W0 Try.f17.results K) (envL l) m) : CallA Try.prog W0 17 l.toArray m K :=
  call_of_vc Try.func17 rfl ca_17 (by simp only [List.size_toArray]; omega) (by kernel_rfl) h
theorem ca_18 : callable Try.prog 18 = true := nd (by kernel_rfl)
theorem en_18 {W0 : World} {m : Mem} {K : Value → Mem → Prop} {l : List Value} (hl : l.length ≤ Try.f18.ntmps) (h : vc Try.prog W0 Try.f18.ntmps (Try.f18.body.getD .skip) (retK Try.prog W0 Try.f18.results K) (envL l) m) : CallA Try.prog W0 18 l.toArray m K :=
  call_of_vc Try.func18 rfl ca_18 (by simp only [List.size_toArray]; omega) (by kernel_rfl) h
theorem ca_19 : callable Try.prog 19 = true := nd (by kernel_rfl)
theorem en_19 {W0 : World} {m : Mem} {K : Value → Mem → Prop} {l : List Value} (hl : l.length ≤ Try.f19.ntmps) (h : vc Try.prog W0 Try.f19.ntmps (Try.f19.body.getD .skip) (retK Try.prog W0 Try.f19.results K) (envL l) m) : CallA Try.prog W0 19 l.toArray m K :=
  call_of_vc Try.func19 rfl ca_19 (by simp only [List.size_toArray]; omega) (by kernel_rfl) h
theorem ca_20 : callable Try.prog 20 = true := nd (by kernel_rfl)
theorem en_20 {W0 : World} {m : Mem} {K : Value → Mem → Prop} {l : List Value} (hl : l.length ≤ Try.f20.ntmps) (h : vc Try.prog W0 Try.f20.ntmps (Try.f20.body.getD .skip) (retK Try.prog W0 Try.f20.results K) (envL l) m) : CallA Try.prog W0 20 l.toArray m K :=
  call_of_vc Try.func20 rfl ca_20 (by simp only [List.size_toArray]; omega) (by kernel_rfl) h
theorem ca_21 : callable Try.prog 21 = true := nd (by kernel_rfl)
theorem en_21 {W0 : World} {m : Mem} {K : Value → Mem → Prop} {l : List Value} (hl : l.length ≤ Try.f21.ntmps) (h : vc Try.prog W0 Try.f21.ntmps (Try.f21.body.getD .skip) (retK Try.prog W0 Try.f21.results K) (envL l) m) : CallA Try.prog W0 21 l.toArray m K :=
  call_of_vc Try.func21 rfl ca_21 (by simp only [List.size_toArray]; omega) (by kernel_rfl) h
theorem ca_22 : callable Try.prog 22 = true := nd (by kernel_rfl)
theorem en_22 {W0 : World} {m : Mem} {K : Value → Mem → Prop} {l : List Value} (hl : l.length ≤ Try.f22.ntmps) (h : vc Try.prog W0 Try.f22.ntmps (Try.f22.body.getD .skip) (retK Try.prog W0 Try.f22.results K) (envL l) m) : CallA Try.prog W0 22 l.toArray m K :=
  call_of_vc Try.func22 rfl ca_22 (by simp only [List.size_toArray]; omega) (by kernel_rfl) h
theorem ca_23 : callable Try.prog 23 = true := nd (by kernel_rfl)
theorem en_23 {W0 : World} {m : Mem} {K : Value → Mem → Prop} {l : List Value} (hl : l.length ≤ Try.f23.ntmps) (h : vc Try.prog W0 Try.f23.ntmps (Try.f23.body.getD .skip) (retK Try.prog W0 Try.f23.results K) (envL l) m) : CallA Try.prog W0 23 l.toArray m K :=
  call_of_vc Try.func23 rfl ca_23 (by simp only [List.size_toArray]; omega) (by kernel_rfl) h
theorem ca_24 : callable Try.prog 24 = true := nd (by kernel_rfl)
theorem en_24 {W0 : World} {m : Mem} {K : Value → Mem → Prop} {l : List Value} (hl : l.length ≤ Try.f24.ntmps) (h : vc Try.prog W0 Try.f24.ntmps (Try.f24.body.getD .skip) (retK Try.prog W0 Try.f24.results K) (envL l) m) : CallA Try.prog W0 24 l.toArray m K :=
  call_of_vc Try.func24 rfl ca_24 (by simp only [List.size_toArray]; omega) (by kernel_rfl) h
theorem ca_25 : callable Try.prog 25 = true := nd (by kernel_rfl)
theorem en_25 {W0 : World} {m : Mem} {K : Value → Mem → Prop} {l : List Value} (hl : l.length ≤ Try.f25.ntmps) (h : vc Try.prog W0 Try.f25.ntmps (Try.f25.body.getD .skip) (retK Try.prog W0 Try.f25.results K) (envL l) m) : CallA Try.prog W0 25 l.toArray m K :=
  call_of_vc Try.func25 rfl ca_25 (by simp only [List.size_toArray]; omega) (by kernel_rfl) h
theorem ca_26 : callable Try.prog 26 = true := nd (by kernel_rfl)
theorem en_26 {W0 : World} {m : Mem} {K : Value → Mem → Prop} {l : List Value} (hl : l.length ≤ Try.f26.ntmps) (h : vc Try.prog W0 Try.f26.ntmps (Try.f26.body.getD .skip) (retK Try.prog W0 Try.f26.results K) (envL l) m) : CallA Try.prog W0 26 l.toArray m K :=
  call_of_vc Try.func26 rfl ca_26 (by simp only [List.size_toArray]; omega) (by kernel_rfl) h
theorem ca_90 : callable Try.prog 90 = true := nd (by kernel_rfl)
theorem en_90 {W0 : World} {m : Mem} {K : Value → Mem → Prop} {l : List Value} (hl : l.length ≤ Try.f90.ntmps) (h : vc Try.prog W0 Try.f90.ntmps (Try.f90.body.getD .skip) (retK Try.prog W0 Try.f90.results K) (envL l) m) : CallA Try.prog W0 90 l.toArray m K :=
  call_of_vc Try.func90 rfl ca_90 (by simp only [List.size_toArray]; omega) (by kernel_rfl) h
theorem ca_91 : callable Try.prog 91 = true := nd (by kernel_rfl)
theorem en_91 {W0 : World} {m : Mem} {K : Value → Mem → Prop} {l : List Value} (hl : l.length ≤ Try.f91.ntmps) (h : vc Try.prog W0 Try.f91.ntmps (Try.f91.body.getD .skip) (retK Try.prog W0 Try.f91.results K) (envL l) m) : CallA Try.prog W0 91 l.toArray m K :=
  call_of_vc Try.func91 rfl ca_91 (by simp only [List.size_toArray]; omega) (by kernel_rfl) h
theorem ca_92 : callable Try.prog 92 = true := nd (by kernel_rfl)
theorem en_92 {W0 : World} {m : Mem} {K : Value → Mem → Prop} {l : List Value} (hl : l.length ≤ Try.f92.ntmps) (h : vc Try.prog W0 Try.f92.ntmps (Try.f92.body.getD .skip) (retK Try.prog W0 Try.f92.results K) (envL l) m) : CallA Try.prog W0 92 l.toArray m K :=
  call_of_vc Try.func92 rfl ca_92 (by simp only [List.size_toArray]; omega) (by kernel_rfl) h
theorem ca_93 : callable Try.prog 93 = true := nd (by kernel_rfl)
theorem en_93 {W0 : World} {m : Mem} {K : Value → Mem → Prop} {l : List Value} (hl : l.length ≤ Try.f93.ntmps) (h : vc Try.prog W0 Try.f93.ntmps (Try.f93.body.getD .skip) (retK Try.prog W0 Try.f93.results K) (envL l) m) : CallA Try.prog W0 93 l.toArray m K :=
  call_of_vc Try.func93 rfl ca_93 (by simp only [List.size_toArray]; omega) (by kernel_rfl) h
theorem ca_94 : callable Try.prog 94 = true := nd (by kernel_rfl)
theorem en_94 {W0 : World} {m : Mem} {K : Value → Mem → Prop} {l : List Value} (hl : l.length ≤ Try.f94.ntmps) (h : vc Try.prog W0 Try.f94.ntmps (Try.f94.body.getD .skip) (retK Try.prog W0 Try.f94.results K) (envL l) m) : CallA Try.prog W0 94 l.toArray m K :=
  call_of_vc Try.func94 rfl ca_94 (by simp only [List.size_toArray]; omega) (by kernel_rfl) h
theorem ca_95 : callable Try.prog 95 = true := nd (by kernel_rfl)
theorem en_95 {W0 : World} {m : Mem} {K : Value → Mem → Prop} {l : List Value} (hl : l.length ≤ Try.f95.ntmps) (h : vc Try.prog W0 Try.f95.ntmps (Try.f95.body.getD .skip) (retK Try.prog W0 Try.f95.results K) (envL l) m) : CallA Try.prog W0 95 l.toArray m K :=
  call_of_vc Try.func95 rfl ca_95 (by simp only [List.size_toArray]; omega) (by kernel_rfl) h
theorem ca_96 : callable Try.prog 96 = true := nd (by kernel_rfl)
theorem en_96 {W0 : World} {m : Mem} {K : Value → Mem → Prop} {l : List Value} (hl : l.length ≤ Try.f96.ntmps) (h : vc Try.prog W0 Try.f96.ntmps (Try.f96.body.getD .skip) (retK Try.prog W0 Try.f96.results K) (envL l) m) : CallA Try.prog W0 96 l.toArray m K :=
  call_of_vc Try.func96 rfl ca_96 (by simp only [List.size_toArray]; omega) (by kernel_rfl) h
theorem ca_97 : callable Try.prog 97 = true := nd (by kernel_rfl)
theorem en_97 {W0 : World} {m : Mem} {K : Value → Mem → Prop} {l : List Value} (hl : l.length ≤ Try.f97.ntmps) (h : vc Try.prog W0 Try.f97.ntmps (Try.f97.body.getD .skip) (retK Try.prog W0 Try.f97.results K) (envL l) m) : CallA Try.prog W0 97 l.toArray m K :=
  call_of_vc Try.func97 rfl ca_97 (by simp only [List.size_toArray]; omega) (by kernel_rfl) h
theorem ca_150 : callable Try.prog 150 = true := nd (by kernel_rfl)
theorem en_150 {W0 : World} {m : Mem} {K : Value → Mem → Prop} {l : List Value} (hl : l.length ≤ Try.f150.ntmps) (h : vc Try.prog W0 Try.f150.ntmps (Try.f150.body.getD .skip) (retK Try.prog W0 Try.f150.results K) (envL l) m) : CallA Try.prog W0 150 l.toArray m K :=
  call_of_vc Try.func150 rfl ca_150 (by simp only [List.size_toArray]; omega) (by kernel_rfl) h
theorem ca_151 : callable Try.prog 151 = true := nd (by kernel_rfl)
theorem en_151 {W0 : World} {m : Mem} {K : Value → Mem → Prop} {l : List Value} (hl : l.length ≤ Try.f151.ntmps) (h : vc Try.prog W0 Try.f151.ntmps (Try.f151.body.getD .skip) (retK Try.prog W0 Try.f151.results K) (envL l) m) : CallA Try.prog W0 151 l.toArray m K :=
  call_of_vc Try.func151 rfl ca_151 (by simp only [List.size_toArray]; omega) (by kernel_rfl) h
theorem ca_152 : callable Try.prog 152 = true := nd (by kernel_rfl)
theorem en_152 {W0 : World} {m : Mem} {K : Value → Mem → Prop} {l : List Value} (hl : l.length ≤ Try.f152.ntmps) (h : vc Try.prog W0 Try.f152.ntmps (Try.f152.body.getD .skip) (retK Try.prog W0 Try.f152.results K) (envL l) m) : CallA Try.prog W0 152 l.toArray m K :=
  call_of_vc Try.func152 rfl ca_152 (by simp only [List.size_toArray]; omega) (by kernel_rfl) h
end Go.Proofs.Ytcddhbhdpleppaa.R
