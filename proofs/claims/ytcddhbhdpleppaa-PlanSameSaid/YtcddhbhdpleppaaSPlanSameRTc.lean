/- What the rows of the program's types tell. No conditions. Written by gent.py. -/
import Derived.Test.YtcddhbhdpleppaaProg
import Derived.Test.YtcddhbhdpleppaaRBld
set_option linter.unusedVariables false
set_option maxRecDepth 100000
namespace Go.Proofs.Ytcddhbhdpleppaa.R
open Go Go.RowKit Go.Proofs.Ytcddhbhdpleppaa
theorem row_1 : rowOf Try.prog 1 = some none := nd (by kernel_rfl)
theorem sz_1 : szOf Try.prog 1 = some 1 := nd (by kernel_rfl)
theorem by_1 : bytesA Try.prog 1 = some 8 := nd (by kernel_rfl)
theorem ze_1 : zeroOf Try.prog 1 = some #[.nilFunc] := nd (by kernel_rfl)
theorem us_1 : (Try.prog.underlying 1).isSome = true := nd (by kernel_rfl)
theorem row_3 : rowOf Try.prog 3 = some none := nd (by kernel_rfl)
theorem sz_3 : szOf Try.prog 3 = some 1 := nd (by kernel_rfl)
theorem by_3 : bytesA Try.prog 3 = some 8 := nd (by kernel_rfl)
theorem ze_3 : zeroOf Try.prog 3 = some #[(.int .i64 0)] := nd (by kernel_rfl)
theorem us_3 : (Try.prog.underlying 3).isSome = true := nd (by kernel_rfl)
theorem un_3 : Try.prog.underlying 3 = some (.int .i64) := nd (by kernel_rfl)
theorem row_4 : rowOf Try.prog 4 = some none := nd (by kernel_rfl)
theorem sz_4 : szOf Try.prog 4 = some 1 := nd (by kernel_rfl)
theorem by_4 : bytesA Try.prog 4 = some 1 := nd (by kernel_rfl)
theorem ze_4 : zeroOf Try.prog 4 = some #[(.bool false)] := nd (by kernel_rfl)
theorem us_4 : (Try.prog.underlying 4).isSome = true := nd (by kernel_rfl)
theorem ib_4 : isBoolT Try.prog 4 = true := nd (by kernel_rfl)
theorem row_38 : rowOf Try.prog 38 = some none := nd (by kernel_rfl)
theorem sz_38 : szOf Try.prog 38 = some 1 := nd (by kernel_rfl)
theorem by_38 : bytesA Try.prog 38 = some 24 := nd (by kernel_rfl)
theorem ze_38 : zeroOf Try.prog 38 = some #[(.slice none 0 0)] := nd (by kernel_rfl)
theorem us_38 : (Try.prog.underlying 38).isSome = true := nd (by kernel_rfl)
theorem sl_38 : slOf Try.prog 38 = some (3, 1) := nd (by kernel_rfl)
theorem isl_38 : isSlT Try.prog 38 = true := nd (by kernel_rfl)
theorem row_47 : rowOf Try.prog 47 = some none := nd (by kernel_rfl)
theorem sz_47 : szOf Try.prog 47 = some 1 := nd (by kernel_rfl)
theorem by_47 : bytesA Try.prog 47 = some 24 := nd (by kernel_rfl)
theorem ze_47 : zeroOf Try.prog 47 = some #[(.slice none 0 0)] := nd (by kernel_rfl)
theorem us_47 : (Try.prog.underlying 47).isSome = true := nd (by kernel_rfl)
theorem sl_47 : slOf Try.prog 47 = some (56, 6) := nd (by kernel_rfl)
theorem isl_47 : isSlT Try.prog 47 = true := nd (by kernel_rfl)
theorem row_48 : rowOf Try.prog 48 = some (some 2) := nd (by kernel_rfl)
theorem sz_48 : szOf Try.prog 48 = some 2 := nd (by kernel_rfl)
theorem by_48 : bytesA Try.prog 48 = some 48 := nd (by kernel_rfl)
theorem ze_48 : zeroOf Try.prog 48 = some #[(.slice none 0 0), (.slice none 0 0)] := nd (by kernel_rfl)
theorem us_48 : (Try.prog.underlying 48).isSome = true := nd (by kernel_rfl)
theorem ar_48 : arrOf Try.prog 48 = some (2, 1, none) := nd (by kernel_rfl)
theorem row_49 : rowOf Try.prog 49 = some (some 3) := nd (by kernel_rfl)
theorem sz_49 : szOf Try.prog 49 = some 3 := nd (by kernel_rfl)
theorem by_49 : bytesA Try.prog 49 = some 56 := nd (by kernel_rfl)
theorem ze_49 : zeroOf Try.prog 49 = some #[(.int .i64 0), (.slice none 0 0), (.slice none 0 0)] := nd (by kernel_rfl)
theorem us_49 : (Try.prog.underlying 49).isSome = true := nd (by kernel_rfl)
theorem fo_49_0 : fieldOff Try.prog 49 0 = some 0 := nd (by kernel_rfl)
theorem fr_49_0 : fieldRow Try.prog 49 0 = some (0, none) := nd (by kernel_rfl)
theorem fo_49_1 : fieldOff Try.prog 49 1 = some 1 := nd (by kernel_rfl)
theorem fr_49_1 : fieldRow Try.prog 49 1 = some (1, some 2) := nd (by kernel_rfl)
theorem row_50 : rowOf Try.prog 50 = some (some 3) := nd (by kernel_rfl)
theorem sz_50 : szOf Try.prog 50 = some 3 := nd (by kernel_rfl)
theorem by_50 : bytesA Try.prog 50 = some 56 := nd (by kernel_rfl)
theorem ze_50 : zeroOf Try.prog 50 = some #[(.int .i64 0), (.slice none 0 0), (.slice none 0 0)] := nd (by kernel_rfl)
theorem us_50 : (Try.prog.underlying 50).isSome = true := nd (by kernel_rfl)
theorem fo_50_0 : fieldOff Try.prog 50 0 = some 0 := nd (by kernel_rfl)
theorem fr_50_0 : fieldRow Try.prog 50 0 = some (0, none) := nd (by kernel_rfl)
theorem fo_50_1 : fieldOff Try.prog 50 1 = some 1 := nd (by kernel_rfl)
theorem fr_50_1 : fieldRow Try.prog 50 1 = some (1, some 2) := nd (by kernel_rfl)
theorem row_55 : rowOf Try.prog 55 = some (some 6) := nd (by kernel_rfl)
theorem sz_55 : szOf Try.prog 55 = some 6 := nd (by kernel_rfl)
theorem by_55 : bytesA Try.prog 55 = some 80 := nd (by kernel_rfl)
theorem ze_55 : zeroOf Try.prog 55 = some #[(.int .i64 0), (.int .i64 0), (.int .i64 0), (.int .i64 0), (.slice none 0 0), (.slice none 0 0)] := nd (by kernel_rfl)
theorem us_55 : (Try.prog.underlying 55).isSome = true := nd (by kernel_rfl)
theorem fo_55_0 : fieldOff Try.prog 55 0 = some 0 := nd (by kernel_rfl)
theorem fr_55_0 : fieldRow Try.prog 55 0 = some (0, none) := nd (by kernel_rfl)
theorem fo_55_1 : fieldOff Try.prog 55 1 = some 1 := nd (by kernel_rfl)
theorem fr_55_1 : fieldRow Try.prog 55 1 = some (1, none) := nd (by kernel_rfl)
theorem fo_55_2 : fieldOff Try.prog 55 2 = some 2 := nd (by kernel_rfl)
theorem fr_55_2 : fieldRow Try.prog 55 2 = some (2, none) := nd (by kernel_rfl)
theorem fo_55_3 : fieldOff Try.prog 55 3 = some 3 := nd (by kernel_rfl)
theorem fr_55_3 : fieldRow Try.prog 55 3 = some (3, none) := nd (by kernel_rfl)
theorem fo_55_4 : fieldOff Try.prog 55 4 = some 4 := nd (by kernel_rfl)
theorem fr_55_4 : fieldRow Try.prog 55 4 = some (4, none) := nd (by kernel_rfl)
theorem fo_55_5 : fieldOff Try.prog 55 5 = some 5 := nd (by kernel_rfl)
theorem fr_55_5 : fieldRow Try.prog 55 5 = some (5, none) := nd (by kernel_rfl)
theorem row_56 : rowOf Try.prog 56 = some (some 6) := nd (by kernel_rfl)
theorem sz_56 : szOf Try.prog 56 = some 6 := nd (by kernel_rfl)
theorem by_56 : bytesA Try.prog 56 = some 80 := nd (by kernel_rfl)
theorem ze_56 : zeroOf Try.prog 56 = some #[(.int .i64 0), (.int .i64 0), (.int .i64 0), (.int .i64 0), (.slice none 0 0), (.slice none 0 0)] := nd (by kernel_rfl)
theorem us_56 : (Try.prog.underlying 56).isSome = true := nd (by kernel_rfl)
theorem fo_56_0 : fieldOff Try.prog 56 0 = some 0 := nd (by kernel_rfl)
theorem fr_56_0 : fieldRow Try.prog 56 0 = some (0, none) := nd (by kernel_rfl)
theorem fo_56_1 : fieldOff Try.prog 56 1 = some 1 := nd (by kernel_rfl)
theorem fr_56_1 : fieldRow Try.prog 56 1 = some (1, none) := nd (by kernel_rfl)
theorem fo_56_2 : fieldOff Try.prog 56 2 = some 2 := nd (by kernel_rfl)
theorem fr_56_2 : fieldRow Try.prog 56 2 = some (2, none) := nd (by kernel_rfl)
theorem fo_56_3 : fieldOff Try.prog 56 3 = some 3 := nd (by kernel_rfl)
theorem fr_56_3 : fieldRow Try.prog 56 3 = some (3, none) := nd (by kernel_rfl)
theorem fo_56_4 : fieldOff Try.prog 56 4 = some 4 := nd (by kernel_rfl)
theorem fr_56_4 : fieldRow Try.prog 56 4 = some (4, none) := nd (by kernel_rfl)
theorem fo_56_5 : fieldOff Try.prog 56 5 = some 5 := nd (by kernel_rfl)
theorem fr_56_5 : fieldRow Try.prog 56 5 = some (5, none) := nd (by kernel_rfl)
theorem row_82 : rowOf Try.prog 82 = some (some 6) := nd (by kernel_rfl)
theorem sz_82 : szOf Try.prog 82 = some 6 := nd (by kernel_rfl)
theorem by_82 : bytesA Try.prog 82 = some 80 := nd (by kernel_rfl)
theorem ze_82 : zeroOf Try.prog 82 = some #[(.int .i64 0), (.int .i64 0), (.int .i64 0), (.int .i64 0), (.slice none 0 0), (.slice none 0 0)] := nd (by kernel_rfl)
theorem us_82 : (Try.prog.underlying 82).isSome = true := nd (by kernel_rfl)
theorem fo_82_0 : fieldOff Try.prog 82 0 = some 0 := nd (by kernel_rfl)
theorem fr_82_0 : fieldRow Try.prog 82 0 = some (0, none) := nd (by kernel_rfl)
theorem fo_82_1 : fieldOff Try.prog 82 1 = some 1 := nd (by kernel_rfl)
theorem fr_82_1 : fieldRow Try.prog 82 1 = some (1, none) := nd (by kernel_rfl)
theorem fo_82_2 : fieldOff Try.prog 82 2 = some 2 := nd (by kernel_rfl)
theorem fr_82_2 : fieldRow Try.prog 82 2 = some (2, none) := nd (by kernel_rfl)
theorem fo_82_3 : fieldOff Try.prog 82 3 = some 3 := nd (by kernel_rfl)
theorem fr_82_3 : fieldRow Try.prog 82 3 = some (3, none) := nd (by kernel_rfl)
theorem fo_82_4 : fieldOff Try.prog 82 4 = some 4 := nd (by kernel_rfl)
theorem fr_82_4 : fieldRow Try.prog 82 4 = some (4, none) := nd (by kernel_rfl)
theorem fo_82_5 : fieldOff Try.prog 82 5 = some 5 := nd (by kernel_rfl)
theorem fr_82_5 : fieldRow Try.prog 82 5 = some (5, none) := nd (by kernel_rfl)
theorem row_87 : rowOf Try.prog 87 = some none := nd (by kernel_rfl)
theorem sz_87 : szOf Try.prog 87 = some 1 := nd (by kernel_rfl)
theorem by_87 : bytesA Try.prog 87 = some 24 := nd (by kernel_rfl)
theorem ze_87 : zeroOf Try.prog 87 = some #[(.slice none 0 0)] := nd (by kernel_rfl)
theorem us_87 : (Try.prog.underlying 87).isSome = true := nd (by kernel_rfl)
theorem sl_87 : slOf Try.prog 87 = some (82, 6) := nd (by kernel_rfl)
theorem isl_87 : isSlT Try.prog 87 = true := nd (by kernel_rfl)
theorem row_122 : rowOf Try.prog 122 = some (some 8) := nd (by kernel_rfl)
theorem sz_122 : szOf Try.prog 122 = some 8 := nd (by kernel_rfl)
theorem by_122 : bytesA Try.prog 122 = some 64 := nd (by kernel_rfl)
theorem ze_122 : zeroOf Try.prog 122 = some #[(.int .i64 0), (.int .i64 0), (.int .i64 0), (.int .i64 0), (.int .i64 0), (.int .i64 0), (.int .i64 0), (.bool false)] := nd (by kernel_rfl)
theorem us_122 : (Try.prog.underlying 122).isSome = true := nd (by kernel_rfl)
theorem fo_122_0 : fieldOff Try.prog 122 0 = some 0 := nd (by kernel_rfl)
theorem fr_122_0 : fieldRow Try.prog 122 0 = some (0, none) := nd (by kernel_rfl)
theorem fo_122_1 : fieldOff Try.prog 122 1 = some 1 := nd (by kernel_rfl)
theorem fr_122_1 : fieldRow Try.prog 122 1 = some (1, none) := nd (by kernel_rfl)
theorem fo_122_2 : fieldOff Try.prog 122 2 = some 2 := nd (by kernel_rfl)
theorem fr_122_2 : fieldRow Try.prog 122 2 = some (2, none) := nd (by kernel_rfl)
theorem fo_122_3 : fieldOff Try.prog 122 3 = some 3 := nd (by kernel_rfl)
theorem fr_122_3 : fieldRow Try.prog 122 3 = some (3, none) := nd (by kernel_rfl)
theorem fo_122_4 : fieldOff Try.prog 122 4 = some 4 := nd (by kernel_rfl)
theorem fr_122_4 : fieldRow Try.prog 122 4 = some (4, none) := nd (by kernel_rfl)
theorem fo_122_5 : fieldOff Try.prog 122 5 = some 5 := nd (by kernel_rfl)
theorem fr_122_5 : fieldRow Try.prog 122 5 = some (5, none) := nd (by kernel_rfl)
theorem fo_122_6 : fieldOff Try.prog 122 6 = some 6 := nd (by kernel_rfl)
theorem fr_122_6 : fieldRow Try.prog 122 6 = some (6, none) := nd (by kernel_rfl)
theorem fo_122_7 : fieldOff Try.prog 122 7 = some 7 := nd (by kernel_rfl)
theorem fr_122_7 : fieldRow Try.prog 122 7 = some (7, none) := nd (by kernel_rfl)
end Go.Proofs.Ytcddhbhdpleppaa.R
/- What the rows of the program's types tell. No conditions. Written by gent.py. -/
set_option linter.unusedVariables false
set_option maxRecDepth 100000
namespace Go.Proofs.Ytcddhbhdpleppaa.R
open Go Go.RowKit Go.Proofs.Ytcddhbhdpleppaa
theorem row_137 : rowOf Try.prog 137 = some none := nd (by kernel_rfl)
theorem sz_137 : szOf Try.prog 137 = some 1 := nd (by kernel_rfl)
theorem by_137 : bytesA Try.prog 137 = some 24 := nd (by kernel_rfl)
theorem ze_137 : zeroOf Try.prog 137 = some #[(.slice none 0 0)] := nd (by kernel_rfl)
theorem us_137 : (Try.prog.underlying 137).isSome = true := nd (by kernel_rfl)
theorem sl_137 : slOf Try.prog 137 = some (139, 8) := nd (by kernel_rfl)
theorem isl_137 : isSlT Try.prog 137 = true := nd (by kernel_rfl)
theorem row_139 : rowOf Try.prog 139 = some (some 8) := nd (by kernel_rfl)
theorem sz_139 : szOf Try.prog 139 = some 8 := nd (by kernel_rfl)
theorem by_139 : bytesA Try.prog 139 = some 64 := nd (by kernel_rfl)
theorem ze_139 : zeroOf Try.prog 139 = some #[(.int .i64 0), (.int .i64 0), (.int .i64 0), (.int .i64 0), (.int .i64 0), (.int .i64 0), (.int .i64 0), (.bool false)] := nd (by kernel_rfl)
theorem us_139 : (Try.prog.underlying 139).isSome = true := nd (by kernel_rfl)
theorem fo_139_0 : fieldOff Try.prog 139 0 = some 0 := nd (by kernel_rfl)
theorem fr_139_0 : fieldRow Try.prog 139 0 = some (0, none) := nd (by kernel_rfl)
theorem fo_139_1 : fieldOff Try.prog 139 1 = some 1 := nd (by kernel_rfl)
theorem fr_139_1 : fieldRow Try.prog 139 1 = some (1, none) := nd (by kernel_rfl)
theorem fo_139_2 : fieldOff Try.prog 139 2 = some 2 := nd (by kernel_rfl)
theorem fr_139_2 : fieldRow Try.prog 139 2 = some (2, none) := nd (by kernel_rfl)
theorem fo_139_3 : fieldOff Try.prog 139 3 = some 3 := nd (by kernel_rfl)
theorem fr_139_3 : fieldRow Try.prog 139 3 = some (3, none) := nd (by kernel_rfl)
theorem fo_139_4 : fieldOff Try.prog 139 4 = some 4 := nd (by kernel_rfl)
theorem fr_139_4 : fieldRow Try.prog 139 4 = some (4, none) := nd (by kernel_rfl)
theorem fo_139_5 : fieldOff Try.prog 139 5 = some 5 := nd (by kernel_rfl)
theorem fr_139_5 : fieldRow Try.prog 139 5 = some (5, none) := nd (by kernel_rfl)
theorem fo_139_6 : fieldOff Try.prog 139 6 = some 6 := nd (by kernel_rfl)
theorem fr_139_6 : fieldRow Try.prog 139 6 = some (6, none) := nd (by kernel_rfl)
theorem fo_139_7 : fieldOff Try.prog 139 7 = some 7 := nd (by kernel_rfl)
theorem fr_139_7 : fieldRow Try.prog 139 7 = some (7, none) := nd (by kernel_rfl)
theorem row_149 : rowOf Try.prog 149 = some none := nd (by kernel_rfl)
theorem sz_149 : szOf Try.prog 149 = some 1 := nd (by kernel_rfl)
theorem by_149 : bytesA Try.prog 149 = some 8 := nd (by kernel_rfl)
theorem ze_149 : zeroOf Try.prog 149 = some #[.nilFunc] := nd (by kernel_rfl)
theorem us_149 : (Try.prog.underlying 149).isSome = true := nd (by kernel_rfl)
end Go.Proofs.Ytcddhbhdpleppaa.R
/- What the rows of the program's types tell. No conditions. Written by gent.py. -/
set_option linter.unusedVariables false
set_option maxRecDepth 100000
namespace Go.Proofs.Ytcddhbhdpleppaa.R
open Go Go.RowKit Go.Proofs.Ytcddhbhdpleppaa
theorem ca_4 : callable Try.prog 4 = true := nd (by kernel_rfl)
theorem en_4 {W0 : World} {m : Mem} {K : Value → Mem → Prop} {l : List Value} (hl : l.length ≤ Try.f4.ntmps) (h : vc Try.prog W0 Try.f4.ntmps (Try.f4.body.getD .skip) (retK Try.prog W0 Try.f4.results K) (envL l) m) : CallA Try.prog W0 4 l.toArray m K :=
  call_of_vc Try.func4 rfl ca_4 (by simp only [List.size_toArray]; omega) (by kernel_rfl) h
theorem ca_27 : callable Try.prog 27 = true := nd (by kernel_rfl)
theorem en_27 {W0 : World} {m : Mem} {K : Value → Mem → Prop} {l : List Value} (hl : l.length ≤ Try.f27.ntmps) (h : vc Try.prog W0 Try.f27.ntmps (Try.f27.body.getD .skip) (retK Try.prog W0 Try.f27.results K) (envL l) m) : CallA Try.prog W0 27 l.toArray m K :=
  call_of_vc Try.func27 rfl ca_27 (by simp only [List.size_toArray]; omega) (by kernel_rfl) h
theorem ca_28 : callable Try.prog 28 = true := nd (by kernel_rfl)
theorem en_28 {W0 : World} {m : Mem} {K : Value → Mem → Prop} {l : List Value} (hl : l.length ≤ Try.f28.ntmps) (h : vc Try.prog W0 Try.f28.ntmps (Try.f28.body.getD .skip) (retK Try.prog W0 Try.f28.results K) (envL l) m) : CallA Try.prog W0 28 l.toArray m K :=
  call_of_vc Try.func28 rfl ca_28 (by simp only [List.size_toArray]; omega) (by kernel_rfl) h
theorem ca_29 : callable Try.prog 29 = true := nd (by kernel_rfl)
theorem en_29 {W0 : World} {m : Mem} {K : Value → Mem → Prop} {l : List Value} (hl : l.length ≤ Try.f29.ntmps) (h : vc Try.prog W0 Try.f29.ntmps (Try.f29.body.getD .skip) (retK Try.prog W0 Try.f29.results K) (envL l) m) : CallA Try.prog W0 29 l.toArray m K :=
  call_of_vc Try.func29 rfl ca_29 (by simp only [List.size_toArray]; omega) (by kernel_rfl) h
theorem ca_30 : callable Try.prog 30 = true := nd (by kernel_rfl)
theorem en_30 {W0 : World} {m : Mem} {K : Value → Mem → Prop} {l : List Value} (hl : l.length ≤ Try.f30.ntmps) (h : vc Try.prog W0 Try.f30.ntmps (Try.f30.body.getD .skip) (retK Try.prog W0 Try.f30.results K) (envL l) m) : CallA Try.prog W0 30 l.toArray m K :=
  call_of_vc Try.func30 rfl ca_30 (by simp only [List.size_toArray]; omega) (by kernel_rfl) h
theorem ca_89 : callable Try.prog 89 = true := nd (by kernel_rfl)
theorem en_89 {W0 : World} {m : Mem} {K : Value → Mem → Prop} {l : List Value} (hl : l.length ≤ Try.f89.ntmps) (h : vc Try.prog W0 Try.f89.ntmps (Try.f89.body.getD .skip) (retK Try.prog W0 Try.f89.results K) (envL l) m) : CallA Try.prog W0 89 l.toArray m K :=
  call_of_vc Try.func89 rfl ca_89 (by simp only [List.size_toArray]; omega) (by kernel_rfl) h
theorem ca_98 : callable Try.prog 98 = true := nd (by kernel_rfl)
theorem en_98 {W0 : World} {m : Mem} {K : Value → Mem → Prop} {l : List Value} (hl : l.length ≤ Try.f98.ntmps) (h : vc Try.prog W0 Try.f98.ntmps (Try.f98.body.getD .skip) (retK Try.prog W0 Try.f98.results K) (envL l) m) : CallA Try.prog W0 98 l.toArray m K :=
  call_of_vc Try.func98 rfl ca_98 (by simp only [List.size_toArray]; omega) (by kernel_rfl) h
theorem ca_99 : callable Try.prog 99 = true := nd (by kernel_rfl)
theorem en_99 {W0 : World} {m : Mem} {K : Value → Mem → Prop} {l : List Value} (hl : l.length ≤ Try.f99.ntmps) (h : vc Try.prog W0 Try.f99.ntmps (Try.f99.body.getD .skip) (retK Try.prog W0 Try.f99.results K) (envL l) m) : CallA Try.prog W0 99 l.toArray m K :=
  call_of_vc Try.func99 rfl ca_99 (by simp only [List.size_toArray]; omega) (by kernel_rfl) h
theorem ca_100 : callable Try.prog 100 = true := nd (by kernel_rfl)
theorem en_100 {W0 : World} {m : Mem} {K : Value → Mem → Prop} {l : List Value} (hl : l.length ≤ Try.f100.ntmps) (h : vc Try.prog W0 Try.f100.ntmps (Try.f100.body.getD .skip) (retK Try.prog W0 Try.f100.results K) (envL l) m) : CallA Try.prog W0 100 l.toArray m K :=
  call_of_vc Try.func100 rfl ca_100 (by simp only [List.size_toArray]; omega) (by kernel_rfl) h
theorem ca_101 : callable Try.prog 101 = true := nd (by kernel_rfl)
theorem en_101 {W0 : World} {m : Mem} {K : Value → Mem → Prop} {l : List Value} (hl : l.length ≤ Try.f101.ntmps) (h : vc Try.prog W0 Try.f101.ntmps (Try.f101.body.getD .skip) (retK Try.prog W0 Try.f101.results K) (envL l) m) : CallA Try.prog W0 101 l.toArray m K :=
  call_of_vc Try.func101 rfl ca_101 (by simp only [List.size_toArray]; omega) (by kernel_rfl) h
theorem ca_102 : callable Try.prog 102 = true := nd (by kernel_rfl)
theorem en_102 {W0 : World} {m : Mem} {K : Value → Mem → Prop} {l : List Value} (hl : l.length ≤ Try.f102.ntmps) (h : vc Try.prog W0 Try.f102.ntmps (Try.f102.body.getD .skip) (retK Try.prog W0 Try.f102.results K) (envL l) m) : CallA Try.prog W0 102 l.toArray m K :=
  call_of_vc Try.func102 rfl ca_102 (by simp only [List.size_toArray]; omega) (by kernel_rfl) h
theorem ca_103 : callable Try.prog 103 = true := nd (by kernel_rfl)
theorem en_103 {W0 : World} {m : Mem} {K : Value → Mem → Prop} {l : List Value} (hl : l.length ≤ Try.f103.ntmps) (h : vc Try.prog W0 Try.f103.ntmps (Try.f103.body.getD .skip) (retK Try.prog W0 Try.f103.results K) (envL l) m) : CallA Try.prog W0 103 l.toArray m K :=
  call_of_vc Try.func103 rfl ca_103 (by simp only [List.size_toArray]; omega) (by kernel_rfl) h
theorem ca_120 : callable Try.prog 120 = true := nd (by kernel_rfl)
theorem en_120 {W0 : World} {m : Mem} {K : Value → Mem → Prop} {l : List Value} (hl : l.length ≤ Try.f120.ntmps) (h : vc Try.prog W0 Try.f120.ntmps (Try.f120.body.getD .skip) (retK Try.prog W0 Try.f120.results K) (envL l) m) : CallA Try.prog W0 120 l.toArray m K :=
  call_of_vc Try.func120 rfl ca_120 (by simp only [List.size_toArray]; omega) (by kernel_rfl) h
theorem ca_121 : callable Try.prog 121 = true := nd (by kernel_rfl)
theorem en_121 {W0 : World} {m : Mem} {K : Value → Mem → Prop} {l : List Value} (hl : l.length ≤ Try.f121.ntmps) (h : vc Try.prog W0 Try.f121.ntmps (Try.f121.body.getD .skip) (retK Try.prog W0 Try.f121.results K) (envL l) m) : CallA Try.prog W0 121 l.toArray m K :=
  call_of_vc Try.func121 rfl ca_121 (by simp only [List.size_toArray]; omega) (by kernel_rfl) h
theorem ca_126 : callable Try.prog 126 = true := nd (by kernel_rfl)
theorem en_126 {W0 : World} {m : Mem} {K : Value → Mem → Prop} {l : List Value} (hl : l.length ≤ Try.f126.ntmps) (h : vc Try.prog W0 Try.f126.ntmps (Try.f126.body.getD .skip) (retK Try.prog W0 Try.f126.results K) (envL l) m) : CallA Try.prog W0 126 l.toArray m K :=
  call_of_vc Try.func126 rfl ca_126 (by simp only [List.size_toArray]; omega) (by kernel_rfl) h
theorem ca_149 : callable Try.prog 149 = true := nd (by kernel_rfl)
theorem en_149 {W0 : World} {m : Mem} {K : Value → Mem → Prop} {l : List Value} (hl : l.length ≤ Try.f149.ntmps) (h : vc Try.prog W0 Try.f149.ntmps (Try.f149.body.getD .skip) (retK Try.prog W0 Try.f149.results K) (envL l) m) : CallA Try.prog W0 149 l.toArray m K :=
  call_of_vc Try.func149 rfl ca_149 (by simp only [List.size_toArray]; omega) (by kernel_rfl) h
theorem ca_153 : callable Try.prog 153 = true := nd (by kernel_rfl)
theorem en_153 {W0 : World} {m : Mem} {K : Value → Mem → Prop} {l : List Value} (hl : l.length ≤ Try.f153.ntmps) (h : vc Try.prog W0 Try.f153.ntmps (Try.f153.body.getD .skip) (retK Try.prog W0 Try.f153.results K) (envL l) m) : CallA Try.prog W0 153 l.toArray m K :=
  call_of_vc Try.func153 rfl ca_153 (by simp only [List.size_toArray]; omega) (by kernel_rfl) h
theorem ca_154 : callable Try.prog 154 = true := nd (by kernel_rfl)
theorem en_154 {W0 : World} {m : Mem} {K : Value → Mem → Prop} {l : List Value} (hl : l.length ≤ Try.f154.ntmps) (h : vc Try.prog W0 Try.f154.ntmps (Try.f154.body.getD .skip) (retK Try.prog W0 Try.f154.results K) (envL l) m) : CallA Try.prog W0 154 l.toArray m K :=
  call_of_vc Try.func154 rfl ca_154 (by simp only [List.size_toArray]; omega) (by kernel_rfl) h
theorem ca_162 : callable Try.prog 162 = true := nd (by kernel_rfl)
theorem en_162 {W0 : World} {m : Mem} {K : Value → Mem → Prop} {l : List Value} (hl : l.length ≤ Try.f162.ntmps) (h : vc Try.prog W0 Try.f162.ntmps (Try.f162.body.getD .skip) (retK Try.prog W0 Try.f162.results K) (envL l) m) : CallA Try.prog W0 162 l.toArray m K :=
  call_of_vc Try.func162 rfl ca_162 (by simp only [List.size_toArray]; omega) (by kernel_rfl) h
theorem ca_177 : callable Try.prog 177 = true := nd (by kernel_rfl)
theorem en_177 {W0 : World} {m : Mem} {K : Value → Mem → Prop} {l : List Value} (hl : l.length ≤ Try.f177.ntmps) (h : vc Try.prog W0 Try.f177.ntmps (Try.f177.body.getD .skip) (retK Try.prog W0 Try.f177.results K) (envL l) m) : CallA Try.prog W0 177 l.toArray m K :=
  call_of_vc Try.func177 rfl ca_177 (by simp only [List.size_toArray]; omega) (by kernel_rfl) h
theorem ca_178 : callable Try.prog 178 = true := nd (by kernel_rfl)
theorem en_178 {W0 : World} {m : Mem} {K : Value → Mem → Prop} {l : List Value} (hl : l.length ≤ Try.f178.ntmps) (h : vc Try.prog W0 Try.f178.ntmps (Try.f178.body.getD .skip) (retK Try.prog W0 Try.f178.results K) (envL l) m) : CallA Try.prog W0 178 l.toArray m K :=
  call_of_vc Try.func178 rfl ca_178 (by simp only [List.size_toArray]; omega) (by kernel_rfl) h
end Go.Proofs.Ytcddhbhdpleppaa.R
