/- The logic's equations, as a proof uses them. No conditions. -/
import Derived.Test.YtcddhbhdpleppaaRCode
namespace Go.Proofs.Ytcddhbhdpleppaa.R
open Go Go.RowKit
set_option linter.unusedVariables false
set_option linter.unusedSimpArgs false
section
variable {P : Program} {W0 : World} {d : Option Nat} {T : TypeId} {pos : String} {af : Array Edge} {g : Option (Nat × Bool)} {t : Env} {K : Value → Mem → Prop} {m : Mem}
theorem o_move {x : Operand} : vcOp P W0 ⟨d, .move x, T, pos, af, g⟩ t K m = K (ev t x) m := nd rfl
theorem o_assign {x : Operand} : vcOp P W0 ⟨d, .assign x, T, pos, af, g⟩ t K m = K (ev t x) m := nd rfl
theorem o_pick {c a b : Operand} : vcOp P W0 ⟨d, .pick c a b, T, pos, af, g⟩ t K m = pickK (ev t c) (ev t a) (ev t b) K m := nd rfl
theorem o_alloc {e : TypeId} : vcOp P W0 ⟨d, .alloc e, T, pos, af, g⟩ t K m = allocK W0 (zeroOf P e) e K m := nd rfl
theorem o_box {e : TypeId} {v : Operand} : vcOp P W0 ⟨d, .box e v, T, pos, af, g⟩ t K m = newK W0 (ev t v).cells e K m := nd rfl
theorem o_load {ty : TypeId} {a : Operand} : vcOp P W0 ⟨d, .load ty a, T, pos, af, g⟩ t K m = loadK P W0 ty (ev t a) K m := nd rfl
theorem o_store {ty : TypeId} {a v : Operand} : vcOp P W0 ⟨d, .store ty a v, T, pos, af, g⟩ t K m = storeK P W0 ty (ev t a) (ev t v) K m := nd rfl
theorem o_nil {x : Operand} : vcOp P W0 ⟨d, .nilCheck x, T, pos, af, g⟩ t K m = nilK (ev t x) K m := nd rfl
theorem o_bin {op : BinOp} {ty yt : TypeId} {x y : Operand} : vcOp P W0 ⟨d, .binOp op ty x y yt, T, pos, af, g⟩ t K m = binK P W0 op ty x y (ev t x) (ev t y) K m := nd rfl
theorem o_un {op : UnOp} {ty : TypeId} {x : Operand} : vcOp P W0 ⟨d, .unOp op ty x, T, pos, af, g⟩ t K m = unK op (ev t x) K m := nd rfl
theorem o_conv {s e : TypeId} {x : Operand} : vcOp P W0 ⟨d, .convert s e x, T, pos, af, g⟩ t K m = convK P W0 s e (ev t x) K m := nd rfl
theorem o_faddr {s : TypeId} {x : Operand} {f : Nat} : vcOp P W0 ⟨d, .fieldAddr s x f, T, pos, af, g⟩ t K m = fieldAddrK P s f (ev t x) K m := nd rfl
theorem o_field {s : TypeId} {x : Operand} {f : Nat} : vcOp P W0 ⟨d, .field s x f, T, pos, af, g⟩ t K m = fieldK P s f (ev t x) K m := nd rfl
theorem o_iaddr {s : TypeId} {x i : Operand} : vcOp P W0 ⟨d, .indexAddr s x i, T, pos, af, g⟩ t K m = indexAddrK P s (ev t x) (ev t i) K m := nd rfl
theorem o_index {s : TypeId} {x i : Operand} : vcOp P W0 ⟨d, .index s x i, T, pos, af, g⟩ t K m = indexK P s (ev t x) (ev t i) K m := nd rfl
theorem o_extract {x : Operand} {i : Nat} : vcOp P W0 ⟨d, .extract x i, T, pos, af, g⟩ t K m = extractK (ev t x) i K m := nd rfl
theorem o_func {fn : Fn} {x c : Array Operand} : vcOp P W0 ⟨d, .makeFunc fn x c, T, pos, af, g⟩ t K m = K (.func fn (x.map (ev t)) (c.map (ev t))) m := nd rfl
theorem o_build {ty : TypeId} {ps : Array (Nat × Operand)} : vcOp P W0 ⟨d, .build ty ps, T, pos, af, g⟩ t K m = aggK (P.built ty (ps.toList.map fun (i, x) => (i, ev t x))) K m := nd rfl
theorem o_bslice {ty : TypeId} {n : Nat} {ps : Array (Nat × Operand)} : vcOp P W0 ⟨d, .buildSlice ty n ps, T, pos, af, g⟩ t K m = RunA P W0 (Instr.buildSlice ty n (ps.map fun (i, x) => (i, ev t x))) m K := nd rfl
theorem o_mslice {ty : TypeId} {l c : Operand} : vcOp P W0 ⟨d, .makeSlice ty l c, T, pos, af, g⟩ t K m = RunA P W0 (Instr.makeSlice ty (ev t l) (ev t c)) m K := nd rfl
theorem o_mmap {ty : TypeId} {r : Option Operand} : vcOp P W0 ⟨d, .makeMap ty r, T, pos, af, g⟩ t K m = RunA P W0 (Instr.makeMap ty (r.map (ev t))) m K := nd rfl
theorem o_slice {ty : TypeId} {x : Operand} {lo hi mx : Option Operand} : vcOp P W0 ⟨d, .slice ty x lo hi mx, T, pos, af, g⟩ t K m = PureA P W0 (Instr.sliceAt ty (ev t x) (lo.map (ev t)) (hi.map (ev t)) (mx.map (ev t))) m K := nd rfl
theorem o_lookup {ty : TypeId} {x i : Operand} {ok : Bool} : vcOp P W0 ⟨d, .lookup ty x i ok, T, pos, af, g⟩ t K m = PureA P W0 (Instr.lookup ty (ev t x) (ev t i) ok) m K := nd rfl
theorem o_mapup {ty : TypeId} {x k v : Operand} : vcOp P W0 ⟨d, .mapUpdate ty x k v, T, pos, af, g⟩ t K m = RunA P W0 (Instr.mapUpdate ty (ev t x) (ev t k) (ev t v)) m fun _ m' => K undef m' := nd rfl
theorem o_call {f : Operand} {as : Array Operand} {ts : Array TypeId} : vcOp P W0 ⟨d, .call ⟨.value f, as, ts⟩, T, pos, af, g⟩ t K m = fnK P W0 (ev t f) (as.map (ev t)) K m := nd rfl
theorem o_bcall {b : Builtin} {as : Array Operand} {ts : Array TypeId} : vcOp P W0 ⟨d, .call ⟨.builtin b, as, ts⟩, T, pos, af, g⟩ t K m = builtinK P W0 b ts T (as.toList.map (ev t)) K m := nd rfl
theorem q_call {f : Operand} {as : Array Operand} {ts : Array TypeId} : vcQuiet P W0 ⟨d, .call ⟨.value f, as, ts⟩, T, pos, af, g⟩ t K m = quietFn P W0 (ev t f) (as.map (ev t)) K m := nd rfl
theorem q_move {x : Operand} : vcQuiet P W0 ⟨d, .move x, T, pos, af, g⟩ t K m = K (ev t x) m := nd rfl
theorem q_assign {x : Operand} : vcQuiet P W0 ⟨d, .assign x, T, pos, af, g⟩ t K m = K (ev t x) m := nd rfl
theorem q_pick {c a b : Operand} : vcQuiet P W0 ⟨d, .pick c a b, T, pos, af, g⟩ t K m = pickK (ev t c) (ev t a) (ev t b) K m := nd rfl
theorem q_load {ty : TypeId} {a : Operand} : vcQuiet P W0 ⟨d, .load ty a, T, pos, af, g⟩ t K m = loadK P W0 ty (ev t a) K m := nd rfl
theorem q_nil {x : Operand} : vcQuiet P W0 ⟨d, .nilCheck x, T, pos, af, g⟩ t K m = nilK (ev t x) K m := nd rfl
theorem q_bin {op : BinOp} {ty yt : TypeId} {x y : Operand} : vcQuiet P W0 ⟨d, .binOp op ty x y yt, T, pos, af, g⟩ t K m = binK P W0 op ty x y (ev t x) (ev t y) K m := nd rfl
theorem q_un {op : UnOp} {ty : TypeId} {x : Operand} : vcQuiet P W0 ⟨d, .unOp op ty x, T, pos, af, g⟩ t K m = unK op (ev t x) K m := nd rfl
theorem q_conv {s e : TypeId} {x : Operand} : vcQuiet P W0 ⟨d, .convert s e x, T, pos, af, g⟩ t K m = (match ev t x with | .int _ n => convI (P.underlying s) (P.underlying e) n K m | _ => False) := nd rfl
theorem q_faddr {s : TypeId} {x : Operand} {f : Nat} : vcQuiet P W0 ⟨d, .fieldAddr s x f, T, pos, af, g⟩ t K m = fieldAddrK P s f (ev t x) K m := nd rfl
theorem q_field {s : TypeId} {x : Operand} {f : Nat} : vcQuiet P W0 ⟨d, .field s x f, T, pos, af, g⟩ t K m = fieldK P s f (ev t x) K m := nd rfl
theorem q_iaddr {s : TypeId} {x i : Operand} : vcQuiet P W0 ⟨d, .indexAddr s x i, T, pos, af, g⟩ t K m = indexAddrK P s (ev t x) (ev t i) K m := nd rfl
theorem q_index {s : TypeId} {x i : Operand} : vcQuiet P W0 ⟨d, .index s x i, T, pos, af, g⟩ t K m = indexK P s (ev t x) (ev t i) K m := nd rfl
theorem q_extract {x : Operand} {i : Nat} : vcQuiet P W0 ⟨d, .extract x i, T, pos, af, g⟩ t K m = extractK (ev t x) i K m := nd rfl
theorem q_func {fn : Fn} {x c : Array Operand} : vcQuiet P W0 ⟨d, .makeFunc fn x c, T, pos, af, g⟩ t K m = K (.func fn (x.map (ev t)) (c.map (ev t))) m := nd rfl
theorem q_build {ty : TypeId} {ps : Array (Nat × Operand)} : vcQuiet P W0 ⟨d, .build ty ps, T, pos, af, g⟩ t K m = aggK (P.built ty (ps.toList.map fun (i, x) => (i, ev t x))) K m := nd rfl
theorem q_slice {ty : TypeId} {x : Operand} {lo hi mx : Option Operand} : vcQuiet P W0 ⟨d, .slice ty x lo hi mx, T, pos, af, g⟩ t K m = PureA P W0 (Instr.sliceAt ty (ev t x) (lo.map (ev t)) (hi.map (ev t)) (mx.map (ev t))) m K := nd rfl
theorem q_lookup {ty : TypeId} {x i : Operand} {ok : Bool} : vcQuiet P W0 ⟨d, .lookup ty x i ok, T, pos, af, g⟩ t K m = PureA P W0 (Instr.lookup ty (ev t x) (ev t i) ok) m K := nd rfl

/-! values -/
theorem fnK_func {f : Nat} {x c args : Array Value} : fnK P W0 (.func (.func f) x c) args K m = CallA P W0 f (x ++ args ++ c) m K := nd rfl
theorem nilK_ptr {a : Addr} : nilK (.pointer (some a)) K m = K (.pointer (some a)) m := nd rfl
theorem nilK_func {f : Nat} {x c : Array Value} : nilK (.func (.func f) x c) K m = K (.func (.func f) x c) m := nd rfl
theorem i_add {k : IntKind} {a b : Int} : intK .add k a b K m = K (.int k (k.wrap (a + b))) m := nd rfl
theorem i_sub {k : IntKind} {a b : Int} : intK .sub k a b K m = K (.int k (k.wrap (a - b))) m := nd rfl
theorem i_mul {k : IntKind} {a b : Int} : intK .mul k a b K m = K (.int k (k.wrap (a * b))) m := nd rfl
theorem i_quo {k : IntKind} {a b : Int} : intK .quo k a b K m = (b ≠ 0 ∧ K (.int k (k.wrap (a.tdiv b))) m) := nd rfl
theorem i_rem {k : IntKind} {a b : Int} : intK .rem k a b K m = (b ≠ 0 ∧ K (.int k (a.tmod b)) m) := nd rfl
theorem i_and {k : IntKind} {a b : Int} : intK .and k a b K m = K (.int k (bits .and k a b)) m := nd rfl
theorem i_or {k : IntKind} {a b : Int} : intK .or k a b K m = K (.int k (bits .or k a b)) m := nd rfl
theorem i_xor {k : IntKind} {a b : Int} : intK .xor k a b K m = K (.int k (bits .xor k a b)) m := nd rfl
theorem i_andNot {k : IntKind} {a b : Int} : intK .andNot k a b K m = K (.int k (bits .andNot k a b)) m := nd rfl
theorem i_eql {k : IntKind} {a b : Int} : intK .eql k a b K m = K (.bool (a == b)) m := nd rfl
theorem i_neq {k : IntKind} {a b : Int} : intK .neq k a b K m = K (.bool (a != b)) m := nd rfl
theorem i_lss {k : IntKind} {a b : Int} : intK .lss k a b K m = K (.bool (decide (a < b))) m := nd rfl
theorem i_leq {k : IntKind} {a b : Int} : intK .leq k a b K m = K (.bool (decide (a ≤ b))) m := nd rfl
theorem i_gtr {k : IntKind} {a b : Int} : intK .gtr k a b K m = K (.bool (decide (b < a))) m := nd rfl
theorem i_geq {k : IntKind} {a b : Int} : intK .geq k a b K m = K (.bool (decide (b ≤ a))) m := nd rfl
theorem i_shl {k : IntKind} {a b : Int} : intK .shl k a b K m = (0 ≤ b ∧ K (.int k (k.wrap (a * 2 ^ (min b.toNat k.bits)))) m) := nd rfl
theorem i_shr {k : IntKind} {a b : Int} : intK .shr k a b K m = (0 ≤ b ∧ K (.int k (a.fdiv (2 ^ (min b.toNat k.bits)))) m) := nd rfl
theorem binK_kk {op : BinOp} {ty : TypeId} {x y : Operand} {k : IntKind} {a b : Int} : binK P W0 op ty x y (.int k a) (.int k b) K m = intK op k a b K m := by simp [binK]
theorem binK_shl {ty : TypeId} {x y : Operand} {k k' : IntKind} {a b : Int} : binK P W0 .shl ty x y (.int k a) (.int k' b) K m = intK .shl k a b K m := by simp [binK]
theorem binK_shr {ty : TypeId} {x y : Operand} {k k' : IntKind} {a b : Int} : binK P W0 .shr ty x y (.int k a) (.int k' b) K m = intK .shr k a b K m := by simp [binK]
theorem s_eql {a b : ByteArray} : strK .eql a b K m = K (.bool (a.toList == b.toList)) m := nd rfl
theorem s_neq {a b : ByteArray} : strK .neq a b K m = K (.bool (!(a.toList == b.toList))) m := nd rfl
theorem s_add {a b : ByteArray} : strK .add a b K m = (a.size + b.size ≤ 9223372036854775807 ∧ K (.string (a ++ b)) m) := nd rfl
theorem u_not {b : Bool} : unK .not (.bool b) K m = K (.bool !b) m := nd rfl
theorem u_neg {k : IntKind} {n : Int} : unK .neg (.int k n) K m = K (.int k (k.wrap (0 - n))) m := nd rfl
theorem b_len {ts : Array TypeId} {a : Option Addr} {n c : Nat} : builtinK P W0 .len ts T [.slice a n c] K m = ((match ts[0]? with | some t => (slOf P t).isSome | none => false) = true ∧ K (.int .i64 n) m) := nd rfl
theorem b_lenS {ts : Array TypeId} {s : ByteArray} : builtinK P W0 .len ts T [.string s] K m = ((match ts[0]? with | some t => P.underlying t = some .string | none => False) ∧ K (.int .i64 s.size) m) := nd rfl
theorem b_max {ts : Array TypeId} {k k' : IntKind} {x y : Int} : builtinK P W0 .max ts T [.int k x, .int k' y] K m = K (.int k (if y > x then y else x)) m := nd rfl
theorem b_min {ts : Array TypeId} {k k' : IntKind} {x y : Int} : builtinK P W0 .min ts T [.int k x, .int k' y] K m = K (.int k (if y < x then y else x)) m := nd rfl
theorem b_append {ts : Array TypeId} {l : List Value} : builtinK P W0 .append ts T l K m = RunA P W0 (Builtin.append_ ts T l.toArray) m K := nd rfl
theorem b_copy {ts : Array TypeId} {l : List Value} : builtinK P W0 .copy ts T l K m = RunA P W0 (Builtin.copy_ ts T l.toArray) m K := nd rfl
theorem st_int {k : IntKind} {n : Int} : (storable (.int k n) = true) = True := by simp [storable]
theorem st_bool {b : Bool} : (storable (.bool b) = true) = True := by simp [storable]
theorem st_string {b : ByteArray} : (storable (.string b) = true) = True := by simp [storable]
theorem st_pointer {b : Option Addr} : (storable (.pointer b) = true) = True := by simp [storable]
theorem st_slice {b : Option Addr} {n c : Nat} : (storable (.slice b n c) = true) = True := by simp [storable]
theorem st_map {b : Option Nat} : (storable (.map b) = true) = True := by simp [storable]
theorem st_nat {n : Nat} : (0 ≤ (n : Int)) = True := by simp
end
end Go.Proofs.Ytcddhbhdpleppaa.R
