/- A logic of partial memories over the kit's contracts: what a call does to the blocks that are known, all else left open. No conditions. -/
import Derived.Tactics
import Derived.Below
import Derived.Deep.Quiet
import Derived.KernelRfl
import Derived.Laws.Cells
import Derived.Laws.CopyRow
import Derived.Laws.Tables
import Derived.Laws.Rows
import Derived.LoopN
namespace Go.Proofs.Ytcddhbhdpleppaa.R
open Go Go.RowKit
set_option linter.unusedVariables false
set_option linter.unusedSimpArgs false

/-- An equation that simp takes as a fact, not as a step of reduction. -/
theorem nd {α : Sort _} {a b : α} (h : a = b) : a = b := h
abbrev Env := Nat → Value
abbrev Mem := Nat → Option Obj
def upd (t : Env) (d : Nat) (v : Value) : Env := fun i => match Nat.beq i d with | true => v | false => t i
theorem upd_app (t : Env) (d : Nat) (v : Value) (i : Nat) : upd t d v i = if i = d then v else t i := by
  unfold upd
  by_cases h : i = d
  · subst h; simp
  · rw [if_neg h]; have : Nat.beq i d = false := by cases e : Nat.beq i d; rfl; exact absurd (Nat.eq_of_beq_eq_true e) h
    rw [this]
def put (d : Option Nat) (v : Value) (t : Env) : Env := match d with | some d => upd t d v | none => t
theorem put_some (d : Nat) (v : Value) (t : Env) : put (some d) v t = upd t d v := nd rfl
theorem put_none (v : Value) (t : Env) : put none v t = t := nd rfl
def Mem.set (m : Mem) (b : Nat) (o : Obj) : Mem := fun i => if i = b then some o else m i
theorem Mem.set_app (m : Mem) (b : Nat) (o : Obj) (i : Nat) : m.set b o i = if i = b then some o else m i := nd rfl
theorem Mem.set_same (m : Mem) (b : Nat) (o : Obj) : m.set b o b = some o := by simp [Mem.set]
theorem Mem.set_ne (m : Mem) (b : Nat) (o : Obj) {i : Nat} (h : i ≠ b) : m.set b o i = m i := by simp [Mem.set, h]
def ev (t : Env) : Operand → Value
  | .tmp i => t i
  | .const v => v
  | .global g => .pointer (some ⟨g, 0, none⟩)
  | .func f => .func (.func f) #[] #[]
theorem ev_tmp (t : Env) (i : Nat) : ev t (.tmp i) = t i := nd rfl
theorem ev_const (t : Env) (v : Value) : ev t (.const v) = v := nd rfl
theorem ev_func (t : Env) (f : Nat) : ev t (.func f) = .func (.func f) #[] #[] := nd rfl
/-- A frame out of a list of arguments. -/
def envL : List Value → Env
  | [], _ => undef
  | v :: _, 0 => v
  | _ :: l, n + 1 => envL l n
theorem envL_nil (n : Nat) : envL [] n = undef := by cases n <;> rfl
theorem envL_zero (v : Value) (l : List Value) : envL (v :: l) 0 = v := nd rfl
theorem envL_succ (v : Value) (l : List Value) (n : Nat) : envL (v :: l) (n + 1) = envL l n := nd rfl

structure Sub (W0 : World) (m : Mem) (w : World) : Prop where
  old : Below W0.heap.size W0 w
  own : ∀ b o, m b = some o → W0.heap.size ≤ b ∧ w.heap[b]? = some o

structure Fresh (W0 : World) (m : Mem) (b : Nat) : Prop where
  le : W0.heap.size ≤ b
  no : m b = none

def Ext (m m' : Mem) : Prop := ∀ b o, m b = some o → m' b = some o
theorem Ext.refl (m : Mem) : Ext m m := fun _ _ h => h
theorem Ext.trans {a b c : Mem} (h : Ext a b) (k : Ext b c) : Ext a c := fun x o e => k x o (h x o e)
theorem Ext.set {m m' : Mem} (h : Ext m m') {b : Nat} (hb : m b = none) (o : Obj) : Ext m (m'.set b o) := fun x u e => by
  have : x ≠ b := fun hx => by subst hx; rw [hb] at e; cases e
  rw [Mem.set_ne _ _ _ this]; exact h x u e

section
variable {P : Program} {W0 : World}

theorem Sub.mono {m m' : Mem} {w : World} (h : Sub W0 m' w) (e : Ext m m') : Sub W0 m w := ⟨h.old, fun b o hb => h.own b o (e b o hb)⟩
theorem Sub.drew {m : Mem} {w : World} (h : Sub W0 m w) : Sub W0 m { w with drawn := w.drawn + 1 } := ⟨h.old.trans ⟨rfl, rfl, rfl, Nat.le_refl _, fun _ _ => rfl⟩, h.own⟩
theorem Sub.fresh {m : Mem} {w : World} (h : Sub W0 m w) : Fresh W0 m w.heap.size := ⟨h.old.size, by
  cases e : m w.heap.size with
  | none => rfl
  | some o => have := (h.own _ _ e).2; simp at this⟩
theorem Sub.alloc {m : Mem} {w : World} (h : Sub W0 m w) (o : Obj) : Sub W0 (m.set w.heap.size o) (w.alloc o) := by
  refine ⟨h.old.alloc h.old.size o, fun b u hb => ?_⟩
  by_cases e : b = w.heap.size
  · subst e
    rw [Mem.set_same] at hb
    cases hb
    refine ⟨h.old.size, ?_⟩
    show (w.heap.push o)[w.heap.size]? = some o
    simp
  · rw [Mem.set_ne _ _ _ e] at hb
    obtain ⟨h1, h2⟩ := h.own b u hb
    have hlt := (Array.getElem?_eq_some_iff.1 h2).1
    exact ⟨h1, by rw [Below.heap_alloc _ _ _ hlt]; exact h2⟩
/-- A known block is changed as a whole. -/
theorem Sub.put {m : Mem} {w w' : World} (h : Sub W0 m w) {b : Nat} {o o' : Obj} (hb : m b = some o) (hw : Below b w w' ) (hs : w'.heap.size = w.heap.size)
    (hother : ∀ k, k ≠ b → w'.heap[k]? = w.heap[k]?) (hnew : w'.heap[b]? = some o') : Sub W0 (m.set b o') w' := by
  refine ⟨h.old.trans ⟨hw.os, hw.tape, hw.output, by omega, fun k hk => hother k (by have := (h.own b o hb).1; omega)⟩, fun k u hk => ?_⟩
  by_cases e : k = b
  · subst e; rw [Mem.set_same] at hk; cases hk; exact ⟨(h.own _ _ hb).1, hnew⟩
  · rw [Mem.set_ne _ _ _ e] at hk
    obtain ⟨h1, h2⟩ := h.own k u hk
    exact ⟨h1, by rw [hother k e]; exact h2⟩

/-! ### reading -/
def cellA (W0 : World) (m : Mem) (a : Addr) : Option Value :=
  if a.block < W0.heap.size then W0.cell? a
  else match m a.block with
    | some (.cells c _ _) => if a.spot.isSome then none else c[a.off]?
    | _ => none
theorem cellA_cell {m : Mem} {w : World} (h : Sub W0 m w) {a : Addr} {v : Value} (hc : cellA W0 m a = some v) : w.cell? a = some v := by
  unfold cellA at hc
  split at hc
  · rename_i hlt; rw [h.old.cell hlt]; exact hc
  · split at hc
    · rename_i c e f hm
      unfold World.cell?
      rw [(h.own _ _ hm).2]
      exact hc
    · cases hc
theorem cellA_old {m : Mem} {a : Addr} {v : Value} (h : W0.cell? a = some v) : cellA W0 m a = some v := by
  unfold cellA
  have : a.block < W0.heap.size := by
    unfold World.cell? at h
    split at h
    · rename_i hx; exact (Array.getElem?_eq_some_iff.1 hx).1
    · cases h
  rw [if_pos this]; exact h
theorem cellA_own {m : Mem} {b o : Nat} {c : Array Value} {e : TypeId} {f : Nat × Nat} {v : Value} (hb : W0.heap.size ≤ b) (hm : m b = some (.cells c e f)) (hc : c[o]? = some v) :
    cellA W0 m ⟨b, o, none⟩ = some v := by
  unfold cellA
  rw [if_neg (by show ¬ b < _; omega)]
  show (match m b with | some (.cells c _ _) => if (none : Option Nat).isSome then none else c[o]? | _ => none) = _
  rw [hm]; exact hc
/-- n cells from an address on. -/
def cellsA (W0 : World) (m : Mem) (a : Addr) (n : Nat) : Option (Array Value) := ((List.range n).mapM fun j => cellA W0 m (a.add j)).map List.toArray

/-! ### what a type's row tells -/
def szOf (P : Program) (t : TypeId) : Option Nat := (P.info? t).map (·.size)
def bytesA (P : Program) (t : TypeId) : Option Nat := (P.info? t).map (·.bytes)
def zeroOf (P : Program) (t : TypeId) : Option (Array Value) := ((P.info? t).bind (·.zero)).map Value.cells
/-- none: no such type; some none: one cell; some (some n): a struct or an array of n cells -/
def rowOf (P : Program) (t : TypeId) : Option (Option Nat) :=
  match P.underlying t with
  | some (.struct _) | some (.array _ _) => (szOf P t).map some
  | some _ => some none
  | none => none
def fieldOff (P : Program) (s : TypeId) (f : Nat) : Option Nat :=
  match P.underlying s with
  | some (.struct fs) => match fs[f]? with
    | some fl => match szOf P fl.type with
      | some (_ + 1) => some fl.offset
      | _ => none
    | none => none
  | _ => none
/-- a field's offset, and its row -/
def fieldRow (P : Program) (s : TypeId) (f : Nat) : Option (Nat × Option Nat) :=
  match P.underlying s with
  | some (.struct fs) => match fs[f]? with
    | some fl => match rowOf P fl.type with
      | some r => some (fl.offset, r)
      | none => none
    | none => none
  | _ => none
/-- an array's length, its elements' cells and row -/
def arrOf (P : Program) (t : TypeId) : Option (Nat × Nat × Option Nat) :=
  match P.underlying t with
  | some (.array n e) => match szOf P e, rowOf P e with
    | some s, some r => some (n, s, r)
    | _, _ => none
  | _ => none
def slOf (P : Program) (t : TypeId) : Option (TypeId × Nat) :=
  match P.underlying t with
  | some (.slice e) => (szOf P e).map fun s => (e, s)
  | _ => none
def callable (P : Program) (f : Nat) : Bool := match P.funcs[f]? with | some fn => fn.name != "runtime.NumGoroutine" && fn.body.isSome && (P.inits.idxOf? f).isNone | none => false

/-! ### calls and operations -/
structure CallA (P : Program) (W0 : World) (f : Nat) (args : Array Value) (m : Mem) (K : Value → Mem → Prop) : Prop where
  ok : callable P f = true
  run : ∀ w, Sub W0 m w → Calls P f args w fun e w' => ∃ v m', e = .returned v ∧ Sub W0 m' w' ∧ K v m'
def RunA (P : Program) (W0 : World) {α : Type} (s : Sem α) (m : Mem) (K : α → Mem → Prop) : Prop :=
  ∀ w, Sub W0 m w → ∃ x w' m', s.run P w = .ok x w' ∧ Sub W0 m' w' ∧ K x m'
def okUpon (P : Program) (W0 : World) (K : Value → Mem → Prop) : Result Next → Prop
  | .ok (.value v) w' => ∃ m', Sub W0 m' w' ∧ K v m'
  | .ok .skip w' => ∃ m', Sub W0 m' w' ∧ K undef m'
  | .ok (.enter f args) w' => ∃ m', Sub W0 m' w' ∧ CallA P W0 f args m' K
  | _ => False
def OkA (P : Program) (W0 : World) (s : Sem Next) (m : Mem) (K : Value → Mem → Prop) : Prop := ∀ w, Sub W0 m w → okUpon P W0 K (s.run P w)

theorem CallA.mono {f : Nat} {args : Array Value} {m : Mem} {K K' : Value → Mem → Prop} (h : CallA P W0 f args m K) (hk : ∀ v m', K v m' → K' v m') : CallA P W0 f args m K' :=
  ⟨h.1, fun w hw => (h.2 w hw).mono fun e w' ⟨v, m', h1, h2, h3⟩ => ⟨v, m', h1, h2, hk _ _ h3⟩⟩
theorem RunA.mono {α : Type} {s : Sem α} {m : Mem} {K K' : α → Mem → Prop} (h : RunA P W0 s m K) (hk : ∀ v m', K v m' → K' v m') : RunA P W0 s m K' :=
  fun w hw => let ⟨x, w', m', h1, h2, h3⟩ := h w hw; ⟨x, w', m', h1, h2, hk _ _ h3⟩
def PureA (P : Program) (W0 : World) {α : Type} (s : Sem α) (m : Mem) (K : α → Mem → Prop) : Prop := ∃ x, (∀ w, Sub W0 m w → s.run P w = .ok x w) ∧ K x m
theorem PureA.same {α : Type} {s : Sem α} {m : Mem} {K : α → Mem → Prop} {x : α} (h : ∀ w, Sub W0 m w → s.run P w = .ok x w) (hk : K x m) : PureA P W0 s m K := ⟨x, h, hk⟩
theorem PureA.run {α : Type} {s : Sem α} {m : Mem} {K : α → Mem → Prop} (h : PureA P W0 s m K) : RunA P W0 s m K := fun w hw => let ⟨x, h1, h2⟩ := h; ⟨x, w, m, h1 w hw, hw, h2⟩
theorem RunA.same {α : Type} {s : Sem α} {m : Mem} {K : α → Mem → Prop} {x : α} (h : ∀ w, Sub W0 m w → s.run P w = .ok x w) (hk : K x m) : RunA P W0 s m K :=
  fun w hw => ⟨x, w, m, h w hw, hw, hk⟩
theorem RunA.bind {α β : Type} {s : Sem α} {f : α → Sem β} {m : Mem} {K : β → Mem → Prop} (h : RunA P W0 s m fun a m' => RunA P W0 (f a) m' K) : RunA P W0 (s >>= f) m K := fun w hw => by
  obtain ⟨x, w', m', h1, h2, h3⟩ := h w hw
  obtain ⟨y, w'', m'', g1, g2, g3⟩ := h3 w' h2
  exact ⟨y, w'', m'', by simp [h1, g1], g2, g3⟩
theorem OkA.value {s : Sem Value} {m : Mem} {K : Value → Mem → Prop} (h : RunA P W0 s m K) : OkA P W0 (do pure (.value (← s))) m K := fun w hw => by
  obtain ⟨x, w', m', h1, h2, h3⟩ := h w hw
  simp only [Sem.run_bind, h1, Result.andThen_ok, Sem.run_pure]
  exact ⟨m', h2, h3⟩
theorem OkA.unit {s : Sem Unit} {m : Mem} {K : Value → Mem → Prop} (h : RunA P W0 s m fun _ m' => K undef m') : OkA P W0 (do s; pure .skip) m K := fun w hw => by
  obtain ⟨x, w', m', h1, h2, h3⟩ := h w hw
  simp only [Sem.run_bind, h1, Result.andThen_ok, Sem.run_pure]
  exact ⟨m', h2, h3⟩

/-! ### what follows an operation -/
def optK (o : Option Value) (K : Value → Mem → Prop) (m : Mem) : Prop := match o with | some v => K v m | none => False
theorem optK_some (v : Value) (K : Value → Mem → Prop) (m : Mem) : optK (some v) K m = K v m := nd rfl
def aggK (o : Option (Array Value)) (K : Value → Mem → Prop) (m : Mem) : Prop := match o with | some cs => K (.agg cs) m | none => False
theorem aggK_some (cs : Array Value) (K : Value → Mem → Prop) (m : Mem) : aggK (some cs) K m = K (.agg cs) m := nd rfl
def pickK (c a b : Value) (K : Value → Mem → Prop) (m : Mem) : Prop := match c with | .bool c => (c = true → K a m) ∧ (c = false → K b m) | _ => False
theorem pickK_true (a b : Value) (K : Value → Mem → Prop) (m : Mem) : pickK (.bool true) a b K m = K a m := by simp [pickK]
theorem pickK_false (a b : Value) (K : Value → Mem → Prop) (m : Mem) : pickK (.bool false) a b K m = K b m := by simp [pickK]
def newK (W0 : World) (cells : Array Value) (e : TypeId) (K : Value → Mem → Prop) (m : Mem) : Prop := ∀ b, Fresh W0 m b → K (.pointer (some ⟨b, 0, none⟩)) (m.set b (.cells cells e))
def allocK (W0 : World) (z : Option (Array Value)) (e : TypeId) (K : Value → Mem → Prop) (m : Mem) : Prop := match z with | some z => newK W0 z e K m | none => False
theorem allocK_some (z : Array Value) (e : TypeId) (K : Value → Mem → Prop) (m : Mem) : allocK W0 (some z) e K m = newK W0 z e K m := nd rfl
def loadT (W0 : World) (r : Option (Option Nat)) (a : Addr) (K : Value → Mem → Prop) (m : Mem) : Prop :=
  match r with | some none => optK (cellA W0 m a) K m | some (some n) => aggK (cellsA W0 m a n) K m | none => False
theorem loadT_one (a : Addr) (K : Value → Mem → Prop) (m : Mem) : loadT W0 (some none) a K m = optK (cellA W0 m a) K m := nd rfl
theorem loadT_row (n : Nat) (a : Addr) (K : Value → Mem → Prop) (m : Mem) : loadT W0 (some (some n)) a K m = aggK (cellsA W0 m a n) K m := nd rfl
def loadK (P : Program) (W0 : World) (t : TypeId) (v : Value) (K : Value → Mem → Prop) (m : Mem) : Prop := match v with | .pointer (some a) => loadT W0 (rowOf P t) a K m | _ => False
theorem loadK_ptr (t : TypeId) (a : Addr) (K : Value → Mem → Prop) (m : Mem) : loadK P W0 t (.pointer (some a)) K m = loadT W0 (rowOf P t) a K m := nd rfl
/-- cells written over others from an offset on -/
def wr (c : Array Value) (o : Nat) (vs : List Value) : Array Value := (c.toList.take o ++ vs ++ c.toList.drop (o + vs.length)).toArray
def storeB (W0 : World) (ob : Option Obj) (b o : Nat) (vs : Array Value) (K : Value → Mem → Prop) (m : Mem) : Prop :=
  match ob with | some (.cells c e (0, 0)) => o + vs.size ≤ c.size ∧ K undef (m.set b (.cells (wr c o vs.toList) e)) | _ => False
theorem storeB_some (c : Array Value) (e : TypeId) (b o : Nat) (vs : Array Value) (K : Value → Mem → Prop) (m : Mem) :
    storeB W0 (some (.cells c e)) b o vs K m = (o + vs.size ≤ c.size ∧ K undef (m.set b (.cells (wr c o vs.toList) e))) := nd rfl
def storable : Value → Bool | .tuple _ => false | .agg cs => cs.all (·.oneCell') | _ => true
def storeK (P : Program) (W0 : World) (t : TypeId) (p v : Value) (K : Value → Mem → Prop) (m : Mem) : Prop :=
  match p with
  | .pointer (some ⟨b, o, none⟩) => storable v = true ∧ szOf P t = some v.cells.size ∧ storeB W0 (m b) b o v.cells K m
  | _ => False
theorem storeK_ptr (t : TypeId) (b o : Nat) (v : Value) (K : Value → Mem → Prop) (m : Mem) :
    storeK P W0 t (.pointer (some ⟨b, o, none⟩)) v K m = (storable v = true ∧ szOf P t = some v.cells.size ∧ storeB W0 (m b) b o v.cells K m) := nd rfl
def nilK (v : Value) (K : Value → Mem → Prop) (m : Mem) : Prop :=
  match v with
  | .pointer (some a) => K (.pointer (some a)) m
  | .func (.func f) x c => K (.func (.func f) x c) m
  | _ => False
def intK (op : BinOp) (k : IntKind) (a b : Int) (K : Value → Mem → Prop) (m : Mem) : Prop :=
  match op with
  | .add => K (.int k (k.wrap (a + b))) m
  | .sub => K (.int k (k.wrap (a - b))) m
  | .mul => K (.int k (k.wrap (a * b))) m
  | .quo => b ≠ 0 ∧ K (.int k (k.wrap (a.tdiv b))) m
  | .rem => b ≠ 0 ∧ K (.int k (a.tmod b)) m
  | .and => K (.int k (bits .and k a b)) m
  | .or => K (.int k (bits .or k a b)) m
  | .xor => K (.int k (bits .xor k a b)) m
  | .andNot => K (.int k (bits .andNot k a b)) m
  | .eql => K (.bool (a == b)) m
  | .neq => K (.bool (a != b)) m
  | .lss => K (.bool (a < b)) m
  | .leq => K (.bool (a ≤ b)) m
  | .gtr => K (.bool (a > b)) m
  | .geq => K (.bool (a ≥ b)) m
  | .shl => 0 ≤ b ∧ K (.int k (k.wrap (a * 2 ^ (min b.toNat k.bits)))) m
  | .shr => 0 ≤ b ∧ K (.int k (a.fdiv (2 ^ (min b.toNat k.bits)))) m
def strK (op : BinOp) (a b : ByteArray) (K : Value → Mem → Prop) (m : Mem) : Prop :=
  match op with
  | .add => a.size + b.size ≤ 9223372036854775807 ∧ K (.string (a ++ b)) m
  | .eql => K (.bool (a.toList == b.toList)) m
  | .neq => K (.bool (!(a.toList == b.toList))) m
  | _ => False
def isPtr (P : Program) (t : TypeId) : Bool := match P.underlying t with | some (.pointer _) => true | _ => false
def isBoolT (P : Program) (t : TypeId) : Bool := match P.underlying t with | some .bool => true | _ => false
def isSlT (P : Program) (t : TypeId) : Bool := match P.underlying t with | some (.slice _) => true | _ => false
/-- what a test for being alike tells -/
def eqK (op : BinOp) (b : Bool) (K : Value → Mem → Prop) (m : Mem) : Prop := match op with | .eql => K (.bool b) m | .neq => K (.bool (!b)) m | _ => False
theorem eqK_eql (b : Bool) (K : Value → Mem → Prop) (m : Mem) : eqK .eql b K m = K (.bool b) m := nd rfl
theorem eqK_neq (b : Bool) (K : Value → Mem → Prop) (m : Mem) : eqK .neq b K m = K (.bool (!b)) m := nd rfl
def binK (P : Program) (W0 : World) (op : BinOp) (t : TypeId) (x y : Operand) (a b : Value) (K : Value → Mem → Prop) (m : Mem) : Prop :=
  match a, b with
  | .int k a, .int k' b => (k = k' ∨ op = .shl ∨ op = .shr) ∧ intK op k a b K m
  | .string a, .string b => strK op a b K m
  | .bool a, .bool b => isBoolT P t = true ∧ eqK op (a == b) K m
  | .pointer a, .pointer none => isPtr P t = true ∧ eqK op a.isNone K m
  | .slice a _ _, .slice none _ _ => isSlT P t = true ∧ eqK op a.isNone K m
  | a, b => PureA P W0 (do eqGuard op t x y a b; binOp op t a b) m K
theorem binK_int (op : BinOp) (t : TypeId) (x y : Operand) (k k' : IntKind) (a b : Int) (K : Value → Mem → Prop) (m : Mem) :
    binK P W0 op t x y (.int k a) (.int k' b) K m = ((k = k' ∨ op = .shl ∨ op = .shr) ∧ intK op k a b K m) := nd rfl
theorem binK_str (op : BinOp) (t : TypeId) (x y : Operand) (a b : ByteArray) (K : Value → Mem → Prop) (m : Mem) :
    binK P W0 op t x y (.string a) (.string b) K m = strK op a b K m := nd rfl
theorem binK_bool (op : BinOp) (t : TypeId) (x y : Operand) (a b : Bool) (K : Value → Mem → Prop) (m : Mem) :
    binK P W0 op t x y (.bool a) (.bool b) K m = (isBoolT P t = true ∧ eqK op (a == b) K m) := nd rfl
theorem binK_ptr (op : BinOp) (t : TypeId) (x y : Operand) (a : Option Addr) (K : Value → Mem → Prop) (m : Mem) :
    binK P W0 op t x y (.pointer a) (.pointer none) K m = (isPtr P t = true ∧ eqK op a.isNone K m) := nd rfl
theorem binK_sl (op : BinOp) (t : TypeId) (x y : Operand) (a : Option Addr) (n c n' c' : Nat) (K : Value → Mem → Prop) (m : Mem) :
    binK P W0 op t x y (.slice a n c) (.slice none n' c') K m = (isSlT P t = true ∧ eqK op a.isNone K m) := by cases a <;> rfl
def unK (op : UnOp) (v : Value) (K : Value → Mem → Prop) (m : Mem) : Prop :=
  match op, v with
  | .neg, .int k n => K (.int k (k.wrap (0 - n))) m
  | .xor, .int k n => K (.int k (bits .xor k (if k.signed then -1 else k.max) n)) m
  | .not, .bool b => K (.bool !b) m
  | _, _ => False
def convI (s d : Option TypeDesc) (n : Int) (K : Value → Mem → Prop) (m : Mem) : Prop :=
  match d with
  | some (.int k) => s.isSome = true ∧ K (.int k (k.wrap n)) m
  | _ => False
theorem convI_int (s : Option TypeDesc) (k : IntKind) (n : Int) (K : Value → Mem → Prop) (m : Mem) : convI s (some (.int k)) n K m = (s.isSome = true ∧ K (.int k (k.wrap n)) m) := nd rfl
def convK (P : Program) (W0 : World) (s d : TypeId) (v : Value) (K : Value → Mem → Prop) (m : Mem) : Prop :=
  match v with
  | .int _ n => convI (P.underlying s) (P.underlying d) n K m
  | v => RunA P W0 (convert s d v) m K
theorem convK_int (s d : TypeId) (k : IntKind) (n : Int) (K : Value → Mem → Prop) (m : Mem) : convK P W0 s d (.int k n) K m = convI (P.underlying s) (P.underlying d) n K m := nd rfl
def fieldAddrO (o : Option Nat) (a : Addr) (K : Value → Mem → Prop) (m : Mem) : Prop := match o with | some n => K (.pointer (some (a.add n))) m | none => False
theorem fieldAddrO_some (n : Nat) (a : Addr) (K : Value → Mem → Prop) (m : Mem) : fieldAddrO (some n) a K m = K (.pointer (some (a.add n))) m := nd rfl
def fieldAddrK (P : Program) (s : TypeId) (f : Nat) (v : Value) (K : Value → Mem → Prop) (m : Mem) : Prop := match v with | .pointer (some a) => fieldAddrO (fieldOff P s f) a K m | _ => False
theorem fieldAddrK_ptr (s : TypeId) (f : Nat) (a : Addr) (K : Value → Mem → Prop) (m : Mem) : fieldAddrK P s f (.pointer (some a)) K m = fieldAddrO (fieldOff P s f) a K m := nd rfl
def partK (r : Option (Nat × Option Nat)) (cs : Array Value) (K : Value → Mem → Prop) (m : Mem) : Prop :=
  match r with | some (o, none) => optK cs[o]? K m | some (o, some n) => K (.agg (cs.extract o (o + n))) m | none => False
theorem partK_one (o : Nat) (cs : Array Value) (K : Value → Mem → Prop) (m : Mem) : partK (some (o, none)) cs K m = optK cs[o]? K m := nd rfl
theorem partK_row (o n : Nat) (cs : Array Value) (K : Value → Mem → Prop) (m : Mem) : partK (some (o, some n)) cs K m = K (.agg (cs.extract o (o + n))) m := nd rfl
def fieldK (P : Program) (s : TypeId) (f : Nat) (v : Value) (K : Value → Mem → Prop) (m : Mem) : Prop := match v with | .agg cs => partK (fieldRow P s f) cs K m | _ => False
theorem fieldK_agg (s : TypeId) (f : Nat) (cs : Array Value) (K : Value → Mem → Prop) (m : Mem) : fieldK P s f (.agg cs) K m = partK (fieldRow P s f) cs K m := nd rfl
def idxSl (r : Option (TypeId × Nat)) (a : Addr) (n : Nat) (i : Int) (K : Value → Mem → Prop) (m : Mem) : Prop :=
  match r with | some (_, s) => 0 ≤ i ∧ i < n ∧ K (.pointer (some (a.add (i.toNat * s)))) m | none => False
theorem idxSl_some (e s : Nat) (a : Addr) (n : Nat) (i : Int) (K : Value → Mem → Prop) (m : Mem) : idxSl (some (e, s)) a n i K m = (0 ≤ i ∧ i < n ∧ K (.pointer (some (a.add (i.toNat * s)))) m) := nd rfl
def idxArr (r : Option (Nat × Nat × Option Nat)) (a : Addr) (i : Int) (K : Value → Mem → Prop) (m : Mem) : Prop :=
  match r with | some (n, s, _) => 0 ≤ i ∧ i < n ∧ K (.pointer (some (a.add (i.toNat * s)))) m | none => False
theorem idxArr_some (n s : Nat) (q : Option Nat) (a : Addr) (i : Int) (K : Value → Mem → Prop) (m : Mem) : idxArr (some (n, s, q)) a i K m = (0 ≤ i ∧ i < n ∧ K (.pointer (some (a.add (i.toNat * s)))) m) := nd rfl
def indexAddrK (P : Program) (t : TypeId) (x i : Value) (K : Value → Mem → Prop) (m : Mem) : Prop :=
  match x, i with
  | .slice (some a) n _, .int _ i => idxSl (slOf P t) a n i K m
  | .pointer (some a), .int _ i => idxArr (arrOf P t) a i K m
  | _, _ => False
theorem indexAddrK_sl (t : TypeId) (a : Addr) (n c : Nat) (k : IntKind) (i : Int) (K : Value → Mem → Prop) (m : Mem) : indexAddrK P t (.slice (some a) n c) (.int k i) K m = idxSl (slOf P t) a n i K m := nd rfl
theorem indexAddrK_arr (t : TypeId) (a : Addr) (k : IntKind) (i : Int) (K : Value → Mem → Prop) (m : Mem) : indexAddrK P t (.pointer (some a)) (.int k i) K m = idxArr (arrOf P t) a i K m := nd rfl
def idxAgg (r : Option (Nat × Nat × Option Nat)) (cs : Array Value) (i : Int) (K : Value → Mem → Prop) (m : Mem) : Prop :=
  match r with | some (n, s, q) => 0 ≤ i ∧ i < n ∧ partK (some (i.toNat * s, q)) cs K m | none => False
theorem idxAgg_some (n s : Nat) (q : Option Nat) (cs : Array Value) (i : Int) (K : Value → Mem → Prop) (m : Mem) : idxAgg (some (n, s, q)) cs i K m = (0 ≤ i ∧ i < n ∧ partK (some (i.toNat * s, q)) cs K m) := nd rfl
def byteK (o : Option UInt8) (K : Value → Mem → Prop) (m : Mem) : Prop := match o with | some b => K (.int .u8 b.toNat) m | none => False
def indexK (P : Program) (t : TypeId) (x i : Value) (K : Value → Mem → Prop) (m : Mem) : Prop :=
  match x, i with
  | .agg cs, .int _ i => idxAgg (arrOf P t) cs i K m
  | .string s, .int _ i => P.underlying t = some .string ∧ 0 ≤ i ∧ byteK s[i.toNat]? K m
  | _, _ => False
theorem indexK_agg (t : TypeId) (cs : Array Value) (k : IntKind) (i : Int) (K : Value → Mem → Prop) (m : Mem) : indexK P t (.agg cs) (.int k i) K m = idxAgg (arrOf P t) cs i K m := nd rfl
theorem indexK_str (t : TypeId) (s : ByteArray) (k : IntKind) (i : Int) (K : Value → Mem → Prop) (m : Mem) : indexK P t (.string s) (.int k i) K m = (P.underlying t = some .string ∧ 0 ≤ i ∧ byteK s[i.toNat]? K m) := nd rfl
def extractK (v : Value) (i : Nat) (K : Value → Mem → Prop) (m : Mem) : Prop := match v with | .tuple vs => optK vs[i]? K m | _ => False
theorem extractK_tuple (vs : Array Value) (i : Nat) (K : Value → Mem → Prop) (m : Mem) : extractK (.tuple vs) i K m = optK vs[i]? K m := nd rfl
def fnK (P : Program) (W0 : World) (f : Value) (args : Array Value) (K : Value → Mem → Prop) (m : Mem) : Prop := match f with | .func (.func f) x c => CallA P W0 f (x ++ args ++ c) m K | _ => False
def builtinK (P : Program) (W0 : World) (b : Builtin) (ts : Array TypeId) (t : TypeId) (args : List Value) (K : Value → Mem → Prop) (m : Mem) : Prop :=
  match b, args with
  | .len, [.slice a n c] => (match ts[0]? with | some t => (slOf P t).isSome | none => false) = true ∧ K (.int .i64 n) m
  | .len, [.string s] => (match ts[0]? with | some t => P.underlying t = some .string | none => False) ∧ K (.int .i64 s.size) m
  | .len, l => RunA P W0 (Builtin.len_ ts t l.toArray) m K
  | .cap, l => RunA P W0 (Builtin.cap_ ts t l.toArray) m K
  | .append, l => RunA P W0 (Builtin.append_ ts t l.toArray) m K
  | .copy, l => RunA P W0 (Builtin.copy_ ts t l.toArray) m K
  | .delete, l => RunA P W0 (Builtin.delete_ ts t l.toArray) m K
  | .clear, l => RunA P W0 (Builtin.clear_ ts t l.toArray) m K
  | .max, [.int k x, .int _ y] => K (.int k (if y > x then y else x)) m
  | .min, [.int k x, .int _ y] => K (.int k (if y < x then y else x)) m
  | _, _ => False
def callK (P : Program) (W0 : World) (c : Call) (T : TypeId) (t : Env) (K : Value → Mem → Prop) (m : Mem) : Prop :=
  match c.callee with
  | .value f => fnK P W0 (ev t f) (c.args.map (ev t)) K m
  | .builtin b => builtinK P W0 b c.argTypes T (c.args.toList.map (ev t)) K m
  | .invoke _ _ => False
/-- Operations that look, and change nothing. -/
def vcPure (P : Program) (W0 : World) (o : Oper) (t : Env) (K : Value → Mem → Prop) (m : Mem) : Prop :=
  match o.op with
  | .move x | .assign x => K (ev t x) m
  | .pick c a b => pickK (ev t c) (ev t a) (ev t b) K m
  | .load ty a => loadK P W0 ty (ev t a) K m
  | .nilCheck x => nilK (ev t x) K m
  | .binOp op ty x y _ => binK P W0 op ty x y (ev t x) (ev t y) K m
  | .unOp op _ x => unK op (ev t x) K m
  | .fieldAddr s x f => fieldAddrK P s f (ev t x) K m
  | .field s x f => fieldK P s f (ev t x) K m
  | .indexAddr ty x i => indexAddrK P ty (ev t x) (ev t i) K m
  | .index ty x i => indexK P ty (ev t x) (ev t i) K m
  | .extract x i => extractK (ev t x) i K m
  | .makeFunc fn x c => K (.func fn (x.map (ev t)) (c.map (ev t))) m
  | .build ty parts => aggK (P.built ty (parts.toList.map fun (i, x) => (i, ev t x))) K m
  | .slice ty x lo hi mx => PureA P W0 (Instr.sliceAt ty (ev t x) (lo.map (ev t)) (hi.map (ev t)) (mx.map (ev t))) m K
  | .lookup ty x i ok => PureA P W0 (Instr.lookup ty (ev t x) (ev t i) ok) m K
  | _ => False
def vcOp (P : Program) (W0 : World) (o : Oper) (t : Env) (K : Value → Mem → Prop) (m : Mem) : Prop :=
  match o.op with
  | .alloc e => allocK W0 (zeroOf P e) e K m
  | .box e v => newK W0 (ev t v).cells e K m
  | .store ty a v => storeK P W0 ty (ev t a) (ev t v) K m
  | .convert s d x => convK P W0 s d (ev t x) K m
  | .buildSlice ty n parts => RunA P W0 (Instr.buildSlice ty n (parts.map fun (i, x) => (i, ev t x))) m K
  | .makeSlice ty l c => RunA P W0 (Instr.makeSlice ty (ev t l) (ev t c)) m K
  | .makeMap ty r => RunA P W0 (Instr.makeMap ty (r.map (ev t))) m K
  | .mapUpdate ty x k v | .insert ty x k v => RunA P W0 (Instr.mapUpdate ty (ev t x) (ev t k) (ev t v)) m fun _ m' => K undef m'
  | .call c => callK P W0 c o.type t K m
  | _ => vcPure P W0 o t K m
/-- An operation in a region that draws its order: it looks, or is a call that hands back one value and changes nothing known. -/
def quietFn (P : Program) (W0 : World) (f : Value) (args : Array Value) (K : Value → Mem → Prop) (m : Mem) : Prop :=
  match f with | .func (.func f) x c => ∃ v, CallA P W0 f (x ++ args ++ c) m (fun v' m' => v' = v ∧ Ext m m') ∧ K v m | _ => False
def quietCall (P : Program) (W0 : World) (c : Call) (T : TypeId) (t : Env) (K : Value → Mem → Prop) (m : Mem) : Prop :=
  match c.callee with
  | .value f => quietFn P W0 (ev t f) (c.args.map (ev t)) K m
  | .builtin b => (match b, c.args.toList.map (ev t) with
    | .len, [.slice a n c'] => (match c.argTypes[0]? with | some t => (slOf P t).isSome | none => false) = true ∧ K (.int .i64 n) m
    | .len, [.string s] => (match c.argTypes[0]? with | some t => P.underlying t = some .string | none => False) ∧ K (.int .i64 s.size) m
    | .max, [.int k x, .int _ y] => K (.int k (if y > x then y else x)) m
    | .min, [.int k x, .int _ y] => K (.int k (if y < x then y else x)) m
    | _, _ => False)
  | .invoke _ _ => False
def vcQuiet (P : Program) (W0 : World) (o : Oper) (t : Env) (K : Value → Mem → Prop) (m : Mem) : Prop :=
  match o.op with
  | .call c => quietCall P W0 c o.type t K m
  | .convert s d x => (match ev t x with | .int _ n => convI (P.underlying s) (P.underlying d) n K m | _ => False)
  | _ => vcPure P W0 o t K m
end
end Go.Proofs.Ytcddhbhdpleppaa.R
