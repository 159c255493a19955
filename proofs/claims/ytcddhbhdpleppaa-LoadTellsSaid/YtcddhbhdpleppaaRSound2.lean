/- Each operation, each region, each piece of code comes to what the logic says of it. No conditions. -/
import Derived.Test.YtcddhbhdpleppaaRSound
namespace Go.Proofs.Ytcddhbhdpleppaa.R
open Go Go.RowKit
set_option linter.unusedVariables false
set_option linter.unusedSimpArgs false
section
variable {P : Program} {W0 : World}

theorem callFunc_run {f : Nat} {args : Array Value} (h : callable P f = true) (w : World) : (callFunc f args).run P w = .ok (.enter f args) w := by
  unfold callable at h
  cases hf : P.funcs[f]? with
  | none => simp [hf] at h
  | some fn =>
    simp [hf] at h
    obtain ⟨⟨h1, h2⟩, _⟩ := h
    cases hb : fn.body with
    | none => simp [hb] at h2
    | some c => simp [callFunc, program, hf, h1, hb, Sem.run]
theorem fieldAddr_run {s : TypeId} {f : Nat} {v : Value} {K : Value → Mem → Prop} {m : Mem} (h : fieldAddrK P s f v K m) : PureA P W0 (Instr.fieldAt s v f) m K := by
  unfold fieldAddrK at h
  split at h
  · rename_i a
    unfold fieldAddrO at h
    split at h
    · rename_i n hn
      unfold fieldOff at hn
      split at hn
      · rename_i fs hu
        split at hn
        · rename_i fl hfl
          split at hn
          · rename_i z hz
            cases hn
            exact .same (fun w _ => by simp [Instr.fieldAt, run_underlying hu, hfl, Instr.sureAddr, fieldPlace, szOf_run hz]) h
          · cases hn
        · cases hn
      · cases hn
    · exact h.elim
  · exact h.elim
theorem field_run {s : TypeId} {f : Nat} {v : Value} {K : Value → Mem → Prop} {m : Mem} (h : fieldK P s f v K m) : PureA P W0 (Instr.field s v f) m K := by
  unfold fieldK at h
  split at h
  · rename_i cs
    cases hr : fieldRow P s f with
    | none => rw [hr] at h; exact h.elim
    | some p =>
      obtain ⟨o, r⟩ := p
      rw [hr] at h
      unfold fieldRow at hr
      split at hr
      · rename_i fs hu
        split at hr
        · rename_i fl hfl
          split at hr
          · rename_i r' hz
            cases hr
            obtain ⟨x, h1, h3⟩ := partK_run (W0 := W0) hz h
            exact ⟨x, fun w hw => by simp [Instr.field, run_underlying hu, hfl, asAgg, h1 w hw], h3⟩
          · cases hr
        · cases hr
      · cases hr
  · exact h.elim
theorem arrOf_run {t : TypeId} {n s : Nat} {q : Option Nat} (h : arrOf P t = some (n, s, q)) : ∃ e, P.underlying t = some (.array n e) ∧ szOf P e = some s ∧ rowOf P e = some q := by
  unfold arrOf at h
  split at h
  · rename_i n' e hu
    split at h
    · rename_i s' r' hs hr
      cases h
      exact ⟨e, hu, hs, hr⟩
    · cases h
  · cases h
theorem slOf_run {t e : TypeId} {s : Nat} (h : slOf P t = some (e, s)) : P.underlying t = some (.slice e) ∧ szOf P e = some s := by
  unfold slOf at h
  split at h
  · rename_i e' hu
    cases hs : szOf P e' with
    | none => simp [hs] at h
    | some s' => simp [hs] at h; obtain ⟨rfl, rfl⟩ := h; exact ⟨hu, hs⟩
  · cases h
theorem indexAddr_run {t : TypeId} {x i : Value} {K : Value → Mem → Prop} {m : Mem} (h : indexAddrK P t x i K m) : PureA P W0 (Instr.indexAt t x i) m K := by
  unfold indexAddrK at h
  split at h
  · rename_i a n c k i
    unfold idxSl at h
    split at h
    · rename_i e s hs
      obtain ⟨h0, h1, h2⟩ := h
      obtain ⟨hu, hz⟩ := slOf_run hs
      exact .same (fun w _ => by simp [Instr.indexAt, asIntOf, run_underlying hu, h0, h1, szOf_run hz]) h2
    · exact h.elim
  · rename_i a k i
    unfold idxArr at h
    split at h
    · rename_i n s q hs
      obtain ⟨h0, h1, h2⟩ := h
      obtain ⟨e, hu, hz, _⟩ := arrOf_run hs
      exact .same (fun w _ => by simp [Instr.indexAt, asIntOf, run_underlying hu, Instr.sureAddr, h0, h1, szOf_run hz]) h2
    · exact h.elim
  · exact h.elim
theorem index_run {t : TypeId} {x i : Value} {K : Value → Mem → Prop} {m : Mem} (h : indexK P t x i K m) : PureA P W0 (Instr.index t x i) m K := by
  unfold indexK at h
  split at h
  · rename_i cs k i
    unfold idxAgg at h
    split at h
    · rename_i n s q hs
      obtain ⟨h0, h1, h2⟩ := h
      obtain ⟨e, hu, hz, hr⟩ := arrOf_run hs
      obtain ⟨y, g1, g3⟩ := partK_run (W0 := W0) hr h2
      exact ⟨y, fun w hw => by simp [Instr.index, asIntOf, run_underlying hu, h0, h1, szOf_run hz, g1 w hw], g3⟩
    · exact h.elim
  · rename_i s k i
    obtain ⟨hu, h0, h1⟩ := h
    unfold byteK at h1
    split at h1
    · rename_i b hb
      exact .same (fun w _ => by simp [Instr.index, asIntOf, run_underlying hu, h0, hb]) h1
    · exact h1.elim
  · exact h.elim
theorem unK_run {op : UnOp} {v : Value} {K : Value → Mem → Prop} {m : Mem} (h : unK op v K m) : PureA P W0 (Op.unary op v) m K := by
  unfold unK at h
  split at h
  · exact .same (fun w _ => by simp [Op.unary, Op.intArith]) h
  · exact .same (fun w _ => by simp [Op.unary, Op.intBits, bits]) h
  · exact .same (fun w _ => by simp [Op.unary]) h
  · exact h.elim
theorem convI_run {s d : TypeId} {k : IntKind} {n : Int} {K : Value → Mem → Prop} {m : Mem} (h : convI (P.underlying s) (P.underlying d) n K m) : PureA P W0 (convert s d (.int k n)) m K := by
  unfold convI at h
  split at h
  · rename_i k' hd
    obtain ⟨hs, hk⟩ := h
    obtain ⟨sd, hsd⟩ := Option.isSome_iff_exists.1 hs
    exact .same (fun w _ => by simp [convert, run_underlying hsd, run_underlying hd, Conv.intToInt]) hk
  · exact h.elim
theorem convK_run {s d : TypeId} {v : Value} {K : Value → Mem → Prop} {m : Mem} (h : convK P W0 s d v K m) : RunA P W0 (convert s d v) m K := by
  unfold convK at h
  split at h
  · exact (convI_run h).run
  · exact h
theorem builtinK_run {b : Builtin} {ts : Array TypeId} {T : TypeId} {args : List Value} {cs : Array Bool} {K : Value → Mem → Prop} {m : Mem} (h : builtinK P W0 b ts T args K m) :
    OkA P W0 (builtin b ts T cs args.toArray) m K := by
  unfold builtinK at h
  split at h
  · rename_i a n c
    obtain ⟨h0, hk⟩ := h
    refine OkA.value (.same (fun w _ => ?_) hk)
    cases h1 : ts[0]? with
    | none => simp [h1] at h0
    | some t =>
      simp [h1] at h0
      obtain ⟨p, hp⟩ := Option.isSome_iff_exists.1 h0
      obtain ⟨e, s⟩ := p
      obtain ⟨hu, _⟩ := slOf_run hp
      simp [Builtin.len_, h1, run_underlying hu, goInt]
  · rename_i s
    obtain ⟨h0, hk⟩ := h
    refine OkA.value (.same (fun w _ => ?_) hk)
    cases h1 : ts[0]? with
    | none => simp [h1] at h0
    | some t => simp [h1] at h0; simp [Builtin.len_, h1, run_underlying h0, goInt]
  · exact OkA.value h
  · exact OkA.value h
  · exact OkA.value h
  · exact OkA.value h
  · exact OkA.value h
  · exact OkA.value h
  · exact OkA.value (.same (fun w _ => by simp [Builtin.max_, Builtin.max2]) h)
  · exact OkA.value (.same (fun w _ => by simp [Builtin.min_, Builtin.min2]) h)
  · exact h.elim
theorem callK_run {c : Call} {T : TypeId} {t : Env} {K : Value → Mem → Prop} {m : Mem} (h : callK P W0 c T t K m) : OkA P W0 (do let d ← resolve (ev t) c T; invoke d.target d.args) m K := by
  unfold callK at h
  split at h
  · rename_i f hf
    unfold fnK at h
    split at h
    · rename_i g x cap hv
      intro w hw
      have : ((do let d ← resolve (ev t) c T; invoke d.target d.args) : Sem Next).run P w = .ok (.enter g (x ++ c.args.map (ev t) ++ cap)) w := by
        simp [resolve, hf, hv, Deferred.ofValue, invoke, callFunc_run h.1]
      rw [this]
      exact ⟨m, hw, h⟩
    · exact h.elim
  · rename_i b hf
    have h' := builtinK_run (cs := c.args.map fun | .const _ => true | _ => false) h
    intro w hw
    have h'' := h' w hw
    have : ((do let d ← resolve (ev t) c T; invoke d.target d.args) : Sem Next).run P w = (builtin b c.argTypes T (c.args.map fun | .const _ => true | _ => false) (c.args.map (ev t))).run P w := by
      simp [resolve, hf, invoke]
      rfl
    rw [this]
    have e : (c.args.toList.map (ev t)).toArray = c.args.map (ev t) := by
      apply Array.ext'; simp
    rw [e] at h''
    exact h''
  · exact h.elim
theorem eqIn_bool (d : Nat) {t : TypeId} {a b : Bool} {w : World} (hu : P.underlying t = some .bool) : (Op.equalIn (d + 1) t (.bool a) (.bool b)).run P w = .ok (a == b) w := by
  simp only [Op.equalIn, Sem.run_bind, run_underlying hu, Result.andThen_ok]; rfl
theorem eqIn_ptr (d : Nat) {t e : TypeId} {a : Option Addr} {w : World} (hu : P.underlying t = some (.pointer e)) : (Op.equalIn (d + 1) t (.pointer a) (.pointer none)).run P w = .ok a.isNone w := by
  cases a <;> (simp only [Op.equalIn, Sem.run_bind, run_underlying hu, Result.andThen_ok]; rfl)
theorem eqIn_sl (d : Nat) {t e : TypeId} {a : Option Addr} {n c n' c' : Nat} {w : World} (hu : P.underlying t = some (.slice e)) : (Op.equalIn (d + 1) t (.slice a n c) (.slice none n' c')).run P w = .ok a.isNone w := by
  cases a <;> (simp only [Op.equalIn, Sem.run_bind, run_underlying hu, Result.andThen_ok]; rfl)
theorem eqK_bool_run {op : BinOp} {t : TypeId} {x y : Operand} {a b : Bool} {K : Value → Mem → Prop} {m : Mem} (ht : isBoolT P t = true) (h : eqK op (a == b) K m) :
    PureA P W0 (do eqGuard op t x y (.bool a) (.bool b); binOp op t (.bool a) (.bool b)) m K := by
  unfold isBoolT at ht
  split at ht
  · rename_i hu
    refine eqK_run (by cases op <;> rfl) (by rintro o (rfl | rfl) <;> rfl) (fun w => ?_) h
    exact eqIn_bool 9999 hu
  · cases ht
theorem eqK_ptr_run {op : BinOp} {t : TypeId} {x y : Operand} {a : Option Addr} {K : Value → Mem → Prop} {m : Mem} (ht : isPtr P t = true) (h : eqK op a.isNone K m) :
    PureA P W0 (do eqGuard op t x y (.pointer a) (.pointer none); binOp op t (.pointer a) (.pointer none)) m K := by
  unfold isPtr at ht
  split at ht
  · rename_i e hu
    refine eqK_run (by cases op <;> rfl) (by rintro o (rfl | rfl) <;> rfl) (fun w => ?_) h
    exact eqIn_ptr 9999 hu
  · cases ht
theorem eqK_sl_run {op : BinOp} {t : TypeId} {x y : Operand} {a : Option Addr} {n c n' c' : Nat} {K : Value → Mem → Prop} {m : Mem} (ht : isSlT P t = true) (h : eqK op a.isNone K m) :
    PureA P W0 (do eqGuard op t x y (.slice a n c) (.slice none n' c'); binOp op t (.slice a n c) (.slice none n' c')) m K := by
  unfold isSlT at ht
  split at ht
  · rename_i e hu
    refine eqK_run (by cases op <;> rfl) (by rintro o (rfl | rfl) <;> rfl) (fun w => ?_) h
    exact eqIn_sl 9999 hu
  · cases ht
theorem vcPure_sound {o : Oper} {t : Env} {K : Value → Mem → Prop} {m : Mem} (h : vcPure P W0 o t K m) : ∃ v, (∀ w, Sub W0 m w → (execOp (ev t) o).run P w = .ok (.value v) w) ∧ K v m := by
  have lift : ∀ {s : Sem Value}, PureA P W0 s m K → ∃ v, (∀ w, Sub W0 m w → ((do pure (.value (← s))) : Sem Next).run P w = .ok (.value v) w) ∧ K v m :=
    fun ⟨x, h1, h2⟩ => ⟨x, fun w hw => by simp [h1 w hw], h2⟩
  unfold vcPure at h
  unfold execOp
  split at h <;> rename_i hop <;> simp only [hop]
  case h_1 => exact ⟨_, fun w hw => rfl, h⟩
  case h_2 => exact ⟨_, fun w hw => rfl, h⟩
  case h_3 c a b =>
    unfold pickK at h
    split at h
    · rename_i c hc
      cases c
      · exact ⟨_, fun w hw => by simp [hc, asBool], h.2 rfl⟩
      · exact ⟨_, fun w hw => by simp [hc, asBool], h.1 rfl⟩
    · exact h.elim
  case h_4 ty a =>
    refine lift ?_
    unfold loadK at h
    split at h
    · rename_i ad hv
      obtain ⟨x, h1, h3⟩ := loadT_run h
      exact ⟨x, fun w hw => by simp [Instr.loadAt, hv, Instr.sureAddr, h1 w hw], h3⟩
    · exact h.elim
  case h_5 x =>
    unfold nilK at h
    split at h
    · rename_i a hv; rw [hv]; exact ⟨_, fun w hw => rfl, h⟩
    · rename_i f a c hv; rw [hv]; exact ⟨_, fun w hw => rfl, h⟩
    · exact h.elim
  case h_6 op ty x y yt =>
    refine lift ?_
    unfold binK at h
    split at h
    · rename_i k a k' b h1 h2; rw [h1, h2]; exact intK_run h.1 h.2 _ _ _
    · rename_i a b h1 h2; rw [h1, h2]; exact strK_run h _ _ _
    · rename_i a b h1 h2; rw [h1, h2]; exact eqK_bool_run h.1 h.2
    · rename_i a h1 h2; rw [h1, h2]; exact eqK_ptr_run h.1 h.2
    · rename_i a _ _ _ _ h1 h2; rw [h1, h2]; exact eqK_sl_run h.1 h.2
    · exact h
  case h_7 => exact lift (unK_run h)
  case h_8 => exact lift (fieldAddr_run h)
  case h_9 => exact lift (field_run h)
  case h_10 => exact lift (indexAddr_run h)
  case h_11 => exact lift (index_run h)
  case h_12 x i =>
    unfold extractK at h
    split at h
    · rename_i vs hv
      obtain ⟨v, hv', hk⟩ := optK_run h
      exact lift (.same (fun w _ => by simp [Instr.extract, hv, hv']) hk)
    · exact h.elim
  case h_13 => exact lift (.same (fun w _ => by simp [Instr.makeFunc]) h)
  case h_14 ty parts =>
    unfold aggK at h
    split at h
    · rename_i cs hc
      refine lift (.same (fun w _ => run_build w ty _ cs ?_) h)
      simpa using hc
    · exact h.elim
  case h_15 => exact lift h
  case h_16 => exact lift h
  case h_17 => exact h.elim
theorem vcOp_sound {o : Oper} {t : Env} {K : Value → Mem → Prop} {m : Mem} (h : vcOp P W0 o t K m) : OkA P W0 (execOp (ev t) o) m K := by
  unfold vcOp at h
  split at h
  case h_1 e hop =>
    unfold execOp; simp only [hop]
    unfold allocK at h
    split at h
    · rename_i z hz
      obtain ⟨v, rfl, hv⟩ := zeroOf_run hz
      exact OkA.value (newK_run h fun w _ => by simp [Instr.alloc, hv, newVar, newRow_run])
    · exact h.elim
  case h_2 e v hop => unfold execOp; simp only [hop]; exact OkA.value (newK_run h fun w _ => by simp [Instr.box, newVar, newRow_run])
  case h_3 ty a v hop => unfold execOp; simp only [hop]; exact OkA.unit (store_run h)
  case h_4 hop => unfold execOp; simp only [hop]; exact OkA.value (convK_run h)
  case h_5 hop => unfold execOp; simp only [hop]; exact OkA.value h
  case h_6 hop => unfold execOp; simp only [hop]; exact OkA.value h
  case h_7 hop => unfold execOp; simp only [hop]; exact OkA.value h
  case h_8 hop => unfold execOp; simp only [hop]; exact OkA.unit h
  case h_9 hop => unfold execOp; simp only [hop]; exact OkA.unit h
  case h_10 hop => unfold execOp; simp only [hop]; exact callK_run h
  case h_11 =>
    obtain ⟨v, h1, h2⟩ := vcPure_sound h
    exact fun w hw => by rw [h1 w hw]; exact ⟨m, hw, h2⟩

/-! ### a region -/
structure Holds (N : Nat) (a : Act) (t : Env) : Prop where
  size : a.tmps.size = N
  get : ∀ i, a.tmps.getD i undef = t i
  defers : a.defers = []
theorem Holds.eval {N : Nat} {a : Act} {t : Env} (h : Holds N a t) : a.eval = ev t := by
  funext x
  cases x with
  | tmp i => exact h.get i
  | const v => rfl
  | global g => rfl
  | func f => rfl
theorem Holds.put {N : Nat} {a : Act} {t : Env} (h : Holds N a t) (d : Option Nat) (hd : ∀ k, d = some k → k < N) (v : Value) : Holds N (a.put d v) (put d v t) := by
  cases d with
  | none => exact h
  | some k =>
    have hk := hd k rfl
    refine ⟨by simp [Act.put, h.size], fun i => ?_, by simp [Act.put, h.defers]⟩
    have hg := h.get i
    simp only [Act.put, R.put, upd_app]
    by_cases e : i = k
    · subst e
      simp [Array.getD, h.size, hk]
    · rw [if_neg e, ← hg]
      simp only [Array.getD_eq_getD_getElem?]
      rw [Array.getElem?_setIfInBounds_ne (Ne.symm e)]
/-- the Bool in a slot, if there is one -/
def boolIn : Value → Option Bool | .bool b => some b | _ => none
theorem boolIn_bool (b : Bool) : boolIn (.bool b) = some b := nd rfl
theorem boolIn_undef : boolIn undef = none := nd rfl
def yieldT (ops : Array Oper) (t : Env) (j : Nat) : Option Bool := ((ops[j]?).bind (·.dst)).bind fun d => boolIn (t d)
theorem yieldT_eq {N : Nat} {a : Act} {t : Env} (h : Holds N a t) (ops : Array Oper) (j : Nat) : yielded ops a.tmps j = yieldT ops t j := by
  unfold yielded yieldT
  cases hd : (ops[j]?).bind (·.dst) with
  | none => simp
  | some d =>
    have hg := h.get d
    simp only [Option.bind_some]
    cases ht : a.tmps[d]? with
    | none => simp only [Array.getD_eq_getD_getElem?, ht, Option.getD_none] at hg; rw [← hg]; rfl
    | some v => simp only [Array.getD_eq_getD_getElem?, ht, Option.getD_some] at hg; rw [← hg]; cases v <;> rfl
/-- what a guard lets: both ways where the Bool is open -/
def guardK (o : Option Bool) (want : Bool) (yes no : Prop) : Prop := match o with | some b => (b = want → yes) ∧ (b ≠ want → no) | none => no
theorem guardK_none (want : Bool) (yes no : Prop) : guardK none want yes no = no := nd rfl
theorem guardK_same (b : Bool) (yes no : Prop) : guardK (some b) b yes no = yes := by simp [guardK]
theorem guardK_tf (yes no : Prop) : guardK (some true) false yes no = no := by simp [guardK]
theorem guardK_ft (yes no : Prop) : guardK (some false) true yes no = no := by simp [guardK]
def vcOps (P : Program) (W0 : World) (ops : Array Oper) (Q : Env → Mem → Prop) : List Oper → Env → Mem → Prop
  | [], t, m => Q t m
  | o :: rest, t, m =>
    match o.guard with
    | none => vcOp P W0 o t (fun v m' => vcOps P W0 ops Q rest (put o.dst v t) m') m
    | some (j, want) => guardK (yieldT ops t j) want (vcOp P W0 o t (fun v m' => vcOps P W0 ops Q rest (put o.dst v t) m') m) (vcOps P W0 ops Q rest (put o.dst undef t) m)
def nxt (P : Program) (W0 : World) (ops : Array Oper) (Q : Env → Mem → Prop) (rest : List Oper) (d : Option Nat) (t : Env) (v : Value) (m : Mem) : Prop := vcOps P W0 ops Q rest (put d v t) m
theorem nxt_some (ops : Array Oper) (Q : Env → Mem → Prop) (rest : List Oper) (d : Nat) (t : Env) (v : Value) (m : Mem) : nxt P W0 ops Q rest (some d) t v m = vcOps P W0 ops Q rest (upd t d v) m := nd rfl
theorem nxt_none (ops : Array Oper) (Q : Env → Mem → Prop) (rest : List Oper) (t : Env) (v : Value) (m : Mem) : nxt P W0 ops Q rest none t v m = vcOps P W0 ops Q rest t m := nd rfl
theorem upon_of_ok {o : Oper} {a : Act} {N : Nat} {t : Env} {K : Value → Mem → Prop} {Q' : Exit → Act → World → Prop} {next : Act → World → Prop} {r : Result Next}
    (h : okUpon P W0 K r) (hn : ∀ v m' w', Sub W0 m' w' → K v m' → next (a.put o.dst v) w') : o.upon P a next Q' r := by
  cases r with
  | halt x w' => exact h.elim
  | ok n w' =>
    cases n <;> simp only [okUpon] at h <;> try exact h.elim
    case value v => obtain ⟨m', h1, h2⟩ := h; exact hn _ _ _ h1 h2
    case skip => obtain ⟨m', h1, h2⟩ := h; exact hn _ _ _ h1 h2
    case enter f args =>
      obtain ⟨m', h1, h2⟩ := h
      show Calls P f args w' _
      exact (h2.2 w' h1).mono fun e w'' ⟨v, m'', he, hs, hk⟩ => by subst he; exact hn _ _ _ hs hk
theorem vcOps_sound {N : Nat} {ops : Array Oper} {Q : Env → Mem → Prop} {Q' : Exit → Act → World → Prop} (hQ : ∀ a t m w, Holds N a t → Sub W0 m w → Q t m → Q' .normal a w) :
    ∀ (l : List Oper), (∀ o ∈ l, ∀ k, o.dst = some k → k < N) → ∀ (t : Env) (m : Mem), vcOps P W0 ops Q l t m → ∀ (a : Act) (w : World), Holds N a t → Sub W0 m w → wpList P ops Q' l a w
  | [], _, t, m, h, a, w, ha, hw => hQ a t m w ha hw h
  | o :: rest, hd, t, m, h, a, w, ha, hw => by
    have ih := vcOps_sound (ops := ops) hQ rest (fun o' ho' => hd o' (List.mem_cons_of_mem _ ho'))
    have hdo := hd o (List.mem_cons_self ..)
    have go : ∀ (hv : vcOp P W0 o t (fun v m' => vcOps P W0 ops Q rest (put o.dst v t) m') m), o.wp P a w (wpList P ops Q' rest) Q' := fun hv => by
      unfold Oper.wp
      rw [ha.eval]
      exact upon_of_ok (N := N) (t := t) (vcOp_sound hv w hw) fun v m' w' hs hk => ih _ _ hk _ _ (ha.put _ hdo v) hs
    unfold wpList
    unfold vcOps at h
    cases hg : o.guard with
    | none =>
      simp only [hg] at h
      rw [if_pos (by simp [Region.wanted, hg])]
      exact .inl (go h)
    | some p =>
      obtain ⟨j, want⟩ := p
      simp only [hg] at h
      unfold guardK at h
      have hy := yieldT_eq ha ops j
      split
      · rename_i hw'
        simp only [Region.wanted, hg, hy, beq_iff_eq] at hw'
        rw [hw'] at h
        exact .inl (go (h.1 rfl))
      · rename_i hw'
        simp only [Region.wanted, hg, hy, beq_iff_eq] at hw'
        refine ih _ _ ?_ _ _ (ha.put _ hdo undef) hw
        cases hyt : yieldT ops t j with
        | none => rw [hyt] at h; exact h
        | some b => rw [hyt] at h hw'; exact h.2 (fun e => hw' (by rw [e]))
end
end Go.Proofs.Ytcddhbhdpleppaa.R
