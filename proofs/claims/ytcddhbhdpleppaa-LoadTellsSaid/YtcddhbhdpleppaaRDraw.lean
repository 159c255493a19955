/- Regions that draw their order: where looking, making and one chain of changes do not disturb each other, one order serves all. No conditions. -/
import Derived.Test.YtcddhbhdpleppaaRLib
namespace Go.Proofs.Ytcddhbhdpleppaa.R
open Go Go.RowKit
set_option linter.unusedVariables false
set_option linter.unusedSimpArgs false
inductive Cls where
  | F | R | G | C | D | T
  deriving DecidableEq
/-- From n0 on, or named in cl by its number and 2000: any effect. -/
def eff (n0 : Nat) (cl : List Nat) (i : Nat) : Bool := decide (n0 ≤ i) || cl.contains (i + 2000)
theorem u_eff (n0 : Nat) (cl : List Nat) (i : Nat) : eff n0 cl i = (decide (n0 ≤ i) || cl.contains (i + 2000)) := nd rfl
/-- D (named in cl by its number, and by its number and 3000): as C, and what it makes is apart from all that was there. F: looks at what stays alone (mp) · R: looks · G: makes a block · C (named in cl): a call that makes something, and changes nothing known · a load whose number and 1000 are named in cl looks at memory of old, and is F · T: all else, and every operation from number n0 on. -/
def cls (n0 : Nat) (cl : List Nat) (i : Nat) (o : Oper) : Cls :=
  if eff n0 cl i = true then .T else
  match o.op with
  | .move _ | .assign _ | .pick .. | .nilCheck _ | .binOp .. | .unOp .. | .fieldAddr .. | .field .. | .indexAddr .. | .index .. | .extract .. | .makeFunc .. | .build .. | .slice .. => .F
  | .load .. => if cl.contains (i + 1000) then .F else .R
  | .lookup .. | .convert .. => .R
  | .call c => (match c.callee with | .value _ => if cl.contains i then (if cl.contains (i + 3000) then .D else .C) else if cl.contains (i + 1000) then .F else .R | _ => .F)
  | .alloc _ | .box .. | .buildSlice .. | .makeSlice .. => .G
  | _ => .T
def swapOk : Cls → Cls → Bool
  | .T, .F | .F, .T => true
  | .T, _ | _, .T => false
  | .G, .R => false
  | .G, .C => false
  | .G, .D => false
  | .C, .F => true
  | .C, _ => false
  | .D, .F => true
  | .D, .G => true
  | .D, _ => false
  | _, _ => true
section
variable {P : Program} {W0 : World} {mp : Mem}
/-- What is called is no package's beginning. -/
def enterOk (P : Program) : Result Next → Prop | .ok (.enter f _) _ => P.inits.idxOf? f = none | _ => True
def Q1 (P : Program) (W0 : World) (o : Oper) (t : Env) (m : Mem) (v : Value) : Prop := ∀ m', Ext m m' → ∀ w, Sub W0 m' w → Oper.quietUpon P (Sub W0 m') w v ((execOp (ev t) o).run P w) ∧ enterOk P ((execOp (ev t) o).run P w)
theorem callable_init {f : Nat} (h : callable P f = true) : P.inits.idxOf? f = none := by
  unfold callable at h
  cases hf : P.funcs[f]? with
  | none => simp [hf] at h
  | some fn => simp only [hf, Bool.and_eq_true, Option.isNone_iff_eq_none] at h; exact h.2
theorem calls_agree {f : FuncId} {args : Array Value} {w : World} {v v' : Value} {C : World → Prop} (h : Calls P f args w fun e w' => e = .returned v ∧ C w') (h' : Calls P f args w fun e w' => e = .returned v' ∧ C w')
    (hi : P.inits.idxOf? f = none) : v = v' := by
  obtain ⟨n, u, w1, e1, r1⟩ := (h.mono (R' := fun | .returned u, _ => u = v | _, _ => False) fun e w' ⟨he, _⟩ => by subst he; rfl).done hi
  obtain ⟨k, u', w2, e2, r2⟩ := (h'.mono (R' := fun | .returned u, _ => u = v' | _, _ => False) fun e w' ⟨he, _⟩ => by subst he; rfl).done hi
  have a := runN_ended e1 k
  have b := runN_ended e2 n
  rw [Nat.add_comm, a] at b
  injection b with ho hw
  injection ho with hv
  rw [← r1, ← r2, hv]
/-- What is known of an operation's value is one value. -/
theorem quiet_agree {C : World → Prop} {w : World} {v v' : Value} {r : Result Next} (h : Oper.quietUpon P C w v r) (h' : Oper.quietUpon P C w v' r) (he : enterOk P r) : v = v' := by
  cases r with
  | halt x w' => exact h.elim
  | ok n w' =>
    cases n <;> simp only [Oper.quietUpon] at h h' <;> try exact h.elim
    case value u => exact h.2.symm.trans h'.2
    case skip => exact h.2.trans h'.2.symm
    case enter f args => exact calls_agree h.2 h'.2 he
theorem Q1.ext {o : Oper} {t : Env} {m m' : Mem} {v : Value} (h : Q1 P W0 o t m v) (e : Ext m m') : Q1 P W0 o t m' v := fun m2 e2 => h m2 (e.trans e2)
def noMem : Mem := fun _ => none
theorem noMem_ext (m : Mem) : Ext noMem m := fun _ _ h => by cases h
theorem Ext_noMem (m : Mem) : Ext noMem m = True := eq_true (noMem_ext m)
theorem Ext_one (b : Nat) (o : Obj) (m : Mem) : Ext (noMem.set b o) m = (m b = some o) := propext ⟨fun h => h b o (Mem.set_same _ _ _), fun h k u hk => by
  by_cases e : k = b
  · subst e; rw [Mem.set_same] at hk; cases hk; exact h
  · rw [Mem.set_ne _ _ _ e] at hk; cases hk⟩
/-- What stays, stays. -/
def stayK (mp : Mem) (K : Value → Mem → Prop) (v : Value) (m : Mem) : Prop := Ext mp m ∧ K v m
theorem stayK_app (mp : Mem) (K : Value → Mem → Prop) (v : Value) (m : Mem) : stayK mp K v m = (Ext mp m ∧ K v m) := nd rfl
def Gr (P : Program) (o : Oper) (t : Env) (val : Nat → Value) (obj : Obj) : Prop := ∀ w, (execOp (ev t) o).run P w = .ok (.value (val w.heap.size)) (w.alloc obj)
def Sat (W0 : World) (m : Mem) : Prop := ∃ w, Sub W0 m w
def SatX (W0 : World) (mp m : Mem) : Prop := Ext mp m ∧ Sat W0 m
/-- What is made: none of it was there. -/
def Sep (m m' d : Mem) : Prop := ∀ k o, d k = some o → m k = none ∧ m' k = some o
theorem Sep.ext {m m' d : Mem} (h : Sep m m' d) : Ext d m' := fun k o e => (h k o e).2
def HS (P : Program) (W0 : World) (mp : Mem) (c : Cls) (o : Oper) (t : Env) (K : Value → Mem → Prop) (m : Mem) : Prop :=
  match c with
  | .F => ∃ v, Q1 P W0 o t mp v ∧ K v m
  | .R => ∃ v, Q1 P W0 o t m v ∧ K v m
  | .G => ∃ val obj, Gr P o t val obj ∧ ∀ b, Fresh W0 m b → K (val b) (m.set b obj)
  | .C => ∃ S : Value → Mem → Prop, (∀ v m1 m2, Ext m1 m2 → S v m1 → S v m2) ∧ (∀ m', Ext m m' → OkA P W0 (execOp (ev t) o) m' (fun v m'' => Ext m' m'' ∧ S v m'')) ∧ ∀ v m'', Sat W0 m'' → Ext m m'' → S v m'' → K v m''
  | .D => ∃ S : Value → Mem → Prop, (∀ v m1 m2, Ext m1 m2 → S v m1 → S v m2) ∧ (∀ m', Ext m m' → OkA P W0 (execOp (ev t) o) m' (fun v m'' => Ext m' m'' ∧ ∃ d, Sep m' m'' d ∧ S v d)) ∧ ∀ v m'', Sat W0 m'' → Ext m m'' → S v m'' → K v m''
  | .T => OkA P W0 (execOp (ev t) o) m (stayK mp K)
theorem okUpon_mono {K K' : Value → Mem → Prop} (hk : ∀ v m, K v m → K' v m) {r : Result Next} (h : okUpon P W0 K r) : okUpon P W0 K' r := by
  cases r with
  | halt x w => exact h
  | ok n w =>
    cases n <;> simp only [okUpon] at h ⊢ <;> try exact h
    case value v => obtain ⟨m', h1, h2⟩ := h; exact ⟨m', h1, hk _ _ h2⟩
    case skip => obtain ⟨m', h1, h2⟩ := h; exact ⟨m', h1, hk _ _ h2⟩
    case enter f args => obtain ⟨m', h1, h2⟩ := h; exact ⟨m', h1, h2.mono hk⟩
theorem Sat.fresh {m : Mem} (h : Sat W0 m) : ∃ b, Fresh W0 m b := let ⟨w, hw⟩ := h; ⟨_, hw.fresh⟩
theorem Sat.set {m : Mem} (h : Sat W0 m) {b : Nat} (hb : Fresh W0 m b) (o : Obj) : Sat W0 (m.set b o) := by
  obtain ⟨w, hw⟩ := h
  refine ⟨{ w with heap := (w.heap ++ Array.replicate (b + 1) default).setIfInBounds b o }, ?_, fun k u hk => ?_⟩
  · refine hw.old.trans ⟨rfl, rfl, rfl, by simp, fun k hk => ?_⟩
    have h1 : k < w.heap.size := by have := hw.old.size; omega
    rw [Array.getElem?_setIfInBounds_ne (by have := hb.le; omega), Array.getElem?_append_left h1]
  · by_cases e : k = b
    · subst e
      rw [Mem.set_same] at hk
      cases hk
      exact ⟨hb.le, by rw [Array.getElem?_setIfInBounds_self_of_lt (by simp; omega)]⟩
    · rw [Mem.set_ne _ _ _ e] at hk
      obtain ⟨g1, g2⟩ := hw.own k u hk
      refine ⟨g1, ?_⟩
      rw [Array.getElem?_setIfInBounds_ne (Ne.symm e), Array.getElem?_append_left (Array.getElem?_eq_some_iff.1 g2).1]
      exact g2
theorem okUpon_mono' {K K' : Value → Mem → Prop} (hk : ∀ v m, Sat W0 m → K v m → K' v m) {r : Result Next} (h : okUpon P W0 K r) : okUpon P W0 K' r := by
  cases r with
  | halt x w => exact h
  | ok n w =>
    cases n <;> simp only [okUpon] at h ⊢ <;> try exact h
    case value v => obtain ⟨m', h1, h2⟩ := h; exact ⟨m', h1, hk _ _ ⟨w, h1⟩ h2⟩
    case skip => obtain ⟨m', h1, h2⟩ := h; exact ⟨m', h1, hk _ _ ⟨w, h1⟩ h2⟩
    case enter f args =>
      obtain ⟨m', h1, h2⟩ := h
      exact ⟨m', h1, h2.1, fun w hw => (h2.2 w hw).mono fun e w' ⟨v, m'', g1, g2, g3⟩ => ⟨v, m'', g1, g2, hk _ _ ⟨w', g2⟩ g3⟩⟩
theorem SatX.set {m : Mem} (h : SatX W0 mp m) {b : Nat} (hb : Fresh W0 m b) (o : Obj) : SatX W0 mp (m.set b o) := ⟨h.1.trans (Ext.fresh hb o), h.2.set hb o⟩
theorem SatX.ext {m m' : Mem} (h : SatX W0 mp m) (e : Ext m m') (hs : Sat W0 m') : SatX W0 mp m' := ⟨h.1.trans e, hs⟩
theorem HS.mono' {c : Cls} {o : Oper} {t : Env} {K K' : Value → Mem → Prop} {m : Mem} (hs : SatX W0 mp m) (hk : ∀ v m, SatX W0 mp m → K v m → K' v m) (h : HS P W0 mp c o t K m) : HS P W0 mp c o t K' m := by
  cases c with
  | F => obtain ⟨v, h1, h2⟩ := h; exact ⟨v, h1, hk _ _ hs h2⟩
  | R => obtain ⟨v, h1, h2⟩ := h; exact ⟨v, h1, hk _ _ hs h2⟩
  | G => obtain ⟨v, o, h1, h2⟩ := h; exact ⟨v, o, h1, fun b hb => hk _ _ (hs.set hb o) (h2 b hb)⟩
  | C => obtain ⟨S, h1, h2, h3⟩ := h; exact ⟨S, h1, h2, fun v m'' hs' e hS => hk _ _ (hs.ext e hs') (h3 v m'' hs' e hS)⟩
  | D => obtain ⟨S, h1, h2, h3⟩ := h; exact ⟨S, h1, h2, fun v m'' hs' e hS => hk _ _ (hs.ext e hs') (h3 v m'' hs' e hS)⟩
  | T => exact fun w hw => okUpon_mono' (fun v m hs' hx => ⟨hx.1, hk _ _ ⟨hx.1, hs'⟩ hx.2⟩) (h w hw)
theorem Gr.same {o : Oper} {t : Env} {val val' : Nat → Value} {obj obj' : Obj} (h : Gr P o t val obj) (h' : Gr P o t val' obj') (b : Nat) : val b = val' b ∧ obj = obj' := by
  have h1 := h { (default : World) with heap := Array.replicate b default }
  have h2 := h' { (default : World) with heap := Array.replicate b default }
  rw [h1] at h2
  simp only [Result.ok.injEq, Next.value.injEq, Array.size_replicate] at h2
  refine ⟨h2.1, ?_⟩
  have h3 := congrArg (fun w : World => w.heap[b]?) h2.2
  simpa [World.alloc, Array.getElem_push] using h3
theorem HS.mono {c : Cls} {o : Oper} {t : Env} {K K' : Value → Mem → Prop} {m : Mem} (hk : ∀ v m, K v m → K' v m) (h : HS P W0 mp c o t K m) : HS P W0 mp c o t K' m := by
  cases c with
  | F => obtain ⟨v, h1, h2⟩ := h; exact ⟨v, h1, hk _ _ h2⟩
  | R => obtain ⟨v, h1, h2⟩ := h; exact ⟨v, h1, hk _ _ h2⟩
  | G => obtain ⟨v, o, h1, h2⟩ := h; exact ⟨v, o, h1, fun b hb => hk _ _ (h2 b hb)⟩
  | C => obtain ⟨S, h1, h2, h3⟩ := h; exact ⟨S, h1, h2, fun v m'' hs' e hS => hk _ _ (h3 v m'' hs' e hS)⟩
  | D => obtain ⟨S, h1, h2, h3⟩ := h; exact ⟨S, h1, h2, fun v m'' hs' e hS => hk _ _ (h3 v m'' hs' e hS)⟩
  | T => exact fun w hw => okUpon_mono (fun v m hx => ⟨hx.1, hk _ _ hx.2⟩) (h w hw)
theorem HS.ok {c : Cls} {o : Oper} {t : Env} {K : Value → Mem → Prop} {m : Mem} (h : HS P W0 mp c o t K m) {a : Act} {next : Act → World → Prop} {Q' : Exit → Act → World → Prop} {w : World} (hw : Sub W0 m w) (hx : Ext mp m)
    (hn : ∀ v m' w', Sub W0 m' w' → Ext mp m' → K v m' → next (a.put o.dst v) w') : o.upon P a next Q' ((execOp (ev t) o).run P w) := by
  have quiet : ∀ v, Oper.quietUpon P (Sub W0 m) w v ((execOp (ev t) o).run P w) → K v m → o.upon P a next Q' ((execOp (ev t) o).run P w) := fun v h1 h2 => by
    generalize (execOp (ev t) o).run P w = r at *
    cases r with
    | halt x w' => exact h1.elim
    | ok n w' =>
      cases n <;> simp only [Oper.quietUpon] at h1 <;> try exact h1.elim
      case value u => obtain ⟨rfl, rfl⟩ := h1; exact hn _ _ _ hw hx h2
      case skip => obtain ⟨rfl, rfl⟩ := h1; exact hn _ _ _ hw hx h2
      case enter f args =>
        obtain ⟨rfl, hc⟩ := h1
        exact hc.mono fun e w'' ⟨he, hs⟩ => by subst he; exact hn _ _ _ hs hx h2
  cases c with
  | F => obtain ⟨v, h1, h2⟩ := h; exact quiet v (h1 m hx w hw).1 h2
  | R => obtain ⟨v, h1, h2⟩ := h; exact quiet v (h1 m (Ext.refl m) w hw).1 h2
  | G => obtain ⟨val, obj, h1, h2⟩ := h; rw [h1 w]; exact hn _ _ _ (hw.alloc obj) (hx.trans (Ext.fresh hw.fresh obj)) (h2 _ hw.fresh)
  | C => obtain ⟨S, h1, h2, h3⟩ := h; exact upon_of_ok (N := 0) (t := t) (h2 m (Ext.refl m) w hw) fun v m' w' hs ⟨he, hS⟩ => hn v m' w' hs (hx.trans he) (h3 v m' ⟨w', hs⟩ he hS)
  | D => obtain ⟨S, h1, h2, h3⟩ := h; exact upon_of_ok (N := 0) (t := t) (h2 m (Ext.refl m) w hw) fun v m' w' hs ⟨he, d, hd, hS⟩ => hn v m' w' hs (hx.trans he) (h3 v m' ⟨w', hs⟩ he (h1 v d m' hd.ext hS))
  | T => exact upon_of_ok (N := 0) (t := t) (h w hw) fun v m' w' hs ⟨he, hk⟩ => hn v m' w' hs he hk
/-! ### operands -/
theorem ev_put {d : Option Nat} {v : Value} {t : Env} {x : Operand} (h : ∀ k, d = some k → x ≠ .tmp k) : ev (put d v t) x = ev t x := by
  cases d with
  | none => rfl
  | some k =>
    cases x with
    | tmp i =>
      have : i ≠ k := fun e => h k rfl (by rw [e])
      simp [ev, put, upd_app, this]
    | _ => rfl
theorem exec_put {ops : Array Oper} {o : Oper} (hs : ∀ cs b, o.op ≠ .select cs b) {d : Option Nat} {v : Value} {t : Env} (h : ∀ k, d = some k → k ∉ o.looksAt ops) : execOp (ev (put d v t)) o = execOp (ev t) o :=
  execOp_congr o hs fun x hx => ev_put fun k hk e => h k hk (by
    subst e
    exact List.mem_append_left _ (List.mem_filterMap.2 ⟨.tmp k, by simpa using hx, rfl⟩))
def wantedT (ops : Array Oper) (o : Oper) (t : Env) : Bool := match o.guard with | none => true | some (j, want) => yieldT ops t j == some want
theorem wantedT_put {ops : Array Oper} {o : Oper} {d : Option Nat} {v : Value} {t : Env} (h : ∀ k, d = some k → k ∉ o.looksAt ops) : wantedT ops o (put d v t) = wantedT ops o t := by
  cases d with
  | none => rfl
  | some k =>
    unfold wantedT
    cases hg : o.guard with
    | none => rfl
    | some gw =>
      obtain ⟨g, want⟩ := gw
      have hy : yieldT ops (put (some k) v t) g = yieldT ops t g := by
        unfold yieldT
        cases ht : (ops[g]?).bind (·.dst) with
        | none => rfl
        | some x =>
          have hne : x ≠ k := fun e => h k rfl (by subst e; simp [Oper.looksAt, hg, ht])
          simp [put, upd_app, hne]
      simp only [hy]
theorem put_comm {x y : Option Nat} {v u : Value} {t : Env} (h : ∀ d, x = some d → y ≠ some d) : put y u (put x v t) = put x v (put y u t) := by
  cases x with
  | none => rfl
  | some d =>
    cases y with
    | none => rfl
    | some e =>
      have hne : e ≠ d := fun he => h d rfl (by rw [he])
      funext i
      simp only [put, upd_app]
      by_cases h1 : i = e <;> by_cases h2 : i = d <;> simp_all
theorem set_comm {m : Mem} {b c : Nat} {o p : Obj} (h : b ≠ c) : (m.set b o).set c p = (m.set c p).set b o := by
  funext i
  simp only [Mem.set]
  by_cases h1 : i = c <;> by_cases h2 : i = b <;> simp_all
/-- Memory but one block. -/
def dropM (b : Nat) (m : Mem) : Mem := fun k => if k = b then none else m k
theorem dropM_ext (b : Nat) (m : Mem) : Ext (dropM b m) m := fun k o h => by
  unfold dropM at h
  split at h
  · cases h
  · exact h
theorem dropM_mono (b : Nat) {m m' : Mem} (e : Ext m m') : Ext (dropM b m) (dropM b m') := fun k o h => by
  unfold dropM at h ⊢
  split at h
  · cases h
  · rename_i hk; rw [if_neg hk]; exact e k o h
def step (P : Program) (W0 : World) (mp : Mem) (ops : Array Oper) (cs : Nat → Oper → Cls) (i : Nat) (K : Env → Mem → Prop) (t : Env) (m : Mem) : Prop :=
  match ops[i]? with
  | none => K t m
  | some o => if wantedT ops o t then HS P W0 mp (cs i o) o t (fun v m' => K (put o.dst v t) m') m else K (put o.dst undef t) m
section
variable {ops : Array Oper} {cs : Nat → Oper → Cls}
theorem step_mono {i : Nat} {K K' : Env → Mem → Prop} (hk : ∀ t m, SatX W0 mp m → K t m → K' t m) {t : Env} {m : Mem} (hs : SatX W0 mp m) (h : step P W0 mp ops cs i K t m) : step P W0 mp ops cs i K' t m := by
  unfold step at *
  split
  · rename_i ho; simp only [ho] at h; exact hk _ _ hs h
  · rename_i o ho
    simp only [ho] at h
    split
    · rename_i hw; simp only [hw, if_true] at h; exact h.mono' hs fun v m hm h => hk _ _ hm h
    · rename_i hw; simp only [hw] at h; exact hk _ _ hs h
theorem okUpon_exists {K : Value → Mem → Prop} {r : Result Next} (h : okUpon P W0 K r) : ∃ v m, Sat W0 m ∧ K v m := by
  cases r with
  | halt x w => exact h.elim
  | ok n w =>
    cases n <;> simp only [okUpon] at h <;> try exact h.elim
    case value v => obtain ⟨m', h1, h2⟩ := h; exact ⟨v, m', ⟨w, h1⟩, h2⟩
    case skip => obtain ⟨m', h1, h2⟩ := h; exact ⟨_, m', ⟨w, h1⟩, h2⟩
    case enter f args =>
      obtain ⟨m', h1, h2⟩ := h
      obtain ⟨e, w', fr, ⟨v, m'', _, g2, g3⟩, _⟩ := h2.2 w h1 []
      exact ⟨v, m'', ⟨w', g2⟩, g3⟩
theorem HS_exec {c : Cls} {o : Oper} {t t' : Env} {K : Value → Mem → Prop} {m : Mem} (he : execOp (ev t') o = execOp (ev t) o) (h : HS P W0 mp c o t K m) : HS P W0 mp c o t' K m := by
  unfold HS Q1 Gr at *
  rw [he]; exact h
theorem step_swap {i j : Nat} {oi oj : Oper} (hi : ops[i]? = some oi) (hj : ops[j]? = some oj) (hap : oi.apart ops oj = true) (hsi : ∀ cs b, oi.op ≠ .select cs b) (hsj : ∀ cs b, oj.op ≠ .select cs b)
    (hok : swapOk (cs i oi) (cs j oj) = true) {K : Env → Mem → Prop} {t : Env} {m : Mem} (hs : SatX W0 mp m) (h : step P W0 mp ops cs i (step P W0 mp ops cs j K) t m) : step P W0 mp ops cs j (step P W0 mp ops cs i K) t m := by
  obtain ⟨hX, hs⟩ := hs
  obtain ⟨h1, h2, h3⟩ := Oper.apart_spec hap
  have wj : ∀ v, wantedT ops oj (put oi.dst v t) = wantedT ops oj t := fun v => wantedT_put h1
  have wi : ∀ v, wantedT ops oi (put oj.dst v t) = wantedT ops oi t := fun v => wantedT_put h3
  have ej : ∀ v, execOp (ev (put oi.dst v t)) oj = execOp (ev t) oj := fun v => exec_put hsj h1
  have ei : ∀ v, execOp (ev (put oj.dst v t)) oi = execOp (ev t) oi := fun v => exec_put hsi h3
  have pc : ∀ v u, put oj.dst u (put oi.dst v t) = put oi.dst v (put oj.dst u t) := fun v u => put_comm h2
  unfold step at h ⊢
  simp only [hi, hj, wj, wi] at h ⊢
  by_cases hwi : wantedT ops oi t = true <;> by_cases hwj : wantedT ops oj t = true <;> simp only [hwi, hwj, if_true, Bool.false_eq_true, if_false] at h ⊢
  · have h' : HS P W0 mp (cs i oi) oi t (fun v m' => HS P W0 mp (cs j oj) oj t (fun u m'' => K (put oi.dst v (put oj.dst u t)) m'') m') m :=
      h.mono fun v m' hv => (HS_exec (ej v).symm hv).mono fun u m'' hu => by rw [← pc]; exact hu
    have goal : HS P W0 mp (cs j oj) oj t (fun u m' => HS P W0 mp (cs i oi) oi t (fun v m'' => K (put oi.dst v (put oj.dst u t)) m'') m') m := by
      generalize cs i oi = ci at *
      generalize cs j oj = cj at *
      clear h
      cases ci <;> cases cj <;> simp only [swapOk, Bool.false_eq_true] at hok <;> simp only [HS] at h' ⊢
      · obtain ⟨v, a1, u, a2, a3⟩ := h'; exact ⟨u, a2, v, a1, a3⟩
      · obtain ⟨v, a1, u, a2, a3⟩ := h'; exact ⟨u, a2, v, a1, a3⟩
      · obtain ⟨v, a1, val, obj, a2, a3⟩ := h'; exact ⟨val, obj, a2, fun b hb => ⟨v, a1, a3 b hb⟩⟩
      · obtain ⟨v, a1, S, s1, s2, s3⟩ := h'; exact ⟨S, s1, s2, fun u m'' hs' e hS => ⟨v, a1, s3 u m'' hs' e hS⟩⟩
      · obtain ⟨v, a1, S, s1, s2, s3⟩ := h'; exact ⟨S, s1, s2, fun u m'' hs' e hS => ⟨v, a1, s3 u m'' hs' e hS⟩⟩
      · obtain ⟨v, a1, h2⟩ := h'; exact fun w hw => okUpon_mono (fun u m'' hu => ⟨hu.1, v, a1, hu.2⟩) (h2 w hw)
      · obtain ⟨v, a1, u, a2, a3⟩ := h'; exact ⟨u, a2, v, a1, a3⟩
      · obtain ⟨v, a1, u, a2, a3⟩ := h'; exact ⟨u, a2, v, a1, a3⟩
      · obtain ⟨v, a1, val, obj, a2, a3⟩ := h'; exact ⟨val, obj, a2, fun b hb => ⟨v, a1.ext (Ext.fresh hb obj), a3 b hb⟩⟩
      · obtain ⟨v, a1, S, s1, s2, s3⟩ := h'; exact ⟨S, s1, s2, fun u m'' hs' e hS => ⟨v, a1.ext e, s3 u m'' hs' e hS⟩⟩
      · obtain ⟨v, a1, S, s1, s2, s3⟩ := h'; exact ⟨S, s1, s2, fun u m'' hs' e hS => ⟨v, a1.ext e, s3 u m'' hs' e hS⟩⟩
      · obtain ⟨val, obj, a1, a2⟩ := h'
        obtain ⟨b0, hb0⟩ := hs.fresh
        obtain ⟨u0, c1, _⟩ := a2 b0 hb0
        refine ⟨u0, c1, val, obj, a1, fun b hb => ?_⟩
        obtain ⟨u, c2, c3⟩ := a2 b hb
        obtain ⟨w, hw⟩ := hs
        have e1 := quiet_agree (c1 m hX w hw).1 (c2 m hX w hw).1 (c1 m hX w hw).2
        subst e1
        exact c3
      · obtain ⟨val, obj, a1, a2⟩ := h'
        obtain ⟨b0, hb0⟩ := hs.fresh
        obtain ⟨val0, obj0, c1, _⟩ := a2 b0 hb0
        refine ⟨val0, obj0, c1, fun b' hb' => ⟨val, obj, a1, fun b hb => ?_⟩⟩
        have hne : b ≠ b' := fun e => by subst e; have := hb.no; rw [Mem.set_same] at this; cases this
        have hbm : Fresh W0 m b := ⟨hb.le, by have := hb.no; rwa [Mem.set_ne _ _ _ hne] at this⟩
        obtain ⟨val1, obj1, c2, c3⟩ := a2 b hbm
        obtain ⟨e1, e2⟩ := c1.same c2 b'
        subst e2
        rw [set_comm (Ne.symm hne), e1]
        exact c3 b' ⟨hb'.le, by rw [Mem.set_ne _ _ _ (Ne.symm hne)]; exact hb'.no⟩
      · obtain ⟨S, s1, s2, s3⟩ := h'
        obtain ⟨w, hw⟩ := hs
        obtain ⟨v1, m1, g1, g2, g3⟩ := okUpon_exists (s2 m (Ext.refl m) w hw)
        obtain ⟨u0, c1, _⟩ := s3 v1 m1 g1 g2 g3
        refine ⟨u0, c1, S, s1, s2, fun v m'' hs' e hS => ?_⟩
        obtain ⟨u, c2, c3⟩ := s3 v m'' hs' e hS
        have e1 := quiet_agree (c1 m hX w hw).1 (c2 m hX w hw).1 (c1 m hX w hw).2
        subst e1
        exact c3
      · obtain ⟨S, s1, s2, s3⟩ := h'
        obtain ⟨w, hw⟩ := hs
        obtain ⟨v1, m1, g1, g2, d1, hd1, g3'⟩ := okUpon_exists (s2 m (Ext.refl m) w hw)
        obtain ⟨u0, c1, _⟩ := s3 v1 m1 g1 g2 (s1 v1 d1 m1 hd1.ext g3')
        refine ⟨u0, c1, S, s1, s2, fun v m'' hs' e hS => ?_⟩
        obtain ⟨u, c2, c3⟩ := s3 v m'' hs' e hS
        have e1 := quiet_agree (c1 m hX w hw).1 (c2 m hX w hw).1 (c1 m hX w hw).2
        subst e1
        exact c3
      · obtain ⟨S, s1, s2, s3⟩ := h'
        obtain ⟨w, hw⟩ := hs
        obtain ⟨v1, m1, g1, g2, d1, hd1, g3'⟩ := okUpon_exists (s2 m (Ext.refl m) w hw)
        obtain ⟨val, obj, c1, _⟩ := s3 v1 m1 g1 g2 (s1 v1 d1 m1 hd1.ext g3')
        refine ⟨val, obj, c1, fun b hb => ⟨fun v M => S v (dropM b M), fun v m1 m2 e hS => s1 v _ _ (dropM_mono b e) hS, fun m' e w' hw' => ?_, fun v m'' hs' e hS => ?_⟩⟩
        · have e0 : Ext m m' := (Ext.fresh hb obj).trans e
          refine okUpon_mono (fun v m'' ⟨x1, d, hd, hS⟩ => ⟨x1, d, hd, ?_⟩) (s2 m' e0 w' hw')
          have hdb : dropM b d = d := by
            funext k
            unfold dropM
            split
            · rename_i hk
              subst hk
              cases hdk : d k with
              | none => rfl
              | some o =>
                have := (hd k o hdk).1
                rw [e k obj (Mem.set_same _ _ _)] at this
                cases this
            · rfl
          show S v (dropM b d)
          rw [hdb]; exact hS
        · have hb'' : m'' b = some obj := e b obj (Mem.set_same _ _ _)
          have x0 : Ext m (dropM b m'') := fun k o hk => by
            have hne : k ≠ b := fun h => by subst h; rw [hb.no] at hk; cases hk
            unfold dropM
            rw [if_neg hne]
            exact e k o (by rw [Mem.set_ne _ _ _ hne]; exact hk)
          have sat0 : Sat W0 (dropM b m'') := by
            obtain ⟨w2, hw2⟩ := hs'
            exact ⟨w2, hw2.mono (dropM_ext b m'')⟩
          obtain ⟨val1, obj1, c2, c3⟩ := s3 v (dropM b m'') sat0 x0 hS
          obtain ⟨e1, e2⟩ := c1.same c2 b
          subst e2
          have hset : (dropM b m'').set b obj = m'' := by
            funext k
            simp only [Mem.set, dropM]
            split
            · rename_i h; subst h; exact hb''.symm
            · rfl
          have := c3 b ⟨hb.le, by unfold dropM; rw [if_pos rfl]⟩
          rw [hset] at this
          rw [e1]; exact this
      · obtain ⟨w, hw⟩ := hs
        obtain ⟨v1, m1, g1, g2, u0, c1, _⟩ := okUpon_exists (h' w hw)
        refine ⟨u0, c1, fun w' hw' => okUpon_mono (fun v m'' hu => ?_) (h' w' hw')⟩
        obtain ⟨g3, u, c2, c3⟩ := hu
        have e1 := quiet_agree (c1 m hX w hw).1 (c2 m hX w hw).1 (c1 m hX w hw).2
        subst e1
        exact ⟨g3, c3⟩
    exact goal.mono fun u m' hu => (HS_exec (ei u) hu)
  · exact (HS_exec (ei undef) h).mono fun v m' hv => by rw [← pc]; exact hv
  · exact (HS_exec (ej undef).symm h).mono fun v m' hv => by rw [← pc]; exact hv
  · rw [← pc]; exact h
/-! ### every order -/
def vAny (P : Program) (W0 : World) (mp : Mem) (ops : Array Oper) (cs : Nat → Oper → Cls) (R : Env → Mem → Prop) : Nat → Array Bool → Env → Mem → Prop
  | 0, listed, t, m => Region.ready .any ops listed = [] ∧ R t m
  | fuel + 1, listed, t, m => (Region.ready .any ops listed = [] → R t m) ∧ ∀ i ∈ Region.ready .any ops listed, step P W0 mp ops cs i (vAny P W0 mp ops cs R fuel (listed.setIfInBounds i true)) t m
theorem wanted_eq {N : Nat} {a : Act} {t : Env} (ha : Holds N a t) (o : Oper) : Region.wanted o (yielded ops a.tmps) = wantedT ops o t := by
  unfold Region.wanted wantedT
  cases hg : o.guard with
  | none => rfl
  | some p => obtain ⟨j, want⟩ := p; simp only [yieldT_eq ha]
theorem vAny_sound {N : Nat} {R : Env → Mem → Prop} {Q' : Exit → Act → World → Prop} (hd : ∀ o ∈ ops, ∀ k, o.dst = some k → k < N) (hQ : ∀ a t m w, Holds N a t → Sub W0 m w → R t m → Q' .normal a w) :
    ∀ (fuel : Nat) (listed : Array Bool) (t : Env) (m : Mem), vAny P W0 mp ops cs R fuel listed t m → ∀ (a : Act) (w : World), Holds N a t → Sub W0 m w → Ext mp m → wpAny P .any ops Q' fuel listed a w
  | 0, listed, t, m, h, a, w, ha, hw, hx => ⟨h.1, hQ _ _ _ _ ha hw h.2⟩
  | fuel + 1, listed, t, m, h, a, w, ha, hw, hx => by
    refine ⟨fun e => hQ _ _ _ _ ha hw (h.1 e), fun i hi => ?_⟩
    have h2 := h.2 i hi
    have ih := fun t m (h : vAny P W0 mp ops cs R fuel (listed.setIfInBounds i true) t m) a w ha hw hx => vAny_sound hd hQ fuel (listed.setIfInBounds i true) t m h a w ha hw hx
    unfold step at h2
    unfold wpOp
    split
    · rename_i ho; simp only [ho] at h2; exact ih _ _ h2 _ _ ha hw hx
    · rename_i o ho
      have hdo := hd o (Array.mem_of_getElem? ho)
      simp only [ho] at h2
      rw [wanted_eq ha o]
      split
      · rename_i hwd
        simp only [hwd, if_true] at h2
        refine .inl ?_
        unfold Oper.wp
        rw [ha.eval]
        exact h2.ok hw hx fun v m' w' hs hx' hk => ih _ _ hk _ _ (ha.put _ hdo v) hs hx'
      · rename_i hwd
        simp only [hwd] at h2
        exact ih _ _ h2 _ _ (ha.put _ hdo undef) hw hx
/-- op j waits for op i, at whatever remove -/
def reach (ops : Array Oper) : Nat → Nat → Nat → Bool
  | 0, _, _ => false
  | n + 1, j, i => match ops[j]? with
    | some o => (o.after.any fun e => Region.binds .any e && e.on == i) || o.after.any fun e => Region.binds .any e && reach ops n e.on i
    | none => false
def closedL (ops : Array Oper) (listed : Array Bool) : Prop := ∀ j o, ops[j]? = some o → listed.getD j false = true → ∀ e ∈ o.after, Region.binds .any e = true → listed.getD e.on false = true
theorem reach_listed {listed : Array Bool} (hc : closedL ops listed) {i : Nat} : ∀ (n j : Nat) (o : Oper), ops[j]? = some o → (∀ e ∈ o.after, Region.binds .any e = true → listed.getD e.on false = true) → reach ops n j i = true → listed.getD i false = true
  | 0, _, _, _, _, h => by cases h
  | n + 1, j, o, ho, hall, h => by
    unfold reach at h
    simp only [ho] at h
    rw [Bool.or_eq_true] at h
    rcases h with h | h
    · obtain ⟨e, he, h1⟩ := Array.any_eq_true'.1 h
      simp only [Bool.and_eq_true, beq_iff_eq] at h1
      rw [← h1.2]; exact hall e he h1.1
    · obtain ⟨e, he, h1⟩ := Array.any_eq_true'.1 h
      simp only [Bool.and_eq_true] at h1
      have h2 := hall e he h1.1
      have h3 := h1.2
      cases ho' : ops[e.on]? with
      | none => cases n with
        | zero => cases h3
        | succ n => unfold reach at h3; simp [ho'] at h3
      | some o' => exact reach_listed hc n e.on o' ho' (fun e' he' hb' => hc _ _ ho' h2 e' he' hb') h3
theorem ready_not_reach {listed : Array Bool} (hc : closedL ops listed) {i j n : Nat} (hi : listed.getD i true = false) (hj : j ∈ Region.ready .any ops listed) : reach ops n j i = false := by
  obtain ⟨_, o, ho, hall⟩ := mem_ready.1 hj
  cases hr : reach ops n j i with
  | false => rfl
  | true =>
    have h1 := reach_listed hc n j o ho hall hr
    rcases Nat.lt_or_ge i listed.size with h' | h'
    · simp [h'] at hi h1; rw [hi] at h1; cases h1
    · simp [Array.getElem?_eq_none h'] at h1
theorem closedL.set {listed : Array Bool} (hc : closedL ops listed) {i : Nat} (hi : i ∈ Region.ready .any ops listed) : closedL ops (listed.setIfInBounds i true) := fun j o ho hl e he hb => by
  obtain ⟨_, oi, hoi, hall⟩ := mem_ready.1 hi
  by_cases hij : i = j
  · subst hij
    have : o = oi := Option.some.inj (ho.symm.trans hoi)
    subst this
    exact getD_set_true (hall e he hb)
  · rw [getD_set_ne false hij] at hl
    exact getD_set_true (hc j o ho hl e he hb)
def pairOk (ops : Array Oper) (cs : Nat → Oper → Cls) (i j : Nat) : Bool :=
  match ops[i]?, ops[j]? with
  | some oi, some oj => (oi.apart ops oj && swapOk (cs i oi) (cs j oj)) || reach ops 4 j i
  | _, _ => true
theorem vAny_first {R : Env → Mem → Prop} (hsel : ∀ (j : Nat) (o : Oper) cs b, ops[j]? = some o → o.op ≠ .select cs b) {i : Nat} :
    ∀ (fuel : Nat) (listed : Array Bool) (t : Env) (m : Mem), SatX W0 mp m → closedL ops listed → (∀ j, j ≠ i → listed.getD j true = false → pairOk ops cs i j = true) →
      i ∈ Region.ready .any ops listed → step P W0 mp ops cs i (vAny P W0 mp ops cs R fuel (listed.setIfInBounds i true)) t m → vAny P W0 mp ops cs R (fuel + 1) listed t m := by
  intro fuel
  induction fuel with
  | zero =>
    intro listed t m hs hc hp hr H
    refine ⟨fun h => (by rw [h] at hr; cases hr), fun j hj => ?_⟩
    by_cases hji : j = i
    · subst hji; exact H
    · exfalso
      have h1 := ready_mono hj hji
      obtain ⟨_, oi, hoi, _⟩ := mem_ready.1 hr
      have : Region.ready .any ops (listed.setIfInBounds i true) = [] := by
        cases hx : Region.ready .any ops (listed.setIfInBounds i true) with
        | nil => rfl
        | cons x l =>
          exfalso
          have key : ∀ {K : Env → Mem → Prop}, (∀ t m, K t m → False) → step P W0 mp ops cs i K t m → False := fun {K} hk h => by
            unfold step at h
            simp only [hoi] at h
            split at h
            · obtain ⟨_, w, hw⟩ := hs
              cases hcl' : cs i oi <;> rw [hcl'] at h <;> simp only [HS] at h
              · obtain ⟨v, _, h3⟩ := h; exact hk _ _ h3
              · obtain ⟨v, _, h3⟩ := h; exact hk _ _ h3
              · obtain ⟨val, obj, _, h3⟩ := h; exact hk _ _ (h3 _ hw.fresh)
              · obtain ⟨S, _, s2, s3⟩ := h; obtain ⟨v1, m1, g1, g2, g3⟩ := okUpon_exists (s2 m (Ext.refl m) w hw); exact hk _ _ (s3 v1 m1 g1 g2 g3)
              · obtain ⟨S, s1, s2, s3⟩ := h; obtain ⟨v1, m1, g1, g2, d1, hd1, g3⟩ := okUpon_exists (s2 m (Ext.refl m) w hw); exact hk _ _ (s3 v1 m1 g1 g2 (s1 v1 d1 m1 hd1.ext g3))
              · obtain ⟨v1, m1, g1, g2⟩ := okUpon_exists (h w hw); exact hk _ _ g2.2
            · exact hk _ _ h
          exact key (fun t m h => by rw [h.1] at hx; cases hx) H
      rw [this] at h1; cases h1
  | succ fuel ih =>
    intro listed t m hs hc hp hr H
    refine ⟨fun h => (by rw [h] at hr; cases hr), fun j hj => ?_⟩
    by_cases hji : j = i
    · subst hji; exact H
    · obtain ⟨hiun, oi, hoi, _⟩ := mem_ready.1 hr
      obtain ⟨hjun, oj, hoj, _⟩ := mem_ready.1 hj
      have pj := hp j hji hjun
      unfold pairOk at pj
      simp only [hoi, hoj, Bool.or_eq_true, Bool.and_eq_true] at pj
      have pj' : oi.apart ops oj = true ∧ swapOk (cs i oi) (cs j oj) = true := by
        rcases pj with pj | pj
        · exact pj
        · rw [ready_not_reach hc hiun hj] at pj; cases pj
      have H1 : step P W0 mp ops cs i (step P W0 mp ops cs j (vAny P W0 mp ops cs R fuel ((listed.setIfInBounds i true).setIfInBounds j true))) t m :=
        step_mono (fun t m _ h => h.2 j (ready_mono hj hji)) hs H
      have H2 := step_swap hoi hoj pj'.1 (fun cs b => hsel i oi cs b hoi) (fun cs b => hsel j oj cs b hoj) pj'.2 hs H1
      refine step_mono (fun t' m' hs' h3 => ih (listed.setIfInBounds j true) t' m' hs' (hc.set hj) ?_ (ready_mono hr (Ne.symm hji)) ?_) hs H2
      · intro k hki hkun
        refine hp k hki ?_
        by_cases hjk : j = k
        · subst hjk; exact hjun
        · rw [getD_set_ne true hjk] at hkun; exact hkun
      · rw [Array.setIfInBounds_comm _ _ hji]; exact h3
/-- The order in which the proof goes through a region. -/
def orderOk (ops : Array Oper) (cs : Nat → Oper → Cls) : List Nat → Array Bool → Bool
  | [], listed => (Region.ready .any ops listed).isEmpty
  | i :: rest, listed => (Region.ready .any ops listed).contains i && (List.range ops.size).all (fun j => j == i || listed.getD j true || pairOk ops cs i j) && orderOk ops cs rest (listed.setIfInBounds i true)
def vcPi (P : Program) (W0 : World) (mp : Mem) (ops : Array Oper) (cs : Nat → Oper → Cls) (R : Env → Mem → Prop) : List Nat → Env → Mem → Prop
  | [], t, m => R t m
  | i :: rest, t, m => step P W0 mp ops cs i (vcPi P W0 mp ops cs R rest) t m
theorem vcPi_any {R : Env → Mem → Prop} (hsel : ∀ (j : Nat) (o : Oper) cs b, ops[j]? = some o → o.op ≠ .select cs b) :
    ∀ (π : List Nat) (listed : Array Bool) (t : Env) (m : Mem), listed.size = ops.size → SatX W0 mp m → closedL ops listed → orderOk ops cs π listed = true → vcPi P W0 mp ops cs R π t m → vAny P W0 mp ops cs R π.length listed t m
  | [], listed, t, m, _, hs, hc, ho, h => ⟨by simpa [orderOk] using ho, h⟩
  | i :: rest, listed, t, m, hz, hs, hc, ho, h => by
    simp only [orderOk, Bool.and_eq_true, List.all_eq_true, List.mem_range, Bool.or_eq_true, beq_iff_eq] at ho
    obtain ⟨⟨h1, h2⟩, h3⟩ := ho
    have hr : i ∈ Region.ready .any ops listed := by simpa using h1
    refine vAny_first hsel rest.length listed t m hs hc (fun j hji hjun => ?_) hr (step_mono (fun t m hs h => vcPi_any hsel rest _ t m (by simp [hz]) hs (hc.set hr) h3 h) hs h)
    have hlt : j < ops.size := by
      rcases Nat.lt_or_ge j ops.size with h' | h'
      · exact h'
      · rw [Array.getD_eq_getD_getElem?, Array.getElem?_eq_none (by omega)] at hjun; cases hjun
    rcases h2 j hlt with (h4 | h4) | h4
    · exact absurd h4 hji
    · rw [hjun] at h4; cases h4
    · exact h4
theorem draw_vcPi {N id : Nat} {Q : Exit → Env → Mem → Prop} {t : Env} {m : Mem} (π : List Nat) (n0 : Nat) (cl : List Nat) (hm : P.follows .mixedOrders = true)
    (hB : (Region.noSelect ops && decide (π.length = ops.size) && orderOk ops (cls n0 cl) π (Array.replicate ops.size false)) = true) (hd : dstOk N (.region id ops true) = true) (hx : Ext mp m) (h : vcPi P W0 mp ops (cls n0 cl) (norm Q) π t m) :
    CodeA P W0 N (.region id ops true) Q t m := fun a w ha hw => by
  simp only [Bool.and_eq_true, decide_eq_true_eq] at hB
  obtain ⟨⟨h1, h2⟩, h3⟩ := hB
  refine wp_region_any hm ?_
  have hv := vcPi_any (P := P) (cs := cls n0 cl) (R := norm Q) (Region.noSelect_spec h1) π (Array.replicate ops.size false) t m (by simp) ⟨hx, w, hw⟩ (fun j o ho hl => by
    rcases Nat.lt_or_ge j ops.size with h' | h'
    · simp [h'] at hl
    · simp [h'] at hl) h3 h
  rw [h2] at hv
  refine vAny_sound (N := N) (R := norm Q) (fun o ho k hk => ?_) (fun a t m w ha hw hq => ⟨t, m, ha, hw, hq⟩) _ _ t m hv a _ ha hw.drew hx
  have := Array.all_eq_true_iff_forall_mem.1 hd o ho
  rw [hk] at this
  simpa using this
/-! ### the same, to be reckoned with -/
def atM (K : Value → Mem → Prop) (m : Mem) : Value → Mem → Prop := fun v _ => K v m
theorem atM_app (K : Value → Mem → Prop) (m m' : Mem) (v : Value) : atM K m v m' = K v m := nd rfl
def hFn (P : Program) (W0 : World) (f : Value) (args : Array Value) (K : Value → Mem → Prop) (m : Mem) : Prop :=
  match f with | .func (.func f) x c => ∃ v, (∀ m', Ext m m' → CallA P W0 f (x ++ args ++ c) m' (fun v' m'' => v' = v ∧ Ext m' m'')) ∧ K v m | _ => False
def hFnC (P : Program) (W0 : World) (f : Value) (args : Array Value) (K : Value → Mem → Prop) (m : Mem) : Prop :=
  match f with | .func (.func f) x c => ∃ S : Value → Mem → Prop, (∀ v m1 m2, Ext m1 m2 → S v m1 → S v m2) ∧ (∀ m', Ext m m' → CallA P W0 f (x ++ args ++ c) m' (fun v m'' => Ext m' m'' ∧ S v m'')) ∧ ∀ v m'', Sat W0 m'' → Ext m m'' → S v m'' → K v m'' | _ => False
def hFnD (P : Program) (W0 : World) (f : Value) (args : Array Value) (K : Value → Mem → Prop) (m : Mem) : Prop :=
  match f with | .func (.func f) x c => ∃ S : Value → Mem → Prop, (∀ v m1 m2, Ext m1 m2 → S v m1 → S v m2) ∧ (∀ m', Ext m m' → CallA P W0 f (x ++ args ++ c) m' (fun v m'' => Ext m' m'' ∧ ∃ d, Sep m' m'' d ∧ S v d)) ∧ ∀ v m'', Sat W0 m'' → Ext m m'' → S v m'' → K v m'' | _ => False
def hLen (P : Program) (b : Builtin) (ts : Array TypeId) (args : List Value) (K : Value → Mem → Prop) (m : Mem) : Prop :=
  match b, args with
  | .len, [.slice a n c'] => (match ts[0]? with | some t => (slOf P t).isSome | none => false) = true ∧ K (.int .i64 n) m
  | .len, [.string s] => (match ts[0]? with | some t => P.underlying t = some .string | none => False) ∧ K (.int .i64 s.size) m
  | .max, [.int k x, .int _ y] => K (.int k (if y > x then y else x)) m
  | .min, [.int k x, .int _ y] => K (.int k (if y < x then y else x)) m
  | _, _ => False
def makeG (P : Program) (W0 : World) (ty : TypeId) (vl vc : Value) (K : Value → Mem → Prop) (m : Mem) : Prop :=
  ∃ (e size bytes : Nat) (z : Array Value) (n : Nat) (k k' : IntKind), slOf P ty = some (e, size) ∧ zeroOf P e = some z ∧ bytesA P e = some bytes ∧ vl = .int k n ∧ vc = .int k' n ∧ n ≤ maxLen ∧ bytes * n ≤ 281474976710656 ∧
    ∀ b, Fresh W0 m b → K (.slice (some ⟨b, 0, none⟩) n n) (m.set b (.cells (madeCells z (n * size)) e))
def buildG (P : Program) (W0 : World) (ty : TypeId) (n : Nat) (parts : List (Nat × Value)) (K : Value → Mem → Prop) (m : Mem) : Prop :=
  ∃ (e size : Nat) (z cells : Array Value), slOf P ty = some (e, size) ∧ zeroOf P e = some z ∧ 0 < n * size ∧ n * size ≤ 16777216 ∧ Instr.fill (fun i => some (i * size, size)) (madeCells z (n * size)) parts = some cells ∧
    ∀ b, Fresh W0 m b → K (.slice (some ⟨b, 0, none⟩) n n) (m.set b (.cells cells e))
def hConv (P : Program) (W0 : World) (s d : TypeId) (v : Value) (K : Value → Mem → Prop) (m : Mem) : Prop :=
  match v with
  | .int _ n => convI (P.underlying s) (P.underlying d) n K m
  | v => PureA P W0 (convert s d v) m K
def hHead (P : Program) (W0 : World) (mp : Mem) (o : Oper) (t : Env) (K : Value → Mem → Prop) (m : Mem) : Prop :=
  match o.op with
  | .load .. | .lookup .. => vcPure P W0 o t K m
  | .call c => (match c.callee with
    | .value f => hFn P W0 (ev t f) (c.args.map (ev t)) K m
    | .builtin b => hLen P b c.argTypes (c.args.toList.map (ev t)) K m
    | .invoke _ _ => False)
  | .convert s d x => hConv P W0 s d (ev t x) K m
  | .alloc e => allocK W0 (zeroOf P e) e K m
  | .box e v => newK W0 (ev t v).cells e K m
  | .makeSlice ty l c => makeG P W0 ty (ev t l) (ev t c) K m
  | .buildSlice ty n parts => buildG P W0 ty n (parts.toList.map fun (i, x) => (i, ev t x)) K m
  | .move _ | .assign _ | .pick .. | .nilCheck _ | .binOp .. | .unOp .. | .fieldAddr .. | .field .. | .indexAddr .. | .index .. | .extract .. | .makeFunc .. | .build .. | .slice .. => vcPure P W0 o t (atM K m) noMem
  | _ => False
def hCallC (P : Program) (W0 : World) (o : Oper) (t : Env) (K : Value → Mem → Prop) (m : Mem) : Prop :=
  match o.op with
  | .call c => (match c.callee with | .value f => hFnC P W0 (ev t f) (c.args.map (ev t)) K m | _ => False)
  | _ => False
def hCallD (P : Program) (W0 : World) (o : Oper) (t : Env) (K : Value → Mem → Prop) (m : Mem) : Prop :=
  match o.op with
  | .call c => (match c.callee with | .value f => hFnD P W0 (ev t f) (c.args.map (ev t)) K m | _ => False)
  | _ => False
def Has (mp m : Mem) : Prop := Ext mp m
def hFnF (P : Program) (W0 : World) (mp : Mem) (f : Value) (args : Array Value) (K : Value → Mem → Prop) (m : Mem) : Prop :=
  match f with | .func (.func f) x c => ∃ v, (∀ m', Has mp m' → CallA P W0 f (x ++ args ++ c) m' (fun v' m'' => v' = v ∧ Ext m' m'')) ∧ K v m | _ => False
def hFree (P : Program) (W0 : World) (mp : Mem) (o : Oper) (t : Env) (K : Value → Mem → Prop) (m : Mem) : Prop :=
  match o.op with
  | .load ty a => loadK P W0 ty (ev t a) (atM K m) mp
  | .call c => (match c.callee with | .value f => hFnF P W0 mp (ev t f) (c.args.map (ev t)) K m | _ => False)
  | _ => False
def hStep (P : Program) (W0 : World) (mp : Mem) (n0 : Nat) (cl : List Nat) (i : Nat) (o : Oper) (t : Env) (K : Value → Mem → Prop) (m : Mem) : Prop := if eff n0 cl i = true then vcOp P W0 o t (stayK mp K) m else if cl.contains i then (if cl.contains (i + 3000) then hCallD P W0 o t K m else hCallC P W0 o t K m) else if cl.contains (i + 1000) then hFree P W0 mp o t K m else hHead P W0 mp o t K m
def hPi (P : Program) (W0 : World) (mp : Mem) (ops : Array Oper) (n0 : Nat) (cl : List Nat) (R : Env → Mem → Prop) : List Nat → Env → Mem → Prop
  | [], t, m => R t m
  | i :: rest, t, m =>
    match ops[i]? with
    | none => hPi P W0 mp ops n0 cl R rest t m
    | some o => match o.guard with
      | none => hStep P W0 mp n0 cl i o t (fun v m' => hPi P W0 mp ops n0 cl R rest (put o.dst v t) m') m
      | some (j, want) => guardK (yieldT ops t j) want (hStep P W0 mp n0 cl i o t (fun v m' => hPi P W0 mp ops n0 cl R rest (put o.dst v t) m') m) (hPi P W0 mp ops n0 cl R rest (put o.dst undef t) m)
theorem run_buildSlice {ty e size n : Nat} {z cells : Array Value} {parts : Array (Nat × Value)} (hsl : slOf P ty = some (e, size)) (hz : zeroOf P e = some z) (h0 : 0 < n * size) (h24 : n * size ≤ 16777216)
    (hf : Instr.fill (fun i => some (i * size, size)) (madeCells z (n * size)) parts.toList = some cells) (w : World) :
    (Instr.buildSlice ty n parts).run P w = .ok (.slice (some ⟨w.heap.size, 0, none⟩) n n) (w.alloc (.cells cells e)) := by
  obtain ⟨hu, hsz⟩ := slOf_run hsl
  obtain ⟨v, rfl, hv⟩ := zeroOf_run hz
  have h1 : ¬ 16777216 < n * size := by omega
  have h2 : ¬ n * size = 0 := by omega
  have hf' : Instr.fill (fun i => some (i * size, size)) (Array.map (fun x => v.cells[x % v.cells.size]!) (Array.range (n * size))) parts.toList = some cells := hf
  simp only [Instr.buildSlice, Sem.run_bind, run_underlying hu, Result.andThen_ok, szOf_run hsz]
  simp only [show (2 : Nat) ^ 24 = 16777216 from rfl, gt_iff_lt, if_neg h1, if_neg h2, Sem.run_bind, hv, Result.andThen_ok, Sem.run_pure, hf', newRow_run, pure_bind]
theorem hLen_run {b : Builtin} {ts : Array TypeId} {T : TypeId} {cs : Array Bool} {args : Array Value} {K : Value → Mem → Prop} {m : Mem} (h : hLen P b ts args.toList K m) :
    ∃ v, (∀ w, (builtin b ts T cs args).run P w = .ok (.value v) w) ∧ K v m := by
  have ea : ∀ l, args.toList = l → args = l.toArray := fun l hl => by apply Array.ext'; simp [hl]
  unfold hLen at h
  split at h
  · rename_i a n c' hl
    obtain ⟨h0, hk⟩ := h
    refine ⟨_, fun w => ?_, hk⟩
    rw [ea _ hl]
    cases h1 : ts[0]? with
    | none => simp [h1] at h0
    | some t =>
      simp [h1] at h0
      obtain ⟨p, hp⟩ := Option.isSome_iff_exists.1 h0
      obtain ⟨e, s⟩ := p
      obtain ⟨hu, _⟩ := slOf_run hp
      simp [builtin, Builtin.len_, h1, run_underlying hu, goInt]
  · rename_i s hl
    obtain ⟨h0, hk⟩ := h
    refine ⟨_, fun w => ?_, hk⟩
    rw [ea _ hl]
    cases h1 : ts[0]? with
    | none => simp [h1] at h0
    | some t => simp [h1] at h0; simp [builtin, Builtin.len_, h1, run_underlying h0, goInt]
  · rename_i k x k' y hl
    refine ⟨_, fun w => ?_, h⟩
    rw [ea _ hl]
    simp [builtin, Builtin.max_, Builtin.max2]
  · rename_i k x k' y hl
    refine ⟨_, fun w => ?_, h⟩
    rw [ea _ hl]
    simp [builtin, Builtin.min_, Builtin.min2]
  · exact h.elim
theorem hHead_HS {i n0 : Nat} {cl : List Nat} (hc : cl.contains i = false) (hc1 : cl.contains (i + 1000) = false) (hn : ¬ eff n0 cl i = true) {o : Oper} {t : Env} {K : Value → Mem → Prop} {m : Mem} (h : hHead P W0 mp o t K m) : HS P W0 mp (cls n0 cl i o) o t K m := by
  have pureF : vcPure P W0 o t (atM K m) noMem → HS P W0 mp .F o t K m := fun h => by
    obtain ⟨v, h1, h2⟩ := vcPure_sound h
    exact ⟨v, fun m' e w hw => by rw [h1 w (hw.mono (noMem_ext m'))]; exact ⟨⟨rfl, rfl⟩, trivial⟩, h2⟩
  have pureR : vcPure P W0 o t K m → HS P W0 mp .R o t K m := fun h => by
    obtain ⟨v, h1, h2⟩ := vcPure_sound h
    exact ⟨v, fun m' e w hw => by rw [h1 w (hw.mono e)]; exact ⟨⟨rfl, rfl⟩, trivial⟩, h2⟩
  have hcl : cls n0 cl i o = (if eff n0 cl i = true then Cls.T else _) := rfl
  rw [hcl, if_neg hn]
  clear hcl
  unfold hHead at h
  obtain ⟨d', op, T, pos, af, gd⟩ := o
  cases op <;> simp only [hc1, Bool.false_eq_true, if_false] at h ⊢ <;> first
    | exact pureF h
    | exact pureR h
    | exact h.elim
    | skip
  case alloc e =>
    unfold allocK at h
    split at h
    · rename_i z hz
      obtain ⟨v, rfl, hv⟩ := zeroOf_run hz
      exact ⟨_, _, fun w => by simp [execOp, Instr.alloc, hv, newVar, newRow_run], h⟩
    · exact h.elim
  case box e v => exact ⟨_, _, fun w => by simp [execOp, Instr.box, newVar, newRow_run], h⟩
  case buildSlice ty n parts =>
    obtain ⟨e, size, z, cells, h1, h2, h3, h4, h5, h6⟩ := h
    refine ⟨_, _, fun w => ?_, h6⟩
    have hr := run_buildSlice (P := P) (parts := parts.map fun (i, x) => (i, ev t x)) h1 h2 h3 h4 (by simpa using h5) w
    simp only [execOp, Sem.run_bind, hr, Result.andThen_ok, Sem.run_pure]
  case convert s d x =>
    have hp : PureA P W0 (convert s d (ev t x)) m K := by
      unfold hConv at h
      split at h
      · rename_i k n hx; rw [hx]; exact convI_run h
      · exact h
    obtain ⟨v, h1, h2⟩ := hp
    exact ⟨v, fun m' e w hw => by
      have : (execOp (ev t) ⟨d', .convert s d x, T, pos, af, gd⟩).run P w = .ok (.value v) w := by simp [execOp, h1 w (hw.mono e)]
      rw [this]; exact ⟨⟨rfl, rfl⟩, trivial⟩, h2⟩
  case makeSlice ty l c =>
    obtain ⟨e, size, bytes, z, n, k, k', h1, h2, h3, h4, h5, h6, h7, h8⟩ := h
    obtain ⟨hu, hsz⟩ := slOf_run h1
    obtain ⟨iv, zv, hi, hiz, his, hib, hzv⟩ := info_of hsz h2 h3
    have hb' : (bytes : Int) * (n : Int) ≤ 281474976710656 := by rw [← Int.natCast_mul]; omega
    have hn' : (n : Int) ≤ 9223372036854775807 := by unfold maxLen at h6; omega
    refine ⟨_, _, fun w => ?_, h8⟩
    have hr := run_make (P := P) w ty e iv zv hu hi hiz k k' n n (by omega) (by omega) (by rw [hib]; exact hb') hn'
    simp only [Int.toNat_natCast, his, hzv] at hr
    simp only [execOp, h4, h5, Sem.run_bind, hr, Result.andThen_ok, Sem.run_pure]
  case call c =>
    split at h <;> rename_i hc' <;> simp only [hc']
    · rename_i f
      rw [hc]
      simp only [Bool.false_eq_true, if_false]
      unfold hFn at h
      split at h
      · rename_i g x cap hv
        obtain ⟨v, h1, h2⟩ := h
        refine ⟨v, fun m' e w hw => ?_, h2⟩
        have hcall := h1 m' e
        have : (execOp (ev t) ⟨d', .call c, T, pos, af, gd⟩).run P w = .ok (.enter g (x ++ c.args.map (ev t) ++ cap)) w := by
          simp [execOp, resolve, hc', hv, Deferred.ofValue, invoke, callFunc_run hcall.1]
        rw [this]
        exact ⟨⟨rfl, (hcall.2 w hw).mono fun e w' ⟨v', m'', he, hs, hv', hx⟩ => ⟨by rw [he, hv'], hs.mono hx⟩⟩, callable_init hcall.1⟩
      · exact h.elim
    · rename_i b
      have h' : hLen P b c.argTypes (c.args.map (ev t)).toList K m := by simpa using h
      obtain ⟨v, h1, h2⟩ := hLen_run (T := T) (cs := c.args.map fun | .const _ => true | _ => false) h'
      refine ⟨v, fun m' _ w _ => ?_, h2⟩
      have e : (execOp (ev t) ⟨d', .call c, T, pos, af, gd⟩) = builtin b c.argTypes T (c.args.map fun | .const _ => true | _ => false) (c.args.map (ev t)) := by
        simp [execOp, resolve, hc', invoke]; rfl
      rw [e, h1 w]; exact ⟨⟨rfl, rfl⟩, trivial⟩
    · exact h.elim
theorem hStep_HS {n0 i : Nat} {cl : List Nat} {o : Oper} {t : Env} {K : Value → Mem → Prop} {m : Mem} (h : hStep P W0 mp n0 cl i o t K m) : HS P W0 mp (cls n0 cl i o) o t K m := by
  unfold hStep at h
  split at h
  · rename_i hn
    have : cls n0 cl i o = .T := by unfold cls; rw [if_pos hn]
    rw [this]; exact vcOp_sound h
  · rename_i hn
    split at h
    · rename_i hc
      split at h
      · rename_i hd3
        unfold hCallD at h
        split at h
        · rename_i c hop
          split at h
          · rename_i f hf
            have e0 : cls n0 cl i o = .D := by unfold cls; rw [if_neg hn]; simp only [hop, hf, hc, hd3, if_true]
            rw [e0]
            unfold hFnD at h
            split at h
            · rename_i g x cap hv
              obtain ⟨S, s1, s2, s3⟩ := h
              refine ⟨S, s1, fun m' e w hw => ?_, s3⟩
              have hcall := s2 m' e
              have : (execOp (ev t) o).run P w = .ok (.enter g (x ++ c.args.map (ev t) ++ cap)) w := by
                simp [execOp, hop, resolve, hf, hv, Deferred.ofValue, invoke, callFunc_run hcall.1]
              rw [this]
              exact ⟨m', hw, hcall⟩
            · exact h.elim
          · exact h.elim
        · exact h.elim
      · rename_i hd3
        have hd3 : cl.contains (i + 3000) = false := by simpa using hd3
        unfold hCallC at h
        split at h
        · rename_i c hop
          split at h
          · rename_i f hf
            have e0 : cls n0 cl i o = .C := by unfold cls; rw [if_neg hn]; simp only [hop, hf, hc, hd3, if_true, Bool.false_eq_true, if_false]
            rw [e0]
            unfold hFnC at h
            split at h
            · rename_i g x cap hv
              obtain ⟨S, s1, s2, s3⟩ := h
              refine ⟨S, s1, fun m' e w hw => ?_, s3⟩
              have hcall := s2 m' e
              have : (execOp (ev t) o).run P w = .ok (.enter g (x ++ c.args.map (ev t) ++ cap)) w := by
                simp [execOp, hop, resolve, hf, hv, Deferred.ofValue, invoke, callFunc_run hcall.1]
              rw [this]
              exact ⟨m', hw, hcall⟩
            · exact h.elim
          · exact h.elim
        · exact h.elim
    · rename_i hc
      split at h
      · rename_i hc1
        unfold hFree at h
        split at h
        · rename_i ty a hop
          have e0 : cls n0 cl i o = .F := by unfold cls; rw [if_neg hn]; simp only [hop, hc1, if_true]
          rw [e0]
          have hp : vcPure P W0 o t (atM K m) mp := by unfold vcPure; simp only [hop]; exact h
          obtain ⟨v, h1, h2⟩ := vcPure_sound hp
          exact ⟨v, fun m' e w hw => by rw [h1 w (hw.mono e)]; exact ⟨⟨rfl, rfl⟩, trivial⟩, h2⟩
        · rename_i c hop
          split at h
          · rename_i f hf
            have e0 : cls n0 cl i o = .F := by
              unfold cls; rw [if_neg hn]
              have hc' : cl.contains i = false := by simpa using hc
              simp only [hop, hf, hc', hc1, if_true, Bool.false_eq_true, if_false]
            rw [e0]
            unfold hFnF at h
            split at h
            · rename_i g x cap hv
              obtain ⟨v, h1, h2⟩ := h
              refine ⟨v, fun m' e w hw => ?_, h2⟩
              have hcall := h1 m' e
              have : (execOp (ev t) o).run P w = .ok (.enter g (x ++ c.args.map (ev t) ++ cap)) w := by
                simp [execOp, hop, resolve, hf, hv, Deferred.ofValue, invoke, callFunc_run hcall.1]
              rw [this]
              exact ⟨⟨rfl, (hcall.2 w hw).mono fun e w' ⟨v', m'', he, hs, hv', hx⟩ => ⟨by rw [he, hv'], hs.mono hx⟩⟩, callable_init hcall.1⟩
            · exact h.elim
          · exact h.elim
        · exact h.elim
      · rename_i hc1; exact hHead_HS (by simpa using hc) (by simpa using hc1) hn h
theorem hPi_vc {n0 : Nat} {cl : List Nat} {R : Env → Mem → Prop} : ∀ (π : List Nat) (t : Env) (m : Mem), hPi P W0 mp ops n0 cl R π t m → vcPi P W0 mp ops (cls n0 cl) R π t m
  | [], t, m, h => h
  | i :: rest, t, m, h => by
    unfold hPi at h
    show step P W0 mp ops (cls n0 cl) i (vcPi P W0 mp ops (cls n0 cl) R rest) t m
    unfold step
    cases ho : ops[i]? with
    | none => simp only [ho] at h; exact hPi_vc rest t m h
    | some o =>
      simp only [ho] at h
      show (if wantedT ops o t then HS P W0 mp (cls n0 cl i o) o t (fun v m' => vcPi P W0 mp ops (cls n0 cl) R rest (put o.dst v t) m') m else vcPi P W0 mp ops (cls n0 cl) R rest (put o.dst undef t) m)
      have up : ∀ {v : Value} {m' : Mem}, hPi P W0 mp ops n0 cl R rest (put o.dst v t) m' → vcPi P W0 mp ops (cls n0 cl) R rest (put o.dst v t) m' := fun h => hPi_vc rest _ _ h
      cases hg : o.guard with
      | none =>
        simp only [hg] at h
        have hw : wantedT ops o t = true := by unfold wantedT; rw [hg]
        rw [if_pos hw]
        exact (hStep_HS h).mono fun v m' h => up h
      | some p =>
        obtain ⟨j, want⟩ := p
        simp only [hg] at h
        have hw : wantedT ops o t = (yieldT ops t j == some want) := by unfold wantedT; rw [hg]
        rw [hw]
        unfold guardK at h
        cases hb : yieldT ops t j with
        | none => rw [hb] at h; rw [if_neg (by simp)]; exact up h
        | some b =>
          rw [hb] at h
          by_cases e : b = want
          · subst e; simp only [beq_self_eq_true, if_true]; exact (hStep_HS (h.1 rfl)).mono fun v m' h => up h
          · rw [if_neg (by simp; exact e)]; exact up (h.2 e)
theorem draw_keep {N id : Nat} {Q : Exit → Env → Mem → Prop} {t : Env} {m : Mem} (mp : Mem) (hx : Ext mp m) (π : List Nat) (n0 : Nat) (cl : List Nat) (hm : P.follows .mixedOrders = true)
    (hB : (Region.noSelect ops && decide (π.length = ops.size) && orderOk ops (cls n0 cl) π (Array.replicate ops.size false)) = true) (hd : dstOk N (.region id ops true) = true) (h : hPi P W0 mp ops n0 cl (norm Q) π t m) :
    CodeA P W0 N (.region id ops true) Q t m := draw_vcPi π n0 cl hm hB hd hx (hPi_vc π t m h)
theorem draw_any {N id : Nat} {Q : Exit → Env → Mem → Prop} {t : Env} {m : Mem} (π : List Nat) (n0 : Nat) (cl : List Nat) (hm : P.follows .mixedOrders = true)
    (hB : (Region.noSelect ops && decide (π.length = ops.size) && orderOk ops (cls n0 cl) π (Array.replicate ops.size false)) = true) (hd : dstOk N (.region id ops true) = true) (h : hPi P W0 noMem ops n0 cl (norm Q) π t m) :
    CodeA P W0 N (.region id ops true) Q t m := draw_keep noMem (noMem_ext m) π n0 cl hm hB hd h
def nxtH (P : Program) (W0 : World) (mp : Mem) (ops : Array Oper) (n0 : Nat) (cl : List Nat) (R : Env → Mem → Prop) (rest : List Nat) (d : Option Nat) (t : Env) (v : Value) (m : Mem) : Prop := hPi P W0 mp ops n0 cl R rest (put d v t) m
def hAt (P : Program) (W0 : World) (mp : Mem) (ops : Array Oper) (n0 : Nat) (cl : List Nat) (R : Env → Mem → Prop) (i : Nat) (rest : List Nat) (x : Option Oper) (t : Env) (m : Mem) : Prop :=
  match x with
  | none => hPi P W0 mp ops n0 cl R rest t m
  | some o => match o.guard with
    | none => hStep P W0 mp n0 cl i o t (nxtH P W0 mp ops n0 cl R rest o.dst t) m
    | some (j, want) => guardK (yieldT ops t j) want (hStep P W0 mp n0 cl i o t (nxtH P W0 mp ops n0 cl R rest o.dst t) m) (nxtH P W0 mp ops n0 cl R rest o.dst t undef m)
section
variable {d : Option Nat} {op : Op} {T : TypeId} {pos : String} {af : Array Edge} {g : Option (Nat × Bool)} {t : Env} {K : Value → Mem → Prop} {m : Mem} {n0 i k : Nat} {cl : List Nat} {R : Env → Mem → Prop} {rest : List Nat}
theorem hPi_nil : hPi P W0 mp ops n0 cl R [] t m = R t m := nd rfl
theorem hPi_cons : hPi P W0 mp ops n0 cl R (i :: rest) t m = hAt P W0 mp ops n0 cl R i rest ops[i]? t m := by
  unfold hAt
  rw [hPi]
  rfl
theorem hAt_plain : hAt P W0 mp ops n0 cl R i rest (some ⟨d, op, T, pos, af, none⟩) t m = hStep P W0 mp n0 cl i ⟨d, op, T, pos, af, none⟩ t (nxtH P W0 mp ops n0 cl R rest d t) m := nd rfl
def gH (x : Option Bool) (want : Bool) (P : Program) (W0 : World) (mp : Mem) (ops : Array Oper) (n0 : Nat) (cl : List Nat) (R : Env → Mem → Prop) (i : Nat) (rest : List Nat) (d : Option Nat) (o : Oper) (t : Env) (m : Mem) : Prop :=
  guardK x want (hStep P W0 mp n0 cl i o t (nxtH P W0 mp ops n0 cl R rest d t) m) (nxtH P W0 mp ops n0 cl R rest d t undef m)
theorem gH_none {o : Oper} {want : Bool} : gH none want P W0 mp ops n0 cl R i rest d o t m = nxtH P W0 mp ops n0 cl R rest d t undef m := nd rfl
theorem gH_tt {o : Oper} : gH (some true) true P W0 mp ops n0 cl R i rest d o t m = hStep P W0 mp n0 cl i o t (nxtH P W0 mp ops n0 cl R rest d t) m := by simp [gH, guardK]
theorem gH_ff {o : Oper} : gH (some false) false P W0 mp ops n0 cl R i rest d o t m = hStep P W0 mp n0 cl i o t (nxtH P W0 mp ops n0 cl R rest d t) m := by simp [gH, guardK]
theorem gH_tf {o : Oper} : gH (some true) false P W0 mp ops n0 cl R i rest d o t m = nxtH P W0 mp ops n0 cl R rest d t undef m := by simp [gH, guardK]
theorem gH_ft {o : Oper} : gH (some false) true P W0 mp ops n0 cl R i rest d o t m = nxtH P W0 mp ops n0 cl R rest d t undef m := by simp [gH, guardK]
theorem hAt_guard {j : Nat} {want : Bool} : hAt P W0 mp ops n0 cl R i rest (some ⟨d, op, T, pos, af, some (j, want)⟩) t m =
    gH (yieldT ops t j) want P W0 mp ops n0 cl R i rest d ⟨d, op, T, pos, af, some (j, want)⟩ t m := nd rfl
theorem nxtH_some {v : Value} : nxtH P W0 mp ops n0 cl R rest (some k) t v m = hPi P W0 mp ops n0 cl R rest (upd t k v) m := nd rfl
theorem nxtH_none {v : Value} : nxtH P W0 mp ops n0 cl R rest none t v m = hPi P W0 mp ops n0 cl R rest t m := nd rfl
/-- which kind it is, not looked into ahead of the choice -/
def hIf (x y z u : Bool) (P : Program) (W0 : World) (mp : Mem) (o : Oper) (t : Env) (K : Value → Mem → Prop) (m : Mem) : Prop := if x then vcOp P W0 o t (stayK mp K) m else if y then (if u then hCallD P W0 o t K m else hCallC P W0 o t K m) else if z then hFree P W0 mp o t K m else hHead P W0 mp o t K m
theorem hIf_t {y z u : Bool} {o : Oper} : hIf true y z u P W0 mp o t K m = vcOp P W0 o t (stayK mp K) m := nd rfl
theorem hIf_fd {z : Bool} {o : Oper} : hIf false true z true P W0 mp o t K m = hCallD P W0 o t K m := nd rfl
theorem hIf_ft {z : Bool} {o : Oper} : hIf false true z false P W0 mp o t K m = hCallC P W0 o t K m := nd rfl
theorem hIf_fft {u : Bool} {o : Oper} : hIf false false true u P W0 mp o t K m = hFree P W0 mp o t K m := nd rfl
theorem hIf_ff {u : Bool} {o : Oper} : hIf false false false u P W0 mp o t K m = hHead P W0 mp o t K m := nd rfl
theorem hf_load {ty : TypeId} {a : Operand} : hFree P W0 mp ⟨d, .load ty a, T, pos, af, g⟩ t K m = loadK P W0 ty (ev t a) (atM K m) mp := nd rfl
theorem hf_call {f : Operand} {as : Array Operand} {ts : Array TypeId} : hFree P W0 mp ⟨d, .call ⟨.value f, as, ts⟩, T, pos, af, g⟩ t K m = hFnF P W0 mp (ev t f) (as.map (ev t)) K m := nd rfl
theorem hFnF_func {f : Nat} {x c args : Array Value} : hFnF P W0 mp (.func (.func f) x c) args K m = ∃ v, (∀ m', Has mp m' → CallA P W0 f (x ++ args ++ c) m' (fun v' m'' => v' = v ∧ Ext m' m'')) ∧ K v m := nd rfl
theorem hStep_ite {o : Oper} : hStep P W0 mp n0 cl i o t K m = hIf (eff n0 cl i) (cl.contains i) (cl.contains (i + 1000)) (cl.contains (i + 3000)) P W0 mp o t K m := by
  unfold hStep hIf
  cases h : eff n0 cl i <;> simp only [if_true, Bool.false_eq_true, if_false]
theorem hFn_func {f : Nat} {x c args : Array Value} : hFn P W0 (.func (.func f) x c) args K m = ∃ v, (∀ m', Ext m m' → CallA P W0 f (x ++ args ++ c) m' (fun v' m'' => v' = v ∧ Ext m' m'')) ∧ K v m := nd rfl
theorem hLen_sl {ts : Array TypeId} {a : Option Addr} {n c : Nat} : hLen P .len ts [.slice a n c] K m = ((match ts[0]? with | some t => (slOf P t).isSome | none => false) = true ∧ K (.int .i64 n) m) := nd rfl
theorem hLen_str {ts : Array TypeId} {s : ByteArray} : hLen P .len ts [.string s] K m = ((match ts[0]? with | some t => P.underlying t = some .string | none => False) ∧ K (.int .i64 s.size) m) := nd rfl
theorem hLen_max {ts : Array TypeId} {k k' : IntKind} {x y : Int} : hLen P .max ts [.int k x, .int k' y] K m = K (.int k (if y > x then y else x)) m := nd rfl
theorem hLen_min {ts : Array TypeId} {k k' : IntKind} {x y : Int} : hLen P .min ts [.int k x, .int k' y] K m = K (.int k (if y < x then y else x)) m := nd rfl
theorem hh_move {x : Operand} : hHead P W0 mp ⟨d, .move x, T, pos, af, g⟩ t K m = K (ev t x) m := nd rfl
theorem hh_assign {x : Operand} : hHead P W0 mp ⟨d, .assign x, T, pos, af, g⟩ t K m = K (ev t x) m := nd rfl
theorem hh_pick {c a b : Operand} : hHead P W0 mp ⟨d, .pick c a b, T, pos, af, g⟩ t K m = pickK (ev t c) (ev t a) (ev t b) (atM K m) noMem := nd rfl
theorem hh_nil {x : Operand} : hHead P W0 mp ⟨d, .nilCheck x, T, pos, af, g⟩ t K m = nilK (ev t x) (atM K m) noMem := nd rfl
theorem hh_bin {op : BinOp} {ty yt : TypeId} {x y : Operand} : hHead P W0 mp ⟨d, .binOp op ty x y yt, T, pos, af, g⟩ t K m = binK P W0 op ty x y (ev t x) (ev t y) (atM K m) noMem := nd rfl
theorem hh_un {op : UnOp} {ty : TypeId} {x : Operand} : hHead P W0 mp ⟨d, .unOp op ty x, T, pos, af, g⟩ t K m = unK op (ev t x) (atM K m) noMem := nd rfl
theorem hh_conv {s e : TypeId} {x : Operand} : hHead P W0 mp ⟨d, .convert s e x, T, pos, af, g⟩ t K m = hConv P W0 s e (ev t x) K m := nd rfl
theorem hConv_int {s e : TypeId} {k : IntKind} {n : Int} : hConv P W0 s e (.int k n) K m = convI (P.underlying s) (P.underlying e) n K m := nd rfl
theorem hConv_sl {s e : TypeId} {a : Option Addr} {n c : Nat} : hConv P W0 s e (.slice a n c) K m = PureA P W0 (convert s e (.slice a n c)) m K := nd rfl
theorem hc_call {f : Operand} {as : Array Operand} {ts : Array TypeId} : hCallC P W0 ⟨d, .call ⟨.value f, as, ts⟩, T, pos, af, g⟩ t K m = hFnC P W0 (ev t f) (as.map (ev t)) K m := nd rfl
theorem hFnC_func {f : Nat} {x c args : Array Value} : hFnC P W0 (.func (.func f) x c) args K m = ∃ S : Value → Mem → Prop, (∀ v m1 m2, Ext m1 m2 → S v m1 → S v m2) ∧ (∀ m', Ext m m' → CallA P W0 f (x ++ args ++ c) m' (fun v m'' => Ext m' m'' ∧ S v m'')) ∧ ∀ v m'', Sat W0 m'' → Ext m m'' → S v m'' → K v m'' := nd rfl
theorem hc_callD {f : Operand} {as : Array Operand} {ts : Array TypeId} : hCallD P W0 ⟨d, .call ⟨.value f, as, ts⟩, T, pos, af, g⟩ t K m = hFnD P W0 (ev t f) (as.map (ev t)) K m := nd rfl
theorem hFnD_func {f : Nat} {x c args : Array Value} : hFnD P W0 (.func (.func f) x c) args K m = ∃ S : Value → Mem → Prop, (∀ v m1 m2, Ext m1 m2 → S v m1 → S v m2) ∧ (∀ m', Ext m m' → CallA P W0 f (x ++ args ++ c) m' (fun v m'' => Ext m' m'' ∧ ∃ d, Sep m' m'' d ∧ S v d)) ∧ ∀ v m'', Sat W0 m'' → Ext m m'' → S v m'' → K v m'' := nd rfl
theorem hh_faddr {s : TypeId} {x : Operand} {f : Nat} : hHead P W0 mp ⟨d, .fieldAddr s x f, T, pos, af, g⟩ t K m = fieldAddrK P s f (ev t x) (atM K m) noMem := nd rfl
theorem hh_field {s : TypeId} {x : Operand} {f : Nat} : hHead P W0 mp ⟨d, .field s x f, T, pos, af, g⟩ t K m = fieldK P s f (ev t x) (atM K m) noMem := nd rfl
theorem hh_iaddr {s : TypeId} {x i : Operand} : hHead P W0 mp ⟨d, .indexAddr s x i, T, pos, af, g⟩ t K m = indexAddrK P s (ev t x) (ev t i) (atM K m) noMem := nd rfl
theorem hh_index {s : TypeId} {x i : Operand} : hHead P W0 mp ⟨d, .index s x i, T, pos, af, g⟩ t K m = indexK P s (ev t x) (ev t i) (atM K m) noMem := nd rfl
theorem hh_extract {x : Operand} {i : Nat} : hHead P W0 mp ⟨d, .extract x i, T, pos, af, g⟩ t K m = extractK (ev t x) i (atM K m) noMem := nd rfl
theorem hh_func {fn : Fn} {x c : Array Operand} : hHead P W0 mp ⟨d, .makeFunc fn x c, T, pos, af, g⟩ t K m = K (.func fn (x.map (ev t)) (c.map (ev t))) m := nd rfl
theorem hh_build {ty : TypeId} {ps : Array (Nat × Operand)} : hHead P W0 mp ⟨d, .build ty ps, T, pos, af, g⟩ t K m = aggK (P.built ty (ps.toList.map fun (i, x) => (i, ev t x))) (atM K m) noMem := nd rfl
theorem hh_slice {ty : TypeId} {x : Operand} {lo hi mx : Option Operand} : hHead P W0 mp ⟨d, .slice ty x lo hi mx, T, pos, af, g⟩ t K m = PureA P W0 (Instr.sliceAt ty (ev t x) (lo.map (ev t)) (hi.map (ev t)) (mx.map (ev t))) noMem (atM K m) := nd rfl
theorem hh_load {ty : TypeId} {a : Operand} : hHead P W0 mp ⟨d, .load ty a, T, pos, af, g⟩ t K m = loadK P W0 ty (ev t a) K m := nd rfl
theorem hh_lookup {ty : TypeId} {x i : Operand} {ok : Bool} : hHead P W0 mp ⟨d, .lookup ty x i ok, T, pos, af, g⟩ t K m = PureA P W0 (Instr.lookup ty (ev t x) (ev t i) ok) m K := nd rfl
theorem hh_call {f : Operand} {as : Array Operand} {ts : Array TypeId} : hHead P W0 mp ⟨d, .call ⟨.value f, as, ts⟩, T, pos, af, g⟩ t K m = hFn P W0 (ev t f) (as.map (ev t)) K m := nd rfl
theorem hh_bcall {b : Builtin} {as : Array Operand} {ts : Array TypeId} : hHead P W0 mp ⟨d, .call ⟨.builtin b, as, ts⟩, T, pos, af, g⟩ t K m = hLen P b ts (as.toList.map (ev t)) K m := nd rfl
theorem hh_alloc {e : TypeId} : hHead P W0 mp ⟨d, .alloc e, T, pos, af, g⟩ t K m = allocK W0 (zeroOf P e) e K m := nd rfl
theorem hh_box {e : TypeId} {v : Operand} : hHead P W0 mp ⟨d, .box e v, T, pos, af, g⟩ t K m = newK W0 (ev t v).cells e K m := nd rfl
theorem hh_mslice {ty : TypeId} {l c : Operand} : hHead P W0 mp ⟨d, .makeSlice ty l c, T, pos, af, g⟩ t K m = makeG P W0 ty (ev t l) (ev t c) K m := nd rfl
theorem hh_bslice {ty : TypeId} {n : Nat} {ps : Array (Nat × Operand)} : hHead P W0 mp ⟨d, .buildSlice ty n ps, T, pos, af, g⟩ t K m = buildG P W0 ty n (ps.toList.map fun (i, x) => (i, ev t x)) K m := nd rfl
end
end
end
end Go.Proofs.Ytcddhbhdpleppaa.R
