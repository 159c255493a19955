/- Code, loops and whole functions come to what the logic says of them. No conditions. -/
import Derived.Test.YtcddhbhdpleppaaRSound2
import Derived.Deep.LoopGhost
namespace Go.Proofs.Ytcddhbhdpleppaa.R
open Go Go.RowKit
set_option linter.unusedVariables false
set_option linter.unusedSimpArgs false
section
variable {P : Program} {W0 : World}

/-! ### regions that draw their order and change nothing known -/
theorem quietCall_sound {c : Call} {T : TypeId} {t : Env} {K : Value → Mem → Prop} {m : Mem} {o : Oper} (ho : o.op = .call c) (hT : o.type = T) (h : quietCall P W0 c T t K m) :
    ∃ v, (∀ w, Sub W0 m w → Oper.quietUpon P (Sub W0 m) w v ((execOp (ev t) o).run P w)) ∧ K v m := by
  unfold quietCall at h
  split at h
  · rename_i f hf
    unfold quietFn at h
    split at h
    · rename_i g x cap hv
      obtain ⟨v, hc, hk⟩ := h
      refine ⟨v, fun w hw => ?_, hk⟩
      have : (execOp (ev t) o).run P w = .ok (.enter g (x ++ c.args.map (ev t) ++ cap)) w := by
        simp [execOp, ho, resolve, hf, hv, Deferred.ofValue, invoke, callFunc_run hc.1]
      rw [this]
      exact ⟨rfl, (hc.2 w hw).mono fun e w' ⟨v', m', he, hs, hv', hx⟩ => ⟨by rw [he, hv'], hs.mono hx⟩⟩
    · exact h.elim
  · rename_i b hf
    have key : ∀ v, (∀ w, Sub W0 m w → (builtin b c.argTypes o.type (c.args.map fun | .const _ => true | _ => false) (c.args.map (ev t))).run P w = .ok (.value v) w) → K v m →
        ∃ v, (∀ w, Sub W0 m w → Oper.quietUpon P (Sub W0 m) w v ((execOp (ev t) o).run P w)) ∧ K v m := fun v h1 h2 => by
      refine ⟨v, fun w hw => ?_, h2⟩
      have : (execOp (ev t) o).run P w = (builtin b c.argTypes o.type (c.args.map fun | .const _ => true | _ => false) (c.args.map (ev t))).run P w := by
        simp [execOp, ho, resolve, hf, invoke]
        rfl
      rw [this, h1 w hw]
      exact ⟨rfl, rfl⟩
    have ea : ∀ l, c.args.toList.map (ev t) = l → c.args.map (ev t) = l.toArray := fun l hl => by apply Array.ext'; simp [hl]
    split at h
    · rename_i a n c' hl
      obtain ⟨h0, hk⟩ := h
      refine key _ (fun w _ => ?_) hk
      rw [ea _ hl]
      cases h1 : c.argTypes[0]? with
      | none => simp [h1] at h0
      | some t =>
        simp [h1] at h0
        obtain ⟨p, hp⟩ := Option.isSome_iff_exists.1 h0
        obtain ⟨e, s⟩ := p
        obtain ⟨hu, _⟩ := slOf_run hp
        simp [builtin, Builtin.len_, h1, run_underlying hu, goInt]
    · rename_i s hl
      obtain ⟨h0, hk⟩ := h
      refine key _ (fun w _ => ?_) hk
      rw [ea _ hl]
      cases h1 : c.argTypes[0]? with
      | none => simp [h1] at h0
      | some t => simp [h1] at h0; simp [builtin, Builtin.len_, h1, run_underlying h0, goInt]
    · rename_i k x k' y hl
      refine key _ (fun w _ => ?_) h
      rw [ea _ hl]
      simp [builtin, Builtin.max_, Builtin.max2]
    · rename_i k x k' y hl
      refine key _ (fun w _ => ?_) h
      rw [ea _ hl]
      simp [builtin, Builtin.min_, Builtin.min2]
    · exact h.elim
  · exact h.elim
theorem vcQuiet_sound {o : Oper} {t : Env} {K : Value → Mem → Prop} {m : Mem} (h : vcQuiet P W0 o t K m) :
    ∃ v, (∀ w, Sub W0 m w → Oper.quietUpon P (Sub W0 m) w v ((execOp (ev t) o).run P w)) ∧ K v m := by
  unfold vcQuiet at h
  split at h
  · rename_i c ho; exact quietCall_sound ho rfl h
  · rename_i s d x ho
    split at h
    · rename_i k n hx
      obtain ⟨v, h1, h2⟩ := convI_run (W0 := W0) (k := k) h
      refine ⟨v, fun w hw => ?_, h2⟩
      have : (execOp (ev t) o).run P w = .ok (.value v) w := by simp [execOp, ho, hx, h1 w hw]
      rw [this]; exact ⟨rfl, rfl⟩
    · exact h.elim
  · obtain ⟨v, h1, h2⟩ := vcPure_sound h
    exact ⟨v, fun w hw => by rw [h1 w hw]; exact ⟨rfl, rfl⟩, h2⟩
def vcQs (P : Program) (W0 : World) (ops : Array Oper) (Q : Env → Mem → Prop) : List Oper → Env → Mem → Prop
  | [], t, m => Q t m
  | o :: rest, t, m =>
    match o.guard with
    | none => vcQuiet P W0 o t (fun v m' => vcQs P W0 ops Q rest (put o.dst v t) m') m
    | some (j, want) => guardK (yieldT ops t j) want (vcQuiet P W0 o t (fun v m' => vcQs P W0 ops Q rest (put o.dst v t) m') m) (vcQs P W0 ops Q rest (put o.dst undef t) m)
def nxtQ (P : Program) (W0 : World) (ops : Array Oper) (Q : Env → Mem → Prop) (rest : List Oper) (d : Option Nat) (t : Env) (v : Value) (m : Mem) : Prop := vcQs P W0 ops Q rest (put d v t) m
theorem nxtQ_some (ops : Array Oper) (Q : Env → Mem → Prop) (rest : List Oper) (d : Nat) (t : Env) (v : Value) (m : Mem) : nxtQ P W0 ops Q rest (some d) t v m = vcQs P W0 ops Q rest (upd t d v) m := nd rfl
theorem nxtQ_none (ops : Array Oper) (Q : Env → Mem → Prop) (rest : List Oper) (t : Env) (v : Value) (m : Mem) : nxtQ P W0 ops Q rest none t v m = vcQs P W0 ops Q rest t m := nd rfl
theorem vcQs_sound {N : Nat} {ops : Array Oper} {Q : Env → Mem → Prop} {m : Mem} {Q' : Act → Prop} (hQ : ∀ a t, Holds N a t → Q t m → Q' a) :
    ∀ (l : List Oper), (∀ o ∈ l, ∀ k, o.dst = some k → k < N) → ∀ (t : Env), vcQs P W0 ops Q l t m → ∀ (a : Act), Holds N a t → wpQuiet P ops (Sub W0 m) Q' l a
  | [], _, t, h, a, ha => hQ a t ha h
  | o :: rest, hd, t, h, a, ha => by
    have ih := vcQs_sound (ops := ops) (m := m) hQ rest (fun o' ho' => hd o' (List.mem_cons_of_mem _ ho'))
    have hdo := hd o (List.mem_cons_self ..)
    have go : ∀ (hv : vcQuiet P W0 o t (fun v m' => vcQs P W0 ops Q rest (put o.dst v t) m') m), o.quiet P a (Sub W0 m) (wpQuiet P ops (Sub W0 m) Q' rest) := fun hv => by
      obtain ⟨v, h1, h2⟩ := vcQuiet_sound hv
      refine ⟨v, fun w hw => ?_, ih _ h2 _ (ha.put _ hdo v)⟩
      unfold Oper.quietAt
      rw [ha.eval]; exact h1 w hw
    unfold wpQuiet
    unfold vcQs at h
    cases hg : o.guard with
    | none =>
      simp only [hg] at h
      rw [if_pos (by simp [Region.wanted, hg])]
      exact go h
    | some p =>
      obtain ⟨j, want⟩ := p
      simp only [hg] at h
      unfold guardK at h
      have hy := yieldT_eq ha ops j
      split
      · rename_i hw'
        simp only [Region.wanted, hg, hy, beq_iff_eq] at hw'
        rw [hw'] at h
        exact go (h.1 rfl)
      · rename_i hw'
        simp only [Region.wanted, hg, hy, beq_iff_eq] at hw'
        refine ih _ ?_ _ (ha.put _ hdo undef)
        cases hyt : yieldT ops t j with
        | none => rw [hyt] at h; exact h
        | some b => rw [hyt] at h hw'; exact h.2 (fun e => hw' (by rw [e]))

/-! ### code -/
def lift (N : Nat) (W0 : World) (Q : Exit → Env → Mem → Prop) : Exit → Act → World → Prop := fun e a w => ∃ t m, Holds N a t ∧ Sub W0 m w ∧ Q e t m
def CodeA (P : Program) (W0 : World) (N : Nat) (c : Code) (Q : Exit → Env → Mem → Prop) (t : Env) (m : Mem) : Prop := ∀ a w, Holds N a t → Sub W0 m w → c.wp P (lift N W0 Q) a w
def dstOk (N : Nat) : Code → Bool
  | .region _ ops _ => ops.all fun o => match o.dst with | some d => decide (d < N) | none => true
  | .seq a b | .cond _ a b => dstOk N a && dstOk N b
  | .block _ a | .loop a | .scope a => dstOk N a
  | _ => true
def condK (v : Value) (yes no : Prop) : Prop := match v with | .bool b => (b = true → yes) ∧ (b = false → no) | _ => False
theorem condK_bool (b : Bool) (yes no : Prop) : condK (.bool b) yes no = ((b = true → yes) ∧ (b = false → no)) := nd rfl
theorem condK_true (yes no : Prop) : condK (.bool true) yes no = yes := by simp [condK]
theorem condK_false (yes no : Prop) : condK (.bool false) yes no = no := by simp [condK]
def norm (Q : Exit → Env → Mem → Prop) : Env → Mem → Prop := fun t m => Q .normal t m
def vc (P : Program) (W0 : World) (N : Nat) : Code → (Exit → Env → Mem → Prop) → Env → Mem → Prop
  | .skip, Q, t, m => Q .normal t m
  | .region _ ops false, Q, t, m => vcOps P W0 ops (norm Q) ops.toList t m
  | .region id ops true, Q, t, m => CodeA P W0 N (.region id ops true) Q t m
  | .seq a b, Q, t, m => vc P W0 N a (fun e t m => match e with | .normal => vc P W0 N b Q t m | e => Q e t m) t m
  | .cond c a b, Q, t, m => condK (ev t c) (vc P W0 N a Q t m) (vc P W0 N b Q t m)
  | .block id c, Q, t, m => vc P W0 N c (fun e t m => match e with | .exit id' => if id' = id then Q .normal t m else Q (.exit id') t m | e => Q e t m) t m
  | .loop c, Q, t, m => CodeA P W0 N (.loop c) Q t m
  | .exit id, Q, t, m => Q (.exit id) t m
  | .ret, Q, t, m => Q .ret t m
  | .label _, Q, t, m => Q .normal t m
  | _, _, _, _ => False
def thenQ (P : Program) (W0 : World) (N : Nat) (b : Code) (Q : Exit → Env → Mem → Prop) : Exit → Env → Mem → Prop := fun e t m => match e with | .normal => vc P W0 N b Q t m | e => Q e t m
def blockQ (id : Nat) (Q : Exit → Env → Mem → Prop) : Exit → Env → Mem → Prop := fun e t m => match e with | .exit id' => if id' = id then Q .normal t m else Q (.exit id') t m | e => Q e t m
section
variable {N : Nat} (Q : Exit → Env → Mem → Prop) (t : Env) (m : Mem)
theorem vc_skip : vc P W0 N .skip Q t m = Q .normal t m := nd rfl
theorem vc_region (id : Nat) (ops : Array Oper) : vc P W0 N (.region id ops false) Q t m = vcOps P W0 ops (norm Q) ops.toList t m := nd rfl
theorem vc_draw (id : Nat) (ops : Array Oper) : vc P W0 N (.region id ops true) Q t m = CodeA P W0 N (.region id ops true) Q t m := nd rfl
theorem vc_seq (a b : Code) : vc P W0 N (.seq a b) Q t m = vc P W0 N a (thenQ P W0 N b Q) t m := nd rfl
/-- the two ways, not looked into ahead of the choice -/
def cK (v : Value) (P : Program) (W0 : World) (N : Nat) (a b : Code) (Q : Exit → Env → Mem → Prop) (t : Env) (m : Mem) : Prop := condK v (vc P W0 N a Q t m) (vc P W0 N b Q t m)
theorem cK_true (a b : Code) : cK (.bool true) P W0 N a b Q t m = vc P W0 N a Q t m := by simp [cK, condK]
theorem cK_false (a b : Code) : cK (.bool false) P W0 N a b Q t m = vc P W0 N b Q t m := by simp [cK, condK]
theorem cK_both (x : Bool) (a b : Code) (h : x = true → vc P W0 N a Q t m) (h' : x = false → vc P W0 N b Q t m) : cK (.bool x) P W0 N a b Q t m := ⟨h, h'⟩
theorem vc_cond (c : Operand) (a b : Code) : vc P W0 N (.cond c a b) Q t m = cK (ev t c) P W0 N a b Q t m := nd rfl
theorem vc_block (id : Nat) (c : Code) : vc P W0 N (.block id c) Q t m = vc P W0 N c (blockQ id Q) t m := nd rfl
theorem vc_loop (c : Code) : vc P W0 N (.loop c) Q t m = CodeA P W0 N (.loop c) Q t m := nd rfl
theorem vc_exit (id : Nat) : vc P W0 N (.exit id) Q t m = Q (.exit id) t m := nd rfl
theorem vc_ret : vc P W0 N .ret Q t m = Q .ret t m := nd rfl
theorem norm_app : norm Q t m = Q .normal t m := nd rfl
theorem then_normal (b : Code) : thenQ P W0 N b Q .normal t m = vc P W0 N b Q t m := nd rfl
theorem then_exit (b : Code) (id : Nat) : thenQ P W0 N b Q (.exit id) t m = Q (.exit id) t m := nd rfl
theorem then_ret (b : Code) : thenQ P W0 N b Q .ret t m = Q .ret t m := nd rfl
theorem block_normal (id : Nat) : blockQ id Q .normal t m = Q .normal t m := nd rfl
theorem block_ret (id : Nat) : blockQ id Q .ret t m = Q .ret t m := nd rfl
theorem block_exit (id id' : Nat) : blockQ id Q (.exit id') t m = if id' = id then Q .normal t m else Q (.exit id') t m := nd rfl
theorem vcOps_nil (ops : Array Oper) (R : Env → Mem → Prop) : vcOps P W0 ops R [] t m = R t m := nd rfl
theorem vcOps_cons (ops : Array Oper) (R : Env → Mem → Prop) (d : Option Nat) (op : Op) (T : TypeId) (pos : String) (af : Array Edge) (rest : List Oper) :
    vcOps P W0 ops R (⟨d, op, T, pos, af, none⟩ :: rest) t m = vcOp P W0 ⟨d, op, T, pos, af, none⟩ t (nxt P W0 ops R rest d t) m := nd rfl
def gO (x : Option Bool) (want : Bool) (P : Program) (W0 : World) (ops : Array Oper) (R : Env → Mem → Prop) (d : Option Nat) (o : Oper) (rest : List Oper) (t : Env) (m : Mem) : Prop := guardK x want (vcOp P W0 o t (nxt P W0 ops R rest d t) m) (nxt P W0 ops R rest d t undef m)
section
variable (ops : Array Oper) (R : Env → Mem → Prop) (d : Option Nat) (o : Oper) (rest : List Oper)
theorem gO_none (want : Bool) : gO none want P W0 ops R d o rest t m = nxt P W0 ops R rest d t undef m := nd rfl
theorem gO_tt : gO (some true) true P W0 ops R d o rest t m = vcOp P W0 o t (nxt P W0 ops R rest d t) m := by simp [gO, guardK]
theorem gO_ff : gO (some false) false P W0 ops R d o rest t m = vcOp P W0 o t (nxt P W0 ops R rest d t) m := by simp [gO, guardK]
theorem gO_tf : gO (some true) false P W0 ops R d o rest t m = nxt P W0 ops R rest d t undef m := by simp [gO, guardK]
theorem gO_ft : gO (some false) true P W0 ops R d o rest t m = nxt P W0 ops R rest d t undef m := by simp [gO, guardK]
end
theorem vcOps_guard (ops : Array Oper) (R : Env → Mem → Prop) (d : Option Nat) (op : Op) (T : TypeId) (pos : String) (af : Array Edge) (j : Nat) (want : Bool) (rest : List Oper) :
    vcOps P W0 ops R (⟨d, op, T, pos, af, some (j, want)⟩ :: rest) t m = gO (yieldT ops t j) want P W0 ops R d ⟨d, op, T, pos, af, some (j, want)⟩ rest t m := nd rfl
theorem vcQs_nil (ops : Array Oper) (R : Env → Mem → Prop) : vcQs P W0 ops R [] t m = R t m := nd rfl
theorem vcQs_cons (ops : Array Oper) (R : Env → Mem → Prop) (d : Option Nat) (op : Op) (T : TypeId) (pos : String) (af : Array Edge) (rest : List Oper) :
    vcQs P W0 ops R (⟨d, op, T, pos, af, none⟩ :: rest) t m = vcQuiet P W0 ⟨d, op, T, pos, af, none⟩ t (nxtQ P W0 ops R rest d t) m := nd rfl
def gQ (x : Option Bool) (want : Bool) (P : Program) (W0 : World) (ops : Array Oper) (R : Env → Mem → Prop) (d : Option Nat) (o : Oper) (rest : List Oper) (t : Env) (m : Mem) : Prop := guardK x want (vcQuiet P W0 o t (nxtQ P W0 ops R rest d t) m) (nxtQ P W0 ops R rest d t undef m)
section
variable (ops : Array Oper) (R : Env → Mem → Prop) (d : Option Nat) (o : Oper) (rest : List Oper)
theorem gQ_none (want : Bool) : gQ none want P W0 ops R d o rest t m = nxtQ P W0 ops R rest d t undef m := nd rfl
theorem gQ_tt : gQ (some true) true P W0 ops R d o rest t m = vcQuiet P W0 o t (nxtQ P W0 ops R rest d t) m := by simp [gQ, guardK]
theorem gQ_ff : gQ (some false) false P W0 ops R d o rest t m = vcQuiet P W0 o t (nxtQ P W0 ops R rest d t) m := by simp [gQ, guardK]
theorem gQ_tf : gQ (some true) false P W0 ops R d o rest t m = nxtQ P W0 ops R rest d t undef m := by simp [gQ, guardK]
theorem gQ_ft : gQ (some false) true P W0 ops R d o rest t m = nxtQ P W0 ops R rest d t undef m := by simp [gQ, guardK]
end
theorem vcQs_guard (ops : Array Oper) (R : Env → Mem → Prop) (d : Option Nat) (op : Op) (T : TypeId) (pos : String) (af : Array Edge) (j : Nat) (want : Bool) (rest : List Oper) :
    vcQs P W0 ops R (⟨d, op, T, pos, af, some (j, want)⟩ :: rest) t m = gQ (yieldT ops t j) want P W0 ops R d ⟨d, op, T, pos, af, some (j, want)⟩ rest t m := nd rfl
end
theorem Exit.then_lift {N : Nat} {Q : Exit → Env → Mem → Prop} {R : Env → Mem → Prop} {next : Act → World → Prop} (hn : ∀ a w t m, Holds N a t → Sub W0 m w → R t m → next a w) :
    ∀ e a w, lift N W0 (fun e t m => match e with | .normal => R t m | e => Q e t m) e a w → Exit.then next (lift N W0 Q) e a w := fun e a w ⟨t, m, h1, h2, h3⟩ => by
  cases e <;> first | exact hn _ _ _ _ h1 h2 h3 | exact ⟨t, m, h1, h2, h3⟩
theorem vc_sound {N : Nat} : ∀ (c : Code), dstOk N c = true → ∀ (Q : Exit → Env → Mem → Prop) (t : Env) (m : Mem), vc P W0 N c Q t m → CodeA P W0 N c Q t m
  | .skip, _, Q, t, m, h => fun a w ha hw => wp_skip ⟨t, m, ha, hw, h⟩
  | .label _, _, Q, t, m, h => fun a w ha hw => wp_label ⟨t, m, ha, hw, h⟩
  | .region id ops false, hd, Q, t, m, h => fun a w ha hw => by
    refine wp_region_list ?_
    refine vcOps_sound (N := N) (Q := norm Q) (fun a t m w ha hw hq => ⟨t, m, ha, hw, hq⟩) ops.toList ?_ t m h a w ha hw
    intro o ho k hk
    have := Array.all_eq_true_iff_forall_mem.1 hd o (by simpa using ho)
    rw [hk] at this
    simpa using this
  | .region id ops true, _, Q, t, m, h => h
  | .seq x y, hd, Q, t, m, h => fun a w ha hw => by
    simp only [dstOk, Bool.and_eq_true] at hd
    refine wp_seq (wp_mono (vc_sound x hd.1 _ t m h a w ha hw) ?_)
    exact Exit.then_lift (R := fun t m => vc P W0 N y Q t m) fun a w t m ha hw hq => vc_sound y hd.2 Q t m hq a w ha hw
  | .cond c x y, hd, Q, t, m, h => fun a w ha hw => by
    simp only [dstOk, Bool.and_eq_true] at hd
    unfold vc condK at h
    split at h
    · rename_i b hb
      refine wp_cond_split (t := b) (by rw [ha.eval]; exact hb) (fun e => vc_sound x hd.1 Q t m (h.1 e) a w ha hw) (fun e => vc_sound y hd.2 Q t m (h.2 e) a w ha hw)
    · exact h.elim
  | .block id c, hd, Q, t, m, h => fun a w ha hw => by
    refine wp_block (wp_mono (vc_sound c hd _ t m h a w ha hw) ?_)
    rintro e a' w' ⟨t', m', h1, h2, h3⟩
    cases e with
    | exit id' =>
      simp only [Exit.inBlock]
      simp only at h3
      split
      · rename_i e; rw [if_pos e] at h3; exact ⟨t', m', h1, h2, h3⟩
      · rename_i e; rw [if_neg e] at h3; exact ⟨t', m', h1, h2, h3⟩
    | _ => exact ⟨t', m', h1, h2, h3⟩
  | .loop c, _, Q, t, m, h => h
  | .exit id, _, Q, t, m, h => fun a w ha hw => wp_exit ⟨t, m, ha, hw, h⟩
  | .ret, _, Q, t, m, h => fun a w ha hw => wp_ret ⟨t, m, ha, hw, h⟩
  | .rangeFunc .., _, Q, t, m, h => h.elim
  | .scope _, _, Q, t, m, h => h.elim
  | .goto _, _, Q, t, m, h => h.elim
  | .refuse _, _, Q, t, m, h => h.elim
theorem draw_quiet {N : Nat} {id : Nat} {ops : Array Oper} {Q : Exit → Env → Mem → Prop} {t : Env} {m : Mem} (hm : P.follows .mixedOrders = true) (hB : Region.lexB .any ops = true)
    (hd : dstOk N (.region id ops true) = true) (h : vcQs P W0 ops (norm Q) ops.toList t m) : CodeA P W0 N (.region id ops true) Q t m := fun a w ha hw => by
  refine wp_region_quiet (C := Sub W0 m) hm hB hw.drew ?_
  refine vcQs_sound (N := N) (Q := norm Q) (Q' := fun a' => ∀ w', Sub W0 m w' → lift N W0 Q .normal a' w') (fun a t ha hq w' hw' => ⟨t, m, ha, hw', hq⟩) ops.toList ?_ t h a ha
  intro o ho k hk
  have := Array.all_eq_true_iff_forall_mem.1 hd o (by simpa using ho)
  rw [hk] at this
  simpa using this
/-- What a round hands on: the invariant, at a smaller number. -/
def loopQ (I : Nat → Env → Mem → Prop) (n : Nat) (Q : Exit → Env → Mem → Prop) : Exit → Env → Mem → Prop := fun e t m => match e with | .normal => ∃ n', n' < n ∧ I n' t m | e => Q e t m
theorem loopQ_normal (I : Nat → Env → Mem → Prop) (n : Nat) (Q : Exit → Env → Mem → Prop) (t : Env) (m : Mem) : loopQ I n Q .normal t m = ∃ n', n' < n ∧ I n' t m := nd rfl
theorem loopQ_exit (I : Nat → Env → Mem → Prop) (n : Nat) (Q : Exit → Env → Mem → Prop) (t : Env) (m : Mem) (id : Nat) : loopQ I n Q (.exit id) t m = Q (.exit id) t m := nd rfl
theorem loopQ_ret (I : Nat → Env → Mem → Prop) (n : Nat) (Q : Exit → Env → Mem → Prop) (t : Env) (m : Mem) : loopQ I n Q .ret t m = Q .ret t m := nd rfl
theorem loop_rule {N : Nat} {c : Code} {Q : Exit → Env → Mem → Prop} {t : Env} {m : Mem} (I : Nat → Env → Mem → Prop) (n0 : Nat) (hd : dstOk N c = true) (h0 : I n0 t m)
    (round : ∀ n t m, I n t m → vc P W0 N c (loopQ I n Q) t m) : CodeA P W0 N (.loop c) Q t m := fun a w ha hw => by
  refine wp_loop_ghost (fun n a w => ∃ t m, Holds N a t ∧ Sub W0 m w ∧ I n t m) n0 ⟨t, m, ha, hw, h0⟩ ?_
  rintro n a w ⟨t, m, ha, hw, hI⟩
  refine wp_mono (vc_sound c hd _ t m (round n t m hI) a w ha hw) ?_
  rintro e a' w' ⟨t', m', h1, h2, h3⟩
  cases e with
  | normal => obtain ⟨n', hlt, hI'⟩ := h3; exact ⟨n', hlt, t', m', h1, h2, hI'⟩
  | _ => exact ⟨t', m', h1, h2, h3⟩
/-- What is known may be let go, or told otherwise, between two pieces. -/
theorem CodeA.mono {N : Nat} {c : Code} {Q Q' : Exit → Env → Mem → Prop} {t : Env} {m : Mem} (h : CodeA P W0 N c Q t m) (hq : ∀ e t m, Q e t m → Q' e t m) : CodeA P W0 N c Q' t m :=
  fun a w ha hw => wp_mono (h a w ha hw) fun e a w ⟨t, m, h1, h2, h3⟩ => ⟨t, m, h1, h2, hq _ _ _ h3⟩
/-- A cut: after the first piece this is known, in whatever frame. -/
def cutQ (I : Env → Mem → Prop) (Q : Exit → Env → Mem → Prop) : Exit → Env → Mem → Prop := fun e t m => match e with | .normal => I t m | e => Q e t m
theorem cutQ_normal (I : Env → Mem → Prop) (Q : Exit → Env → Mem → Prop) (t : Env) (m : Mem) : cutQ I Q .normal t m = I t m := nd rfl
theorem cutQ_exit (I : Env → Mem → Prop) (Q : Exit → Env → Mem → Prop) (t : Env) (m : Mem) (id : Nat) : cutQ I Q (.exit id) t m = Q (.exit id) t m := nd rfl
theorem cutQ_ret (I : Env → Mem → Prop) (Q : Exit → Env → Mem → Prop) (t : Env) (m : Mem) : cutQ I Q .ret t m = Q .ret t m := nd rfl
theorem code_cut {N : Nat} {a b : Code} {Q : Exit → Env → Mem → Prop} {t : Env} {m : Mem} (I : Env → Mem → Prop) (hd : dstOk N a = true) (hd' : dstOk N b = true) (h1 : vc P W0 N a (cutQ I Q) t m)
    (h2 : ∀ t m, I t m → vc P W0 N b Q t m) : CodeA P W0 N (.seq a b) Q t m := fun ac w ha hw => by
  refine wp_seq (wp_mono (vc_sound a hd _ t m h1 ac w ha hw) ?_)
  exact Exit.then_lift (R := I) fun a w t m ha hw hq => vc_sound b hd' Q t m (h2 t m hq) a w ha hw

/-! ### whole functions -/
def resK (P : Program) (W0 : World) (rs : List ResultVar) (t : Env) (K : Value → Mem → Prop) (m : Mem) : Prop :=
  match rs with
  | [] => K (.tuple #[]) m
  | [.tmp i] => K (t i) m
  | [.tmp i, .tmp j] => K (.tuple #[t i, t j]) m
  | [.tmp i, .tmp j, .tmp k] => K (.tuple #[t i, t j, t k]) m
  | [.cell i T] => loadK P W0 T (t i) K m
  | [.cell i T, .cell j S] => loadK P W0 T (t i) (fun v m => loadK P W0 S (t j) (fun u m => K (.tuple #[v, u]) m) m) m
  | _ => False
def retK (P : Program) (W0 : World) (rs : Array ResultVar) (K : Value → Mem → Prop) : Exit → Env → Mem → Prop := fun e t m => match e with | .normal => resK P W0 rs.toList t K m | .ret => resK P W0 rs.toList t K m | _ => False
theorem retK_normal (rs : Array ResultVar) (K : Value → Mem → Prop) (t : Env) (m : Mem) : retK P W0 rs K .normal t m = resK P W0 rs.toList t K m := nd rfl
theorem retK_ret (rs : Array ResultVar) (K : Value → Mem → Prop) (t : Env) (m : Mem) : retK P W0 rs K .ret t m = resK P W0 rs.toList t K m := nd rfl
section
variable (t : Env) (K : Value → Mem → Prop) (m : Mem)
theorem resK_0 : resK P W0 [] t K m = K (.tuple #[]) m := nd rfl
theorem resK_1 (i : Nat) : resK P W0 [.tmp i] t K m = K (t i) m := nd rfl
theorem resK_2 (i j : Nat) : resK P W0 [.tmp i, .tmp j] t K m = K (.tuple #[t i, t j]) m := nd rfl
theorem resK_3 (i j k : Nat) : resK P W0 [.tmp i, .tmp j, .tmp k] t K m = K (.tuple #[t i, t j, t k]) m := nd rfl
theorem resK_c (i T : Nat) : resK P W0 [.cell i T] t K m = loadK P W0 T (t i) K m := nd rfl
end
theorem loadK_ptr_run {T : TypeId} {v : Value} {K : Value → Mem → Prop} {m : Mem} (h : loadK P W0 T v K m) : ∃ a x, v = .pointer (some a) ∧ (∀ w, Sub W0 m w → (loadVar T a).run P w = .ok x w) ∧ K x m := by
  unfold loadK at h
  split at h
  · rename_i a; obtain ⟨x, h1, h2⟩ := loadT_run h; exact ⟨a, x, rfl, h1, h2⟩
  · exact h.elim
theorem resK_run {fn : Func} {N : Nat} {a : Act} {t : Env} {K : Value → Mem → Prop} {m : Mem} {w : World} (ha : Holds N a t) (hw : Sub W0 m w) (h : resK P W0 fn.results.toList t K m) :
    ∃ v, (results fn a.tmps).run P w = .ok v w ∧ K v m := by
  have hr : ∀ l, fn.results.toList = l → fn.results = l.toArray := fun l e => by rw [← e]
  unfold resK at h
  split at h
  · rename_i e; exact ⟨_, by simp [results, hr _ e], h⟩
  · rename_i i e; exact ⟨_, by simp only [results, hr _ e]; simp [ha.get], h⟩
  · rename_i i j e; exact ⟨_, by simp only [results, hr _ e]; simp [ha.get], h⟩
  · rename_i i j k e; exact ⟨_, by simp only [results, hr _ e]; simp [ha.get], h⟩
  · rename_i i T e
    obtain ⟨ad, x, hv, h1, h2⟩ := loadK_ptr_run h
    exact ⟨x, by simp only [results, hr _ e]; simp [ha.get, hv, asAddr, h1 w hw], h2⟩
  · rename_i i T j S e
    obtain ⟨ad, x, hv, h1, h2⟩ := loadK_ptr_run h
    obtain ⟨bd, y, hv', h1', h2'⟩ := loadK_ptr_run h2
    exact ⟨_, by simp only [results, hr _ e]; simp [ha.get, hv, hv', asAddr, h1 w hw, h1' w hw], h2'⟩
  · exact h.elim
theorem envL_get : ∀ (l : List Value) (i : Nat), envL l i = l.getD i undef
  | [], i => by simp [envL_nil]
  | v :: l, 0 => rfl
  | v :: l, i + 1 => by rw [envL_succ, envL_get l i]; simp
theorem call_of_vc {f : Nat} {fn : Func} {c : Code} {args : Array Value} {N : Nat} {K : Value → Mem → Prop} {m : Mem} (hf : P.funcs[f]? = some fn) (hb : fn.body = some c) (hc : callable P f = true)
    (hN : args.size + (fn.ntmps - args.size) = N) (hd : dstOk N c = true) (h : vc P W0 N c (retK P W0 fn.results K) (envL args.toList) m) : CallA P W0 f args m K := by
  refine ⟨hc, fun w hw => calls_of_wp hf hb ?_⟩
  refine wp_mono (vc_sound c hd _ _ m h _ w ⟨by simp [hN], fun i => ?_, rfl⟩ hw) ?_
  · rw [envL_get]
    simp only [Array.getD_eq_getD_getElem?, List.getD_eq_getElem?_getD]
    by_cases hi : i < args.size
    · rw [Array.getElem?_append_left hi]; simp
    · rw [Array.getElem?_append_right (by omega)]
      have h1 : args.toList[i]? = none := by simp; omega
      rw [h1]
      cases hx : (Array.replicate (fn.ntmps - args.size) undef)[i - args.size]? with
      | none => rfl
      | some v =>
        have := Array.getElem?_replicate (n := fn.ntmps - args.size) (v := undef) (i := i - args.size)
        rw [hx] at this
        split at this
        · cases this; rfl
        · cases this
  · rintro e a' w' ⟨t', m', h1, h2, h3⟩
    cases e with
    | normal => obtain ⟨v, hv, hk⟩ := resK_run h1 h2 h3; exact ⟨h1.defers, v, hv, v, m', rfl, h2, hk⟩
    | ret => obtain ⟨v, hv, hk⟩ := resK_run h1 h2 h3; exact ⟨h1.defers, v, hv, v, m', rfl, h2, hk⟩
    | _ => exact h3.elim
/-- The whole of it, for a statement's row. -/
theorem calls_of_callA {W : World} {f : Nat} {args : Array Value} {r : Value} (h : CallA P W f args (fun _ => none) fun v _ => v = r) :
    Calls P f args W fun e w' => e = .returned r ∧ Below W.heap.size W w' :=
  (h.2 W ⟨Below.refl _ _, fun b o hb => by cases hb⟩).mono fun e w' ⟨v, m', he, hs, hv⟩ => ⟨by rw [he, hv], hs.old⟩
end
end Go.Proofs.Ytcddhbhdpleppaa.R
