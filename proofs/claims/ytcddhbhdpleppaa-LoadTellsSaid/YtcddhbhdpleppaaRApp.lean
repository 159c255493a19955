/- One more element of a slice of the call's own, whatever else is known. No conditions. -/
import Derived.Test.YtcddhbhdpleppaaRAuto
import Derived.Scope
set_option linter.unusedVariables false
set_option linter.unusedSimpArgs false
namespace Go.Proofs.Ytcddhbhdpleppaa.R
open Go Go.RowKit
section
variable {P : Program} {W0 : World}
theorem vc_label {N : Nat} {Q : Exit → Env → Mem → Prop} {t : Env} {m : Mem} (l : Nat) : vc P W0 N (.label l) Q t m = Q .normal t m := nd rfl
/-- Code with labels that no goto goes to. -/
def noG (Q : Exit → Env → Mem → Prop) : Exit → Env → Mem → Prop := fun e t m => match e with | .goto _ => False | e => Q e t m
theorem noG_normal (Q : Exit → Env → Mem → Prop) (t : Env) (m : Mem) : noG Q .normal t m = Q .normal t m := nd rfl
theorem noG_ret (Q : Exit → Env → Mem → Prop) (t : Env) (m : Mem) : noG Q .ret t m = Q .ret t m := nd rfl
theorem noG_exit (Q : Exit → Env → Mem → Prop) (i : Nat) (t : Env) (m : Mem) : noG Q (.exit i) t m = Q (.exit i) t m := nd rfl
def scopeQ (P : Program) (W0 : World) (N : Nat) (c : Code) (Q : Exit → Env → Mem → Prop) : Exit → Env → Mem → Prop := fun e t m => match e with | .normal => vc P W0 N c (noG Q) t m | e => Q e t m
theorem scopeQ_normal (N : Nat) (c : Code) (Q : Exit → Env → Mem → Prop) (t : Env) (m : Mem) : scopeQ P W0 N c Q .normal t m = vc P W0 N c (noG Q) t m := nd rfl
theorem seq_scope {N : Nat} {a b : Code} {Q : Exit → Env → Mem → Prop} {t : Env} {m : Mem} (hd : dstOk N (.seq a (.scope b)) = true) (h : vc P W0 N a (scopeQ P W0 N b Q) t m) : CodeA P W0 N (.seq a (.scope b)) Q t m := fun x w ha hw => by
  simp only [dstOk, Bool.and_eq_true] at hd
  refine wp_seq (wp_mono (vc_sound a hd.1 _ t m h x w ha hw) ?_)
  refine Exit.then_lift (R := fun t m => vc P W0 N b (noG Q) t m) fun a' w' t' m' ha' hw' hq => ?_
  refine wp_scope_straight (wp_mono (vc_sound b hd.2 _ t' m' hq a' w' ha' hw') ?_)
  rintro e a2 w2 ⟨t2, m2, h1, h2, h3⟩
  cases e with
  | goto l => exact h3
  | normal => exact ⟨t2, m2, h1, h2, h3⟩
  | exit id => exact ⟨t2, m2, h1, h2, h3⟩
  | ret => exact ⟨t2, m2, h1, h2, h3⟩
  | panic ch => exact ⟨t2, m2, h1, h2, h3⟩
  | outgrown => exact ⟨t2, m2, h1, h2, h3⟩
theorem call_of_code {f : Nat} {fn : Func} {c : Code} {args : Array Value} {N : Nat} {K : Value → Mem → Prop} {m : Mem} (hf : P.funcs[f]? = some fn) (hb : fn.body = some c) (hc : callable P f = true)
    (hN : args.size + (fn.ntmps - args.size) = N) (h : CodeA P W0 N c (retK P W0 fn.results K) (envL args.toList) m) : CallA P W0 f args m K := by
  refine ⟨hc, fun w hw => calls_of_wp hf hb ?_⟩
  refine wp_mono (h _ w ⟨by simp [hN], fun i => ?_, rfl⟩ hw) ?_
  · rw [envL_get]
    simp only [Array.getD_eq_getD_getElem?, List.getD_eq_getElem?_getD]
    by_cases hi : i < args.size
    · rw [Array.getElem?_append_left hi]; simp
    · rw [Array.getElem?_append_right (by omega)]
      have h1 : args.toList[i]? = none := by simp; omega
      rw [h1]
      cases hx : (Array.replicate (fn.ntmps - args.size) undef)[i - args.size]? with
      | none => rfl
      | some v =>
        have := Array.getElem?_replicate (n := fn.ntmps - args.size) (v := undef) (i := i - args.size)
        rw [hx] at this
        split at this
        · cases this; rfl
        · cases this
  · rintro e a' w' ⟨t', m', h1, h2, h3⟩
    cases e with
    | normal => obtain ⟨v, hv, hk⟩ := resK_run h1 h2 h3; exact ⟨h1.defers, v, hv, v, m', rfl, h2, hk⟩
    | ret => obtain ⟨v, hv, hk⟩ := resK_run h1 h2 h3; exact ⟨h1.defers, v, hv, v, m', rfl, h2, hk⟩
    | _ => exact h3.elim
theorem app_own {t ty e size bytes : Nat} {z : Array Value} {m : Mem} {A : Option Addr} {n c b : Nat} {xs : List Value} {cells : Array Value} {K : Value → Mem → Prop} (hsl : slOf P t = some (e, size)) (hz : zeroOf P e = some z) (hby : bytesA P e = some bytes)
    (hzs : z.size = size ∧ 0 < size) (O : OwnS W0 m e size (.slice A n c) n xs) (hb : W0.heap.size ≤ b) (ob : m b = some (.cells cells e)) (hc : cells.size = size) (h1 : ones cells.toList = true) (hn : n + 1 ≤ maxLen ∧ (n + 1) * bytes ≤ 140737488355328)
    (h : ∀ A' c' m', OwnS W0 m' e size (.slice A' (n + 1) c') (n + 1) (xs ++ cells.toList) → (∀ b o, m b = some o → (Value.slice A n c).ownBlock ≠ some b → m' b = some o ∧ (Value.slice A' (n + 1) c').ownBlock ≠ some b) → K (.slice A' (n + 1) c') m') :
    RunA P W0 (Builtin.append_ #[t, t] ty #[.slice A n c, .slice (some ⟨b, 0, none⟩) 1 1]) m K := by
  refine rappend hsl hz hby hzs.1 hzs.2 O (RS.block hb ob (n := 1) (by omega)) (fun u hu => ?_) hn.1 hn.2 fun v' m' hO hK hf => ?_
  · rw [ones_all] at h1; exact List.all_eq_true.1 h1 u hu
  · have hv := hO
    obtain ⟨_, A', c', rfl, _⟩ := hv.reads
    refine h A' c' m' hO fun b o hbo hne => ⟨hK b o hbo hne, ?_⟩
    rcases hf with hf | hf
    · rw [hf]; exact hne
    · exact fun he => by rw [hf b he] at hbo; cases hbo
/-- What is own is apart from what was known when it was nil. -/
theorem own_apart {m : Mem} {e : TypeId} {size n : Nat} {v : Value} {xs : List Value} {m0 : Mem} (N : NewS W0 m0 m e size v n xs) {b : Nat} {o : Obj} (h : m0 b = some o) : v.ownBlock ≠ some b := fun e => by rw [N.new b e] at h; cases h
end
end Go.Proofs.Ytcddhbhdpleppaa.R
