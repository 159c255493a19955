/- One more element of a slice of the call's own, whatever else is known. No conditions. -/
import Derived.Test.YtapppaccnkojkaaRAuto
set_option linter.unusedVariables false
set_option linter.unusedSimpArgs false
namespace Go.Proofs.Ytapppaccnkojkaa.R
open Go Go.RowKit
section
variable {P : Program} {W0 : World}
theorem app_own {t ty e size bytes : Nat} {z : Array Value} {m : Mem} {A : Option Addr} {n c b : Nat} {xs : List Value} {cells : Array Value} {K : Value → Mem → Prop} (hsl : slOf P t = some (e, size)) (hz : zeroOf P e = some z) (hby : bytesA P e = some bytes)
    (hzs : z.size = size ∧ 0 < size) (O : OwnS W0 m e size (.slice A n c) n xs) (hb : W0.heap.size ≤ b) (ob : m b = some (.cells cells e)) (hc : cells.size = size) (h1 : ones cells.toList = true) (hn : n + 1 ≤ maxLen ∧ (n + 1) * bytes ≤ 140737488355328)
    (h : ∀ A' c' m', OwnS W0 m' e size (.slice A' (n + 1) c') (n + 1) (xs ++ cells.toList) → (∀ b o, m b = some o → (Value.slice A n c).ownBlock ≠ some b → m' b = some o ∧ (Value.slice A' (n + 1) c').ownBlock ≠ some b) → K (.slice A' (n + 1) c') m') :
    RunA P W0 (Builtin.append_ #[t, t] ty #[.slice A n c, .slice (some ⟨b, 0, none⟩) 1 1]) m K := by
  refine rappend hsl hz hby hzs.1 hzs.2 O (RS.block hb ob (n := 1) (by omega)) (fun u hu => ?_) hn.1 hn.2 fun v' m' hO hK hf => ?_
  · rw [ones_all] at h1; exact List.all_eq_true.1 h1 u hu
  · have hv := hO
    obtain ⟨_, A', c', rfl, _⟩ := hv.reads
    refine h A' c' m' hO fun b o hbo hne => ⟨hK b o hbo hne, ?_⟩
    rcases hf with hf | hf
    · rw [hf]; exact hne
    · exact fun he => by rw [hf b he] at hbo; cases hbo
/-- What is own is apart from what was known when it was nil. -/
theorem own_apart {m : Mem} {e : TypeId} {size n : Nat} {v : Value} {xs : List Value} {m0 : Mem} (N : NewS W0 m0 m e size v n xs) {b : Nat} {o : Obj} (h : m0 b = some o) : v.ownBlock ≠ some b := fun e => by rw [N.new b e] at h; cases h
end
end Go.Proofs.Ytapppaccnkojkaa.R
