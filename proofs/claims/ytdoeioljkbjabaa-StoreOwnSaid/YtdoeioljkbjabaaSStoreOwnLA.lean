/- The law StoreOwn, over the logic of partial memories: whatever is written, it is true. No conditions. -/
import Derived.Test.YtdoeioljkbjabaaSStoreOwnRW13c
import Derived.Test.YtdoeioljkbjabaaSStoreOwnRW13e
import Derived.Test.YtdoeioljkbjabaaSStoreOwnRE
set_option linter.unusedVariables false
set_option linter.unusedSimpArgs false
namespace Go.Proofs.Ytdoeioljkbjabaa.R
open Go Go.RowKit Go.Proofs.Ytdoeioljkbjabaa
set_option maxRecDepth 100000
set_option maxHeartbeats 8000000
section
variable {W0 : World}
def wrL {α : Type} (r : Bool) (l : List α) (a : Int) (w : List α) : List α := if r then over l a.toNat w else l
theorem store_WriteZ {m : Mem} {K : Value → Mem → Prop} {b : Nat} {ws : List Int} {gs : List Bool} {ys : List Int} (s : Sto W0 m b ws gs ys) {a : Int} {v : Value} {w : List Int} (hw : RS W0 m v 1 w.length (u8 w)) (hby : Byte w)
    (h : ∀ m', Sto W0 m' b (wrL (right a w.length) ws a w) (wrL (right a w.length) gs a (List.replicate w.length true)) (wrL (right a w.length) ys a (List.replicate w.length 0)) → Keep m m' (some b) → K (.int .i64 (if right a w.length then 0 else 2)) m') :
    CallA Try.prog W0 23 #[.pointer (some ⟨b, 0, none⟩), .int .i64 a, v] m K := by
  refine store_Write s hw hby (fun hr => ?_) fun n hn h64 h1 hr m' s' k => ?_
  · have := h m (by rw [hr]; exact s) (Keep.refl _ _)
    rw [hr] at this; exact this
  · have := h m' (by rw [hr]; subst hn; simpa [wrL] using s') k
    rw [hr] at this; exact this
theorem drop_take1 {α : Type} {l : List α} {n : Nat} {x : α} (h : l[n]? = some x) : (l.drop n).take 1 = [x] := by rw [drop_step h]; rfl
theorem allG_one {gs : List Bool} {n : Nat} {x : Bool} (h : gs[n]? = some x) : allG gs n 1 = x := by unfold allG; rw [drop_take1 h]; simp
theorem old_wr {r : Bool} {ys : List Int} {a : Int} {n : Nat} (h : Old ys) : Old (wrL r ys a (List.replicate n 0)) := by
  unfold wrL; split
  · exact old_over h (old_rep n)
  · exact h
/-- A write's three ways, as a place sees it. -/
theorem wr_ways {ws : List Int} {gs : List Bool} (h1 : ws.length = 64) (h2 : gs.length = 64) {a : Int} {w : List Int} {n : Nat} (hn : n < 64) :
    (∃ k : Nat, a = k ∧ right a w.length = true ∧ k ≤ n ∧ n - k < w.length ∧ (wrL (right a w.length) ws a w)[n]? = w[n - k]? ∧ (wrL (right a w.length) gs a (List.replicate w.length true))[n]? = some true) ∨
    ((right a w.length = false ∨ ∃ k : Nat, a = k ∧ right a w.length = true ∧ k ≤ 64 ∧ (n < k ∨ (k ≤ n ∧ w.length ≤ n - k))) ∧ (wrL (right a w.length) ws a w)[n]? = ws[n]? ∧ (wrL (right a w.length) gs a (List.replicate w.length true))[n]? = gs[n]?) := by
  cases hr : right a w.length
  · exact .inr ⟨.inl rfl, rfl, rfl⟩
  · obtain ⟨k, c, rfl, hc, _, h64⟩ := right_two hr
    obtain rfl : c = w.length := by omega
    have e1 : wrL true ws (k : Int) w = over ws k w := rfl
    have e2 : wrL true gs (k : Int) (List.replicate w.length true) = over gs k (List.replicate w.length true) := rfl
    rw [e1, e2, over_get (by omega), over_get (by simp; omega)]
    by_cases hin : k ≤ n ∧ n - k < w.length
    · refine .inl ⟨k, rfl, rfl, hin.1, hin.2, by rw [if_pos (by omega)], ?_⟩
      rw [if_pos (by simp; omega), List.getElem?_replicate, if_pos hin.2]
    · refine .inr ⟨.inr ⟨k, rfl, rfl, by omega, by omega⟩, by rw [if_neg (by omega)], by rw [if_neg (by simp; omega)]⟩
theorem xor_one : ∀ x : Fin 256, bits .xor .u8 (bits .xor .u8 (x.val : Int) 1) 1 = (x.val : Int) := by decide +kernel
end
end Go.Proofs.Ytdoeioljkbjabaa.R
