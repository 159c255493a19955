/- The validity layer: the pulses of a frame, over the logic of partial memories. No conditions. -/
import Derived.Test.YtcddhbhdpleppaaSValidApartRW07e
import Derived.Test.YtcddhbhdpleppaaRApp
set_option linter.unusedVariables false
set_option linter.unusedSimpArgs false
namespace Go.Proofs.Ytcddhbhdpleppaa.R
open Go Go.RowKit Go.Proofs.Ytcddhbhdpleppaa
set_option maxRecDepth 100000
set_option maxHeartbeats 8000000
section
variable {W0 : World}
theorem NewS.base8 {m m1 m2 : Mem} {e : TypeId} {size n : Nat} {v : Value} {xs : List Value} (N : NewS W0 m1 m2 e size v n xs) (x : Ext m m1) : NewS W0 m m2 e size v n xs :=
  ⟨N.own, x.trans N.ext, fun g h => none_of x (N.new g h)⟩
/-- Pulses that come one behind the other: what was told, where, and where the last one was. -/
def stepR (st : List Int × Int × Int) (w : WinV) : List Int × Int × Int := if w.kind = 2 then (st.1 ++ [st.2.1 + 2 - st.2.2], st.2.1 + w.len, st.2.1 + 2) else (st.1, st.2.1 + w.len, st.2.2)
def stR (v : Int) (l : List WinV) : List Int × Int × Int := l.foldl stepR ([], 10 + 2 * v, 3)
def spansOf (v : Int) (l : List WinV) : List Int := (stR v l).1 ++ [(stR v l).2.1 + 9 - (stR v l).2.2]
theorem fold_le : ∀ (l : List WinV) (o : List Int) (a b : Int), 10 ≤ a → 3 ≤ b → b ≤ a + 4 → (l.foldl stepR (o, a, b)).1.length ≤ o.length + l.length ∧ a ≤ (l.foldl stepR (o, a, b)).2.1 ∧ (l.foldl stepR (o, a, b)).2.1 ≤ a + 1000 * l.length ∧
      3 ≤ (l.foldl stepR (o, a, b)).2.2 ∧ (l.foldl stepR (o, a, b)).2.2 ≤ (l.foldl stepR (o, a, b)).2.1 + 4
  | [], o, a, b, h1, h2, h3 => by simp; omega
  | w :: l, o, a, b, h1, h2, h3 => by
    have hw := w.len_le
    rw [List.foldl_cons]
    have hst : stepR (o, a, b) w = if w.kind = 2 then (o ++ [a + 2 - b], a + w.len, a + 2) else (o, a + w.len, b) := rfl
    rw [hst]
    split
    · have := fold_le l (o ++ [a + 2 - b]) (a + w.len) (a + 2) (by omega) (by omega) (by omega)
      simp only [List.length_append, List.length_cons, List.length_nil] at *
      omega
    · have := fold_le l o (a + w.len) b (by omega) (by omega) (by omega)
      simp only [List.length_cons] at *
      omega
theorem stR_le {v : Int} (hv : 0 ≤ v ∧ v < 2) (l : List WinV) : (stR v l).1.length ≤ l.length ∧ 10 ≤ (stR v l).2.1 ∧ (stR v l).2.1 ≤ 12 + 1000 * l.length ∧ 3 ≤ (stR v l).2.2 ∧ (stR v l).2.2 ≤ 16 + 1000 * l.length := by
  have := fold_le l [] (10 + 2 * v) 3 (by omega) (by omega) (by omega)
  unfold stR
  simp only [List.length_nil] at this
  omega
def stepS (st : List Int × Int) (x : SlotV) : List Int × Int := if x.kind = 2 then (st.1 ++ [(x.start + 40 - st.2) / 20], x.start + 40) else st
def midL (v : Int) (l : List WinV) : List SlotV := viewMid (-1) (startOf v) l ++ [lastSlot (startOf v + sumT l)]
def vwL (v : Int) (l : List WinV) : List SlotV := firstSlot v :: midL v l
theorem fold_mid (mo : Int) : ∀ (l : List WinV) (out : List Int) (at_ last : Int),
    (viewMid mo (20 * at_) l).foldl stepS (out, 20 * last) = ((l.foldl stepR (out, at_, last)).1, 20 * (l.foldl stepR (out, at_, last)).2.2) ∧ 20 * (l.foldl stepR (out, at_, last)).2.1 = 20 * at_ + sumT l
  | [], out, at_, last => by simp [viewMid, sumT]
  | w :: l, out, at_, last => by
    simp only [List.foldl_cons, sumT]
    unfold viewMid
    by_cases hk : 0 ≤ w.kind ∧ w.kind ≤ 2
    · rw [if_pos hk, List.foldl_cons]
      have hs : stepS (out, 20 * last) (w.slot (20 * at_) mo) = if w.kind = 2 then (out ++ [at_ + 2 - last], 20 * (at_ + 2)) else (out, 20 * last) := by
        unfold stepS
        rw [show (w.slot (20 * at_) mo).kind = w.kind from rfl, show (w.slot (20 * at_) mo).start = 20 * at_ from rfl]
        split
        · rw [show (20 * at_ + 40 - 20 * last) / 20 = at_ + 2 - last by omega, show 20 * at_ + 40 = 20 * (at_ + 2) by omega]
        · rfl
      rw [hs, show 20 * at_ + w.ticks = 20 * (at_ + w.len) by unfold WinV.ticks; omega]
      have hst : stepR (out, at_, last) w = if w.kind = 2 then (out ++ [at_ + 2 - last], at_ + w.len, at_ + 2) else (out, at_ + w.len, last) := rfl
      rw [hst]
      split
      · have := fold_mid mo l (out ++ [at_ + 2 - last]) (at_ + w.len) (at_ + 2)
        refine ⟨this.1, ?_⟩
        rw [this.2]; unfold WinV.ticks; omega
      · have := fold_mid mo l out (at_ + w.len) last
        refine ⟨this.1, ?_⟩
        rw [this.2]; unfold WinV.ticks; omega
    · rw [if_neg hk]
      have h0 := ticks_out hk
      have h1 : w.len = 0 := by unfold WinV.ticks at h0; omega
      have : stepR (out, at_, last) w = (out, at_, last) := by
        unfold stepR; rw [if_neg (by omega), h1]; simp
      rw [this]
      have := fold_mid mo l out at_ last
      refine ⟨this.1, ?_⟩
      rw [this.2, h0]; omega
theorem fold_all (v : Int) (l : List WinV) : (midL v l).foldl stepS ([], 60) = ((stR v l).1, 20 * (stR v l).2.2) ∧ startOf v + sumT l = 20 * (stR v l).2.1 := by
  have h := fold_mid (-1) l [] (10 + 2 * v) 3
  have e : startOf v = 20 * (10 + 2 * v) := rfl
  unfold midL
  rw [List.foldl_append, e]
  rw [show (60 : Int) = 20 * 3 from rfl, h.1]
  refine ⟨?_, h.2.symm⟩
  simp only [List.foldl_cons, List.foldl_nil]
  unfold stepS
  rw [if_neg (by show ¬ (4 : Int) = 2; omega)]; rfl
theorem mid_facts (mo : Int) : ∀ (l : List WinV) (ab : Int), 0 ≤ ab → ∀ x ∈ viewMid mo (20 * ab) l, x.kind ≠ 3 ∧ (0 ≤ x.long ∧ x.long ≤ 20000) ∧ ∃ sb, x.start = 20 * sb ∧ 0 ≤ sb ∧ sb ≤ ab + 1000 * l.length
  | [], ab, h0, x, hx => by simp [viewMid] at hx
  | w :: l, ab, h0, x, hx => by
    have hl := w.len_le
    have hrec : ∀ y ∈ viewMid mo (20 * (ab + w.len)) l, y.kind ≠ 3 ∧ (0 ≤ y.long ∧ y.long ≤ 20000) ∧ ∃ sb, y.start = 20 * sb ∧ 0 ≤ sb ∧ sb ≤ ab + 1000 * (w :: l).length := fun y hy => by
      obtain ⟨h1, h2, sb, h3, h4, h5⟩ := mid_facts mo l (ab + w.len) (by omega) y hy
      exact ⟨h1, h2, sb, h3, h4, by simp only [List.length_cons]; omega⟩
    unfold viewMid at hx
    split at hx
    · rename_i hk
      rcases List.mem_cons.1 hx with rfl | hx
      · exact ⟨by show w.kind ≠ 3; omega, by show 0 ≤ w.ticks ∧ w.ticks ≤ 20000; unfold WinV.ticks; omega, ab, rfl, h0, by omega⟩
      · exact hrec x (by rw [show 20 * (ab + w.len) = 20 * ab + w.ticks by unfold WinV.ticks; omega]; exact hx)
    · rename_i hk
      have h0' := ticks_out hk
      exact hrec x (by rw [show 20 * (ab + w.len) = 20 * ab by unfold WinV.ticks at h0'; omega]; exact hx)
theorem mid_all {v : Int} (hv : 0 ≤ v ∧ v < 2) (l : List WinV) : ∀ x ∈ midL v l, x.kind ≠ 3 ∧ (0 ≤ x.long ∧ x.long ≤ 20000) ∧ ∃ sb, x.start = 20 * sb ∧ 0 ≤ sb ∧ sb ≤ 12 + 1000 * l.length := by
  intro x hx
  unfold midL at hx
  rcases List.mem_append.1 hx with hx | hx
  · obtain ⟨h1, h2, sb, h3, h4, h5⟩ := mid_facts (-1) l (10 + 2 * v) (by omega) x hx
    exact ⟨h1, h2, sb, h3, h4, by omega⟩
  · simp only [List.mem_singleton] at hx
    subst hx
    have h := (fold_all v l).2
    have hb := stR_le hv l
    exact ⟨by show (4 : Int) ≠ 3; omega, by show (0 : Int) ≤ 120 ∧ (120 : Int) ≤ 20000; omega, (stR v l).2.1, h, by omega, by omega⟩
theorem midL_length (v : Int) (l : List WinV) : (midL v l).length ≤ l.length + 1 := by
  have := viewMid_length (-1) l (startOf v)
  simp [midL]; omega
/-- What was told of the first slots. -/
def stS (v : Int) (l : List WinV) (j : Nat) : List Int × Int := ((midL v l).take j).foldl stepS ([], 60)
theorem stS_succ {v : Int} {l : List WinV} {j : Nat} {x : SlotV} (h : (midL v l)[j]? = some x) : stS v l (j + 1) = stepS (stS v l j) x := by
  unfold stS; rw [take_step h, List.foldl_append]; rfl
theorem stS_last {v : Int} (hv : 0 ≤ v ∧ v < 2) (l : List WinV) : ∀ j, j ≤ (midL v l).length → (stS v l j).1.length ≤ j ∧ ∃ lb, (stS v l j).2 = 20 * lb ∧ 0 ≤ lb ∧ lb ≤ 14 + 1000 * l.length := by
  intro j
  induction j with
  | zero => intro _; exact ⟨by simp [stS], 3, rfl, by omega, by omega⟩
  | succ j ih =>
    intro hj
    obtain ⟨h1, lb, h2, h3, h4⟩ := ih (by omega)
    obtain ⟨x, hx⟩ := get_some (l := midL v l) (i := j) (by omega)
    obtain ⟨_, _, sb, g1, g2, g3⟩ := mid_all hv l x (List.mem_of_getElem? hx)
    rw [stS_succ hx]
    unfold stepS
    split
    · exact ⟨by simp; omega, sb + 2, by rw [g1]; show 20 * sb + 40 = _; omega, by omega, by omega⟩
    · exact ⟨by omega, lb, h2, h3, h4⟩
end
end Go.Proofs.Ytcddhbhdpleppaa.R
