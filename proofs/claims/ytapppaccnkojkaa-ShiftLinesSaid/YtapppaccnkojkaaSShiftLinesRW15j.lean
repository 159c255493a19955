/- Looks that are counted by a map, and one shift for all looks. No conditions. -/
import Derived.Test.YtapppaccnkojkaaSShiftLinesRW15i
import Derived.Test.YtapppaccnkojkaaRMap
import Derived.Test.YtapppaccnkojkaaRApp
import Derived.Test.YtapppaccnkojkaaREq
import Derived.DeepKeys3
set_option linter.unusedVariables false
set_option linter.unusedSimpArgs false
namespace Go.Proofs.Ytapppaccnkojkaa.R
open Go Go.RowKit Go.Proofs.Ytapppaccnkojkaa
set_option maxRecDepth 100000
set_option maxHeartbeats 8000000
section
variable {W0 : World}
def encP (p : Int × Int) : Value := .agg #[.int .i64 p.1, .int .i64 p.2]
def okP (p : Int × Int) : Prop := (-9223372036854775808 ≤ p.1 ∧ p.1 ≤ 9223372036854775807) ∧ (-9223372036854775808 ≤ p.2 ∧ p.2 ≤ 9223372036854775807)
theorem keyPair : KeyT Try.prog 53 encP okP := by
  have hu : Try.prog.underlying 53 = some (.array 2 3) := by kernel_rfl
  have hk : Try.prog.keyType 53 = true := by kernel_rfl
  have hc : Try.prog.cellsOf 53 = 2 := by kernel_rfl
  have hs : kinds Try.prog (Try.prog.types.size + 1) 53 = some [.i .i64, .i .i64] := by kernel_rfl
  refine ⟨Maps.Keyed.of_law (deep_law (m := 3) (by omega) (by kernel_rfl) (by kernel_rfl) (by rw [hu])), fun a ha => ?_, fun a b e => ?_⟩
  · have hf : fitsL [.i .i64, .i .i64] [.int .i64 a.1, .int .i64 a.2] = true := by
      simp only [fitsL, fits_i64 ha.1, fits_i64 ha.2, Bool.and_self]
    have hl := keyLits_fits _ _ _ _ hs hf
    have hfm : (encP a).formed Try.prog 53 = true := by
      unfold encP Value.formed
      simp only [hu, beq_iff_eq]
      rw [hc]; rfl
    have hr : keyOf Try.prog 53 (encP a) = some (.string (keyBytes ([Value.int .i64 a.1, .int .i64 a.2].map litV))) := by
      unfold keyOf
      simp only [hu, hk, hfm, Bool.and_self, ↓reduceIte]
      rw [show (encP a).cells.toList = [.int .i64 a.1, .int .i64 a.2] from rfl, hl]; rfl
    exact ⟨_, hr⟩
  · unfold encP at e
    simp only [Value.agg.injEq, Array.mk.injEq, List.cons.injEq, Value.int.injEq, true_and, and_true] at e
    exact Prod.ext e.1 e.2
/-- A map that holds just what was looked at. -/
structure Cnt (ls : List (Lk × Lk)) (km : List ((Int × Int) × Value)) : Prop where
  mem0 : ∀ (q : Nat) (x : Lk × Lk), ls[q]? = some x → (((q : Int), (0 : Int)) ∈ km.map (·.1) ↔ x.1.seen = true)
  mem1 : ∀ (q : Nat) (x : Lk × Lk), ls[q]? = some x → (((q : Int), (1 : Int)) ∈ km.map (·.1) ↔ x.2.seen = true)
  len : km.length = seenN ls
theorem seenN_set : ∀ {ls : List (Lk × Lk)} {q : Nat} {x z : Lk × Lk}, ls[q]? = some x → seenN (ls.set q z) + lkN x = seenN ls + lkN z
  | [], q, x, z, h => by simp at h
  | y :: l, 0, x, z, h => by
    simp at h; subst h
    simp [seenN]; omega
  | y :: l, q + 1, x, z, h => by
    simp only [List.getElem?_cons_succ] at h
    have := seenN_set (z := z) h
    simp only [seenN, List.set_cons_succ, List.map_cons, List.sum_cons] at *
    omega
theorem cnt_zero (k : Nat) : Cnt (List.replicate k (lk0, lk0)) [] := by
  have hs : ∀ k, seenN (List.replicate k (lk0, lk0)) = 0 := fun k => by
    induction k with
    | zero => rfl
    | succ k ih => simp only [seenN, List.replicate_succ, List.map_cons, List.sum_cons] at *; rw [ih]; rfl
  refine ⟨fun q x h => ?_, fun q x h => ?_, by rw [hs]; rfl⟩
  all_goals
    rw [List.getElem?_replicate] at h
    split at h
    · cases h; simp [lk0]
    · cases h
theorem cnt_put {ls : List (Lk × Lk)} {km : List ((Int × Int) × Value)} (h : Cnt ls km) {q : Nat} {x y : Lk} (hx : ls[q]? = some (x, y)) (sec : Bool) (l : Int) (v : Value) :
    Cnt (putL ls q sec l) (mput km ((q : Int), if sec then 1 else 0) v) := by
  have hq := (List.getElem?_eq_some_iff.1 hx).1
  have h0 := h.mem0 q _ hx
  have h1 := h.mem1 q _ hx
  rw [putL_in hx]
  refine ⟨fun n z hz => ?_, fun n z hz => ?_, ?_⟩
  · rw [mem_mput]
    rw [List.getElem?_set] at hz
    by_cases e : q = n
    · subst e
      rw [if_pos rfl, if_pos hq] at hz
      cases hz
      cases sec
      · simp [sayLk]
      · simp only [↓reduceIte]; rw [h0]; simp
    · rw [if_neg e] at hz
      rw [h.mem0 n z hz]
      constructor
      · rintro (hh | hh)
        · simp only [Prod.mk.injEq] at hh; omega
        · exact hh
      · exact .inr
  · rw [mem_mput]
    rw [List.getElem?_set] at hz
    by_cases e : q = n
    · subst e
      rw [if_pos rfl, if_pos hq] at hz
      cases hz
      cases sec
      · simp only [Bool.false_eq_true, ↓reduceIte]; rw [h1]; simp
      · simp [sayLk]
    · rw [if_neg e] at hz
      rw [h.mem1 n z hz]
      constructor
      · rintro (hh | hh)
        · simp only [Prod.mk.injEq] at hh; omega
        · exact hh
      · exact .inr
  · have hs := seenN_set (z := if sec then (x, sayLk l) else (sayLk l, y)) hx
    rw [mput_length, h.len]
    cases sec
    · simp only [Bool.false_eq_true, ↓reduceIte] at hs ⊢
      by_cases e : x.seen = true
      · rw [if_pos (h0.2 e)]
        have e1 : lkN (x, y) = lkN (sayLk l, y) := by unfold lkN; rw [show ((x, y) : Lk × Lk).1.seen = true from e]; rfl
        omega
      · rw [if_neg (fun hh => e (h0.1 hh))]
        have e1 : lkN (sayLk l, y) = lkN (x, y) + 1 := by
          unfold lkN; rw [if_neg (show ¬ ((x, y) : Lk × Lk).1.seen = true from e), if_pos (show ((sayLk l, y) : Lk × Lk).1.seen = true from rfl)]
          show 1 + (if y.seen = true then 1 else 0) = (0 + (if y.seen = true then 1 else 0)) + 1
          omega
        omega
    · simp only [↓reduceIte] at hs ⊢
      by_cases e : y.seen = true
      · rw [if_pos (h1.2 e)]
        have e1 : lkN (x, y) = lkN (x, sayLk l) := by unfold lkN; rw [show ((x, y) : Lk × Lk).2.seen = true from e]; rfl
        omega
      · rw [if_neg (fun hh => e (h1.1 hh))]
        have e1 : lkN (x, sayLk l) = lkN (x, y) + 1 := by
          unfold lkN; rw [if_neg (show ¬ ((x, y) : Lk × Lk).2.seen = true from e), if_pos (show ((x, sayLk l) : Lk × Lk).2.seen = true from rfl)]
        omega
theorem Shf.keep {m m' : Mem} {b g : Nat} {ls : List (Lk × Lk)} (s : Shf W0 m b g ls) {r : Option Nat} (k : Keep m m' r) (h1 : r ≠ some b) (h2 : r ≠ some g) : Shf W0 m' b g ls := ⟨s.low, k _ _ s.blk h1, s.glow, k _ _ s.gblk h2, s.ne, s.le⟩
/-- What was known stays so when an own slice grows. -/
theorem Shf.grow {m m' : Mem} {b g : Nat} {ls : List (Lk × Lk)} (s : Shf W0 m b g ls) {v v' : Value} (k : ∀ b o, m b = some o → v.ownBlock ≠ some b → m' b = some o ∧ v'.ownBlock ≠ some b) (h1 : v.ownBlock ≠ some b) (h2 : v.ownBlock ≠ some g) :
    Shf W0 m' b g ls ∧ v'.ownBlock ≠ some b ∧ v'.ownBlock ≠ some g :=
  ⟨⟨s.low, (k _ _ s.blk h1).1, s.glow, (k _ _ s.gblk h2).1, s.ne, s.le⟩, (k _ _ s.blk h1).2, (k _ _ s.gblk h2).2⟩
theorem MapS.grow {α : Type} {enc : α → Value} {ok : α → Prop} {m m' : Mem} {r : Nat} {l : List (α × Value)} (s : MapS W0 m r enc ok l) {v v' : Value} (k : ∀ b o, m b = some o → v.ownBlock ≠ some b → m' b = some o ∧ v'.ownBlock ≠ some b) (h1 : v.ownBlock ≠ some r) :
    MapS W0 m' r enc ok l ∧ v'.ownBlock ≠ some r := by
  obtain ⟨es, clock, hm, he⟩ := s.blk
  exact ⟨⟨s.low, ⟨es, clock, (k _ _ hm h1).1, he⟩, s.oks, s.nod⟩, (k _ _ hm h1).2⟩
end
end Go.Proofs.Ytapppaccnkojkaa.R
