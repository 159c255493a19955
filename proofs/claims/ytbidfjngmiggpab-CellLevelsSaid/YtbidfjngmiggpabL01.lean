/- Plain facts about the printed functions of layer 1 (cell). -/
import Derived.Test.YtbidfjngmiggpabPBase
import Derived.Test.YtbidfjngmiggpabQx13
import Derived.Test.YtbidfjngmiggpabQx14
import Derived.Test.YtbidfjngmiggpabQx16
import Derived.Test.YtbidfjngmiggpabQx18
import Derived.Test.YtbidfjngmiggpabQx19
import Derived.Test.YtbidfjngmiggpabQx20
import Derived.Test.YtbidfjngmiggpabQx21
set_option linter.unusedVariables false
set_option linter.unusedSimpArgs false
namespace Go.Proofs.Ytbidfjngmiggpab.L01
open Go Go.RowKit Go.Proofs.YtbidfjngmiggpabW.PrintWords Go.Proofs.YtbidfjngmiggpabW.PrintLast Go.Proofs.YtbidfjngmiggpabW.PrintMore Go.Proofs.Ytbidfjngmiggpab.Q Go.Proofs.Ytbidfjngmiggpab.PBase

def lev (b : Bool) (j : Nat) : Bool := if j < 10 then b else !b
theorem Level_is (b : Bool) (j : Nat) (h : j < 20) (k : Nat) : cell_Level.f (k + 1) b (j : Int) = some (lev b j) := by
  unfold cell_Level.f lev
  simp only [cell_Level.j0]
  rw [if_neg (by omega)]
  by_cases h1 : j < 10
  · simp [h1, show ¬ (20 : Int) ≤ (j : Int) by omega, show (j : Int) < 10 by omega]
  · simp [h1, show ¬ (20 : Int) ≤ (j : Int) by omega, show ¬ (j : Int) < 10 by omega]
theorem Look_is (n : Nat) (second : Bool) (h : n ≤ 1099511627776) (k : Nat) : cell_Look.f (k + 1) (n : Int) second = some ((20 * n + (if second then 15 else 5) : Nat) : Int) := by
  unfold cell_Look.f
  simp only [cell_Look.j0]
  rw [if_neg (by omega)]
  have e1 : decide ((n : Int) > 1099511627776) = false := decide_eq_false (by omega)
  rw [e1]
  have w1 : wrap64 (20 * (n : Int)) = 20 * n := w64 _ (by omega) (by omega)
  have w2 : wrap64 (20 * (n : Int) + 5) = 20 * n + 5 := w64 _ (by omega) (by omega)
  have w3 : wrap64 (20 * (n : Int) + 5 + 10) = 20 * n + 15 := by rw [w64 _ (by omega) (by omega)]; omega
  cases second
  · simp [w1, w2]
  · simp [w1, w2, w3]

/-! ### Wave -/
def cellOf (b : Bool) : List Bool := (List.range 20).map (lev b)
def wave : List Bool → List Bool
  | [] => []
  | b :: r => cellOf b ++ wave r
theorem cellOf_length (b : Bool) : (cellOf b).length = 20 := by simp [cellOf]
theorem wave_length : ∀ l : List Bool, (wave l).length = 20 * l.length
  | [] => rfl
  | b :: r => by rw [wave, List.length_append, cellOf_length, wave_length r, List.length_cons]; omega
theorem cellOf_get (b : Bool) (j : Nat) (h : j < 20) : (cellOf b).getD j false = lev b j := by
  simp [cellOf, List.getD_eq_getElem?_getD, List.getElem?_range h]
theorem wave_get : ∀ (l : List Bool) (n j : Nat), n < l.length → j < 20 → (wave l).getD (20 * n + j) false = lev (l.getD n false) j
  | [], n, j, h, _ => by simp at h
  | b :: r, 0, j, h, hj => by
    rw [wave, List.getD_eq_getElem?_getD, List.getElem?_append_left (by rw [cellOf_length]; omega), ← List.getD_eq_getElem?_getD, show 20 * 0 + j = j by omega, cellOf_get b j hj]
    rfl
  | b :: r, n + 1, j, h, hj => by
    rw [wave, List.getD_eq_getElem?_getD, List.getElem?_append_right (by rw [cellOf_length]; omega), cellOf_length, show 20 * (n + 1) + j - 20 = 20 * n + j by omega, ← List.getD_eq_getElem?_getD, wave_get r n j (by simpa using h) hj]
    rfl
theorem Wave_l1 (b : Bool) (bits : List Bool) (N n : Int) (r : List Bool) : ∀ (d j : Nat) (x3 : List Bool), j + d = 20 → x3.length + d < 140737488355328 →
    Ev (fun k => cell_Wave.l0 k (x3 ++ (List.range' j d).map (lev b)) bits N (wrap64 (n + 1))) r → Ev (fun k => cell_Wave.l1 k x3 b bits N n (j : Int)) r
  | 0, j, x3, hj, hl, h => by
    refine Ev.step (f := fun k => cell_Wave.l0 k x3 bits N (wrap64 (n + 1))) (fun k => ?_) (by simpa using h)
    simp only [cell_Wave.l1]
    rw [if_neg (by omega)]
  | d + 1, j, x3, hj, hl, h => by
    refine Ev.step (f := fun k => (cell_Level.f k b (j : Int)).bind fun t => if x3.length < 140737488355328 then cell_Wave.l1 k (x3 ++ [t]) b bits N n (wrap64 ((j : Int) + 1)) else none) (fun k => ?_) ?_
    · simp only [cell_Wave.l1]
      rw [if_pos (by omega)]
    · refine Ev.bind (a := lev b j) (Ev.step (f := fun _ => some (lev b j)) (fun k => Level_is b j (by omega) k) (Ev.now _)) ?_
      simp only [if_pos (show x3.length < 140737488355328 by omega), w64 ((j : Int) + 1) (by omega) (by omega)]
      have := Wave_l1 b bits N n r d (j + 1) (x3 ++ [lev b j]) (by omega) (by simp; omega) (by
        rw [List.append_assoc]
        simpa [List.range'_succ] using h)
      simpa using this
theorem Wave_l0 (bits : List Bool) (hb : bits.length ≤ 1099511627776) : ∀ (d n : Nat) (x3 : List Bool), n + d = bits.length → x3.length = 20 * n →
    Ev (fun k => cell_Wave.l0 k x3 bits (bits.length : Int) (n : Int)) (x3 ++ wave (bits.drop n))
  | 0, n, x3, hn, hl => by
    refine Ev.step (f := fun _ => some x3) (fun k => ?_) (by rw [List.drop_of_length_le (by omega)]; simp only [wave, List.append_nil]; exact Ev.now _)
    simp only [cell_Wave.l0]
    rw [if_neg (by omega)]
  | d + 1, n, x3, hn, hl => by
    have hlt : n < bits.length := by omega
    refine Ev.step (f := fun k => cell_Wave.l1 k x3 (rdOf false bits (n : Int)) bits (bits.length : Int) (n : Int) 0) (fun k => ?_) ?_
    · simp only [cell_Wave.l0]
      rw [if_pos (by omega), if_pos (by omega), if_pos (by omega)]
    · refine Wave_l1 _ bits _ _ _ 20 0 x3 (by omega) (by omega) ?_
      rw [w64 _ (by omega) (by omega)]
      have := Wave_l0 bits hb d (n + 1) (x3 ++ cellOf (rdOf false bits (n : Int))) (by omega) (by rw [List.length_append, cellOf_length]; omega)
      have e : bits.drop n = rdOf false bits (n : Int) :: bits.drop (n + 1) := by
        rw [rdOf_nat, List.drop_eq_getElem_cons hlt, List.getD_eq_getElem?_getD, List.getElem?_eq_getElem hlt]
        rfl
      rw [e, wave, ← List.append_assoc]
      simpa [cellOf, List.range_eq_range'] using this
theorem Wave_is (bits : List Bool) (hb : bits.length ≤ 1099511627776) : Ev (fun k => cell_Wave.f k bits) (wave bits) := by
  have := Wave_l0 bits hb bits.length 0 [] (by omega) (by simp)
  simpa [cell_Wave.f] using this

/-! ### Read -/
def okAt (l : List Bool) (m : Int) (n : Nat) : Prop := 0 ≤ 20 * (n : Int) + 5 + m ∧ 20 * (n : Int) + 15 + m < l.length ∧ rdOf false l (20 * (n : Int) + 5 + m) ≠ rdOf false l (20 * (n : Int) + 15 + m)
instance (l : List Bool) (m : Int) (n : Nat) : Decidable (okAt l m n) := by unfold okAt; exact inferInstance
def readFrom (l : List Bool) (m : Int) : List Bool → Nat → Nat → List Bool × Bool
  | acc, n, 0 => (acc, true)
  | acc, n, d + 1 => if okAt l m n then readFrom l m (acc ++ [rdOf false l (20 * (n : Int) + 5 + m)]) (n + 1) d else ([], false)
theorem stands_is (l : List Bool) (look m : Int) (h0 : 0 ≤ look) (h1 : look ≤ 1000000000000000) (hl : l.length ≤ 1000000000000000) :
    cell_stands.f l look m = some (if -look ≤ m ∧ m < l.length - look then (rdOf false l (look + m), true) else (false, false)) := by
  unfold cell_stands.f
  rw [w64 (-look) (by omega) (by omega), w64 (l.length - look) (by omega) (by omega)]
  by_cases c1 : m < -look
  · rw [if_pos c1, if_neg (by omega)]
  · rw [if_neg c1]
    by_cases c2 : m ≥ l.length - look
    · rw [if_pos c2, if_neg (by omega)]
    · rw [if_neg c2, w64 (look + m) (by omega) (by omega), if_pos (by omega), if_pos (by omega), if_pos (by omega)]
/-- One cell's two looks, as the code takes them. -/
def stepOf (l : List Bool) (m : Int) (a b : Int) : Option Bool :=
  if (-a ≤ m ∧ m < l.length - a) ∧ (-b ≤ m ∧ m < l.length - b) ∧ rdOf false l (a + m) ≠ rdOf false l (b + m) then some (rdOf false l (a + m)) else none
theorem Read_step (l : List Bool) (m : Int) (hl : l.length ≤ 1000000000000) (N n : Int) (acc : List Bool) (k : Nat) (a b : Int) (ha0 : 0 ≤ a) (ha1 : a ≤ 1000000000000) (hb0 : 0 ≤ b) (hb1 : b ≤ 1000000000000)
    (hn : n < N) (ha : cell_Look.f k n false = some a) (hb : cell_Look.f k n true = some b) (hacc : acc.length < 140737488355328) :
    cell_Read.l0 (k + 1) l m acc N n = match stepOf l m a b with | some x => cell_Read.l0 k l m (acc ++ [x]) N (wrap64 (n + 1)) | none => some ([], false) := by
  have hs1 := stands_is l a m ha0 (by omega) (by omega)
  have hs2 := stands_is l b m hb0 (by omega) (by omega)
  rw [cell_Read.l0, if_pos hn, ha, hb]
  simp only [Option.bind_some, hs1, hs2]
  unfold stepOf cell_Of.f
  by_cases c1 : -a ≤ m ∧ m < l.length - a
  · by_cases c2 : -b ≤ m ∧ m < l.length - b
    · by_cases c3 : rdOf false l (a + m) = rdOf false l (b + m)
      · simp [c1, c2, c3]
      · simp [c1, c2, c3, hacc]
    · have e : ¬ ((-a ≤ m ∧ m < l.length - a) ∧ (-b ≤ m ∧ m < l.length - b) ∧ rdOf false l (a + m) ≠ rdOf false l (b + m)) := fun h => c2 h.2.1
      simp only [if_pos c1, if_neg c2, if_neg e]
      cases rdOf false l (a + m) <;> simp
  · have e : ¬ ((-a ≤ m ∧ m < l.length - a) ∧ (-b ≤ m ∧ m < l.length - b) ∧ rdOf false l (a + m) ≠ rdOf false l (b + m)) := fun h => c1 h.1
    simp only [if_neg c1, if_neg e]
    split
    · cases rdOf false l (b + m) <;> simp
    · simp
theorem stepOf_ok (l : List Bool) (m : Int) (n : Nat) : stepOf l m ((20 * n + 5 : Nat) : Int) ((20 * n + 15 : Nat) : Int) = if okAt l m n then some (rdOf false l (20 * (n : Int) + 5 + m)) else none := by
  unfold stepOf
  rw [show ((20 * n + 5 : Nat) : Int) = 20 * (n : Int) + 5 by omega, show ((20 * n + 15 : Nat) : Int) = 20 * (n : Int) + 15 by omega]
  by_cases h : okAt l m n
  · have g := h
    obtain ⟨o1, o2, o3⟩ := g
    rw [if_pos h, if_pos ⟨by omega, by omega, o3⟩]
  · rw [if_neg h, if_neg (fun g => h ⟨by omega, by omega, g.2.2⟩)]
theorem Read_l0 (l : List Bool) (m : Int) (hl : l.length ≤ 1000000000000) : ∀ (d n : Nat) (acc : List Bool), n + d = l.length / 20 → acc.length = n →
    Ev (fun k => cell_Read.l0 k l m acc ((l.length / 20 : Nat) : Int) (n : Int)) (readFrom l m acc n d) := by
  intro d
  induction d with
  | zero =>
    intro n acc hn ha
    refine Ev.step (f := fun _ => some (acc, true)) (fun k => ?_) (Ev.now _)
    simp only [cell_Read.l0]
    rw [if_neg (by omega)]
  | succ d ih =>
    intro n acc hn ha
    have hL : n ≤ 1099511627776 := by omega
    have w1 : wrap64 ((n : Int) + 1) = ((n + 1 : Nat) : Int) := by rw [w64 _ (by omega) (by omega)]; omega
    have st := fun k => Read_step l m hl ((l.length / 20 : Nat) : Int) (n : Int) acc (k + 1) ((20 * n + 5 : Nat) : Int) ((20 * n + 15 : Nat) : Int) (by omega) (by omega) (by omega) (by omega) (by omega) (Look_is n false hL k) (Look_is n true hL k) (by omega)
    rw [stepOf_ok, w1] at st
    by_cases hok : okAt l m n
    · obtain ⟨K, hK⟩ := ih (n + 1) (acc ++ [rdOf false l (20 * (n : Int) + 5 + m)]) (by omega) (by simp [ha])
      refine ⟨K + 2, fun k hk => ?_⟩
      obtain ⟨k, rfl⟩ : ∃ q, k = q + 2 := ⟨k - 2, by omega⟩
      refine (st k).trans ?_
      rw [if_pos hok, readFrom, if_pos hok]
      exact hK (k + 1) (by omega)
    · refine ⟨2, fun k hk => ?_⟩
      obtain ⟨k, rfl⟩ : ∃ q, k = q + 2 := ⟨k - 2, by omega⟩
      refine (st k).trans ?_
      rw [if_neg hok, readFrom, if_neg hok]
def readOf (l : List Bool) (m : Int) : List Bool × Bool := readFrom l m [] 0 (l.length / 20)
theorem Read_is (l : List Bool) (m : Int) (hl : l.length ≤ 1000000000000) : Ev (fun k => cell_Read.f k l m) (readOf l m) := by
  have := Read_l0 l m hl (l.length / 20) 0 [] (by omega) rfl
  unfold cell_Read.f
  rw [w64 _ (by omega) (by omega)]
  simpa [readOf] using this
theorem one_is : Ev (fun k => busbarlaw01_one.f k) true := by
  refine Ev.of (fun k => busbarlaw01_one.mono k) (k := 60) ?_
  decide +kernel
/-- Where all looks are right: what was read. -/
theorem readFrom_ok (l : List Bool) (m : Int) : ∀ (d n : Nat) (acc : List Bool), (∀ i, n ≤ i → i < n + d → okAt l m i) → readFrom l m acc n d = (acc ++ (List.range' n d).map (fun (i : Nat) => rdOf false l (20 * (i : Int) + 5 + m)), true)
  | 0, n, acc, h => by simp [readFrom]
  | d + 1, n, acc, h => by
    rw [readFrom, if_pos (h n (by omega) (by omega)), readFrom_ok l m d (n + 1) _ (fun i h1 h2 => h i (by omega) (by omega))]
    simp [List.range'_succ]
theorem readFrom_bad (l : List Bool) (m : Int) : ∀ (d n : Nat) (acc : List Bool) (i : Nat), n ≤ i → i < n + d → ¬ okAt l m i → readFrom l m acc n d = ([], false)
  | 0, n, acc, i, h1, h2, _ => by omega
  | d + 1, n, acc, i, h1, h2, h3 => by
    rw [readFrom]
    by_cases h : okAt l m n
    · rw [if_pos h]
      have : n ≠ i := fun e => h3 (e ▸ h)
      exact readFrom_bad l m d (n + 1) _ i (by omega) (by omega) h3
    · rw [if_neg h]
end Go.Proofs.Ytbidfjngmiggpab.L01
