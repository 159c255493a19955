/- Slices of a call's own, and slices that are read, over the logic of partial memories. No conditions. -/
import Derived.Test.YtcddhbhdpleppaaRSimp
import Derived.Laws.AppendOwn
import Derived.Laws.MakeOwn
import Derived.Laws.OwnMore
namespace Go.Proofs.Ytcddhbhdpleppaa.R
open Go Go.RowKit
set_option linter.unusedVariables false
set_option linter.unusedSimpArgs false
section
variable {P : Program} {W0 : World}

theorem cellA_ext {m m' : Mem} (h : Ext m m') {a : Addr} {v : Value} (hc : cellA W0 m a = some v) : cellA W0 m' a = some v := by
  unfold cellA at hc ⊢
  split
  · rename_i hlt; rw [if_pos hlt] at hc; exact hc
  · rename_i hlt
    rw [if_neg hlt] at hc
    cases hm : m a.block with
    | none => simp [hm] at hc
    | some o => rw [hm] at hc; rw [h _ _ hm]; exact hc
/-- All but one block (or none) is as it was. -/
def Keep (m m' : Mem) (r : Option Nat) : Prop := ∀ k o, m k = some o → r ≠ some k → m' k = some o
theorem Ext.keep {m m' : Mem} (h : Ext m m') (r : Option Nat) : Keep m m' r := fun k o e _ => h k o e
theorem Keep.ext {m m' : Mem} (h : Keep m m' none) : Ext m m' := fun k o e => h k o e (by simp)
theorem Keep.trans {a b c : Mem} {r : Option Nat} (h : Keep a b r) (k : Keep b c r) : Keep a c r := fun x o e hx => k x o (h x o e hx) hx
theorem Keep.refl (m : Mem) (r : Option Nat) : Keep m m r := fun _ _ e _ => e
theorem Keep.set (m : Mem) (b : Nat) (o : Obj) : Keep m (m.set b o) (some b) := fun k u e hk => by rw [Mem.set_ne _ _ _ (fun h => hk (by rw [h]))]; exact e
theorem Ext.fresh {m : Mem} {b : Nat} (h : Fresh W0 m b) (o : Obj) : Ext m (m.set b o) := (Ext.refl m).set h.no o
/-- A slice that reads as a list of cells. -/
def RS (W0 : World) (m : Mem) (v : Value) (size n : Nat) (xs : List Value) : Prop := xs.length = n * size ∧ ∃ A c, v = .slice A n c ∧ (xs = [] ∨ ∃ a, A = some a ∧ ∀ j u, xs[j]? = some u → cellA W0 m (a.add j) = some u)
theorem RS.ext {m m' : Mem} {v : Value} {size n : Nat} {xs : List Value} (h : RS W0 m v size n xs) (e : Ext m m') : RS W0 m' v size n xs := by
  obtain ⟨h1, A, c, h2, h3⟩ := h
  exact ⟨h1, A, c, h2, h3.imp id fun ⟨a, g1, g2⟩ => ⟨a, g1, fun j u hj => cellA_ext e (g2 j u hj)⟩⟩
/-- A slice of the call's own: nil, or from a block's head on. -/
def OwnS (W0 : World) (m : Mem) (e : TypeId) (size : Nat) (v : Value) (n : Nat) (xs : List Value) : Prop :=
  xs.length = n * size ∧ ((v = .slice none 0 0 ∧ n = 0) ∨
   ∃ g cap cur, v = .slice (some ⟨g, 0, none⟩) n cap ∧ W0.heap.size ≤ g ∧ m g = some (.cells cur e) ∧ n ≤ cap ∧ cap ≤ maxLen ∧ cur.size = cap * size ∧ cur.toList.take (n * size) = xs)
theorem OwnS.nil (m : Mem) (e : TypeId) (size : Nat) : OwnS W0 m e size (.slice none 0 0) 0 [] := ⟨by simp, .inl ⟨rfl, rfl⟩⟩
theorem OwnS.keep {m m' : Mem} {e : TypeId} {size n : Nat} {v : Value} {xs : List Value} (h : OwnS W0 m e size v n xs) {r : Option Nat} (k : Keep m m' r) (hr : v.ownBlock ≠ r ∨ r = none) : OwnS W0 m' e size v n xs := by
  refine ⟨h.1, h.2.imp id ?_⟩
  rintro ⟨g, cap, cur, hv, hg, hm, rest⟩
  refine ⟨g, cap, cur, hv, hg, k _ _ hm ?_, rest⟩
  subst hv
  rcases hr with hr | hr
  · exact fun e => hr (by rw [e]; rfl)
  · rw [hr]; simp
theorem OwnS.ext {m m' : Mem} {e : TypeId} {size n : Nat} {v : Value} {xs : List Value} (h : OwnS W0 m e size v n xs) (k : Ext m m') : OwnS W0 m' e size v n xs := h.keep (k.keep none) (.inr rfl)
theorem add_zero' (a : Addr) : a.add 0 = a := by simp [Addr.add]
theorem add_lit' (b o n : Nat) : (⟨b, o, none⟩ : Addr).add n = ⟨b, o + n, none⟩ := by unfold Addr.add; split <;> simp_all
theorem OwnS.reads {m : Mem} {e : TypeId} {size n : Nat} {v : Value} {xs : List Value} (h : OwnS W0 m e size v n xs) : RS W0 m v size n xs := by
  obtain ⟨h1, h2⟩ := h
  refine ⟨h1, ?_⟩
  rcases h2 with ⟨hv, hn⟩ | ⟨g, cap, cur, hv, hg, hm, _, _, hc, ht⟩
  · subst hn; exact ⟨_, _, hv, .inl (List.eq_nil_of_length_eq_zero (by simpa using h1))⟩
  · refine ⟨_, _, hv, .inr ⟨_, rfl, fun j u hj => ?_⟩⟩
    rw [add_lit']
    refine cellA_own hg hm ?_
    rw [← ht, List.getElem?_take] at hj
    split at hj
    · simpa using hj
    · cases hj
theorem OwnS.world {m : Mem} {w : World} {e : TypeId} {size n : Nat} {v : Value} {xs : List Value} (hw : Sub W0 m w) (h : OwnS W0 m e size v n xs) : w.ownsRow W0.heap.size e size v n xs :=
  ⟨h.1, h.2.imp id fun ⟨g, cap, cur, h1, h2, h3, rest⟩ => ⟨g, cap, cur, h1, h2, (hw.own _ _ h3).2, rest⟩⟩
theorem info_of {e : TypeId} {size bytes : Nat} {z : Array Value} (hs : szOf P e = some size) (hz : zeroOf P e = some z) (hb : bytesA P e = some bytes) :
    ∃ i v, P.info? e = some i ∧ i.zero = some v ∧ i.size = size ∧ i.bytes = bytes ∧ v.cells = z := by
  unfold szOf at hs; unfold zeroOf at hz; unfold bytesA at hb
  cases hi : P.info? e with
  | none => simp [hi] at hs
  | some i =>
    simp [hi] at hs hb hz
    obtain ⟨v, h1, h2⟩ := hz
    exact ⟨i, v, rfl, h1, hs, hb, h2⟩
/-- From a world that has grown back to what is known. -/
theorem Sub.grown {m : Mem} {w w' : World} {e : TypeId} {size n n' : Nat} {v v' : Value} {xs ys : List Value} (hw : Sub W0 m w) (hown : OwnS W0 m e size v n xs) (h2 : w'.ownsRow W0.heap.size e size v' n' ys) (h3 : w.grownBy w' v.ownBlock) :
    ∃ m', Sub W0 m' w' ∧ OwnS W0 m' e size v' n' ys ∧ Keep m m' v.ownBlock := by
  have hlt : ∀ k o, m k = some o → k < w.heap.size := fun k o hk => (Array.getElem?_eq_some_iff.1 (hw.own k o hk).2).1
  have hge : ∀ k, v.ownBlock = some k → W0.heap.size ≤ k := fun k hk => by
    rcases hown.2 with ⟨hv, _⟩ | ⟨g, cap, cur, hv, hg, _⟩
    · subst hv; cases hk
    · subst hv; cases hk; exact hg
  have hbel : Below W0.heap.size W0 w' := hw.old.trans ⟨h3.os, h3.tape, h3.output, h3.size, fun k hk => h3.block k (by have := hw.old.size; omega) (fun e => by have := hge k e.symm; omega)⟩
  rcases h2 with ⟨hl, ⟨hv, hn⟩ | ⟨g, cap, cur, hv, hg, hh, rest⟩⟩
  · refine ⟨fun k => if v.ownBlock = some k then none else m k, ⟨hbel, fun b o hb => ?_⟩, ⟨hl, .inl ⟨hv, hn⟩⟩, fun k o hk hne => by simp only [if_neg hne]; exact hk⟩
    split at hb
    · cases hb
    · rename_i hne
      exact ⟨(hw.own _ _ hb).1, by rw [h3.block b (hlt _ _ hb) (Ne.symm hne)]; exact (hw.own _ _ hb).2⟩
  · refine ⟨fun k => if k = g then some (.cells cur e) else if v.ownBlock = some k then none else m k, ⟨hbel, fun b o hb => ?_⟩, ⟨hl, .inr ⟨g, cap, cur, hv, hg, by simp, rest⟩⟩, fun k o hk hne => ?_⟩
    · split at hb
      · rename_i e; subst e; cases hb; exact ⟨hg, hh⟩
      · split at hb
        · cases hb
        · rename_i hne
          exact ⟨(hw.own _ _ hb).1, by rw [h3.block b (hlt _ _ hb) (Ne.symm hne)]; exact (hw.own _ _ hb).2⟩
    · by_cases e : k = g
      · simp only [if_pos e]
        subst e
        have h4 := h3.block k (hlt _ _ hk) (Ne.symm hne)
        rw [hh, (hw.own _ _ hk).2] at h4
        exact h4
      · simp only [if_neg e, if_neg hne]; exact hk
theorem append_block {base : Nat} {t ty e : TypeId} {i : TypeInfo} {z : Value} {size bytes : Nat} {w w' : World} (ht : P.underlying t = some (.slice e)) (hi : P.info? e = some i) (hz : i.zero = some z)
    (hsize : i.size = size) (hby : i.bytes = bytes) {v v' : Value} {n : Nat} {xs : List Value} (hown : w.ownsRow base e size v n xs)
    {a : Addr} {m c : Nat} {news : List Value} (hl : news.length = m * size) (hnews : ∀ j u, news[j]? = some u → w.cell? (a.add j) = some u) (h1 : ∀ u ∈ news, u.oneCell' = true) (h0 : 0 < m)
    (h63 : n + m ≤ maxLen) (hbytes : (n + m) * bytes ≤ 140737488355328) (hr : (Builtin.append_ #[t, t] ty #[v, .slice (some a) m c]).run P w = .ok v' w') : v'.ownBlock = v.ownBlock ∨ v'.ownBlock = some w.heap.size := by
  subst hsize
  subst hby
  have hsmall : n + m ≤ 9223372036854775807 := by simp only [maxLen] at h63; omega
  rcases hown.2 with ⟨rfl, rfl⟩ | ⟨g, cap, cur, rfl, hbg, hg, hnc, hcm, hcs, htake⟩
  · rw [run_append_nil (P := P) w t ty e i z ht hi hz a m c news hl hnews (by omega) (by omega) (by have hb := hbytes; simp only [Nat.zero_add] at hb; omega)] at hr
    cases hr; exact .inr rfl
  · by_cases hroom : n + m ≤ cap
    · have hfit : n * i.size + news.length ≤ cur.size := by rw [hl, hcs, ← Nat.add_mul]; exact Nat.mul_le_mul_right _ hroom
      rw [run_append_room (P := P) w t ty e i ht hi g n cap cur hg a m c news hl hnews h1 hroom hfit] at hr
      cases hr; exact .inl rfl
    · have holds : ∀ j u, xs[j]? = some u → w.cell? ((⟨g, 0, none⟩ : Addr).add j) = some u := hown.cells (g := g) rfl
      rw [run_append_grow (P := P) w t ty e i z ht hi hz ⟨g, 0, none⟩ n cap xs hown.1 holds a m c news hl hnews (by omega) (by omega) (growslice_fits (by omega) hbytes)] at hr
      cases hr; exact .inr rfl
/-- 'append' to a slice of the call's own. -/
theorem rappend {t ty e : TypeId} {size bytes : Nat} {z : Array Value} {m : Mem} {v : Value} {n : Nat} {xs : List Value} {s : Value} {k : Nat} {news : List Value} {K : Value → Mem → Prop}
    (hsl : slOf P t = some (e, size)) (hz : zeroOf P e = some z) (hby : bytesA P e = some bytes) (hzs : z.size = size) (hs : 0 < size) (hown : OwnS W0 m e size v n xs) (hnew : RS W0 m s size k news)
    (h1 : ∀ u ∈ news, u.oneCell' = true) (h63 : n + k ≤ maxLen) (hb : (n + k) * bytes ≤ 140737488355328)
    (h : ∀ v' m', OwnS W0 m' e size v' (n + k) (xs ++ news) → Keep m m' v.ownBlock → (v'.ownBlock = v.ownBlock ∨ ∀ g, v'.ownBlock = some g → m g = none) → K v' m') : RunA P W0 (Builtin.append_ #[t, t] ty #[v, s]) m K := fun w hw => by
  obtain ⟨hu, hsz⟩ := slOf_run hsl
  obtain ⟨i, zv, hi, hiz, his, hib, hzv⟩ := info_of hsz hz hby
  obtain ⟨hl, A, c, rfl, hA⟩ := hnew
  rcases hA with hnil | ⟨a, rfl, hc⟩
  · subst hnil
    have hk : k = 0 := by
      rcases Nat.eq_zero_or_pos k with h0 | h0
      · exact h0
      · have := Nat.mul_pos h0 hs; simp at hl; omega
    subst hk
    have hr : (Builtin.append_ #[t, t] ty #[v, .slice A 0 c]).run P w = .ok v w := by
      have hf : ∀ (w : World), (Builtin.firstCells size 0 (.slice A 0 c)).run P w = .ok #[] w := fun w => by cases A <;> simp [Builtin.firstCells, loadCells, loadCellsFrom]
      rcases hown.2 with ⟨rfl, rfl⟩ | ⟨g, cap, cur, rfl, _, _, hnc, _⟩
      · simp [Builtin.append_, run_underlying hu, sizeOf, typeInfo, hi, his, Builtin.lenOf, hf]
      · simp [Builtin.append_, run_underlying hu, sizeOf, typeInfo, hi, his, Builtin.lenOf, hf, hnc, storeCells]
    exact ⟨v, w, m, hr, hw, h v m (by simpa using hown) (Keep.refl _ _) (.inl rfl)⟩
  · obtain ⟨v', w', hr, h2, h3, h4⟩ := run_append_own (P := P) w W0.heap.size t ty e i zv size bytes hu hi hiz his hib (by rw [hzv]; exact hzs) hs v n xs (hown.world hw) a k c news hl
      (fun j u hj => cellA_cell hw (hc j u hj)) h1 h63 hb hw.old.size
    obtain ⟨m', g1, g2, g3⟩ := hw.grown hown h2 h3
    refine ⟨v', w', m', hr, g1, h v' m' g2 g3 ?_⟩
    rcases Nat.eq_zero_or_pos k with hk | hk
    · subst hk
      have hnl : news = [] := List.eq_nil_of_length_eq_zero (by simpa using hl)
      subst hnl
      rcases hown.2 with ⟨rfl, rfl⟩ | ⟨g, cap, cur, rfl, _⟩
      · have := h4.2 ⟨rfl, rfl⟩; subst this; exact .inl rfl
      · left
        rcases g2.2 with ⟨hv, hz'⟩ | ⟨g', cap', cur', hv, _, hm', _⟩
        · have := h4.1 hv; cases this.1
        · have hf : (Builtin.firstCells size 0 (.slice (some a) 0 c)).run P w = .ok #[] w := by simp [Builtin.firstCells, loadCells, loadCellsFrom]
          have hnc : n ≤ cap := by
            rcases hown.2 with ⟨hx, _⟩ | ⟨g1, cap1, cur1, hx, _, _, hx2, _⟩
            · cases hx
            · cases hx; exact hx2
          have e1 : (Builtin.append_ #[t, t] ty #[.slice (some ⟨g, 0, none⟩) n cap, .slice (some a) 0 c]).run P w = .ok (.slice (some ⟨g, 0, none⟩) n cap) w := by
            simp [Builtin.append_, run_underlying hu, sizeOf, typeInfo, hi, his, Builtin.lenOf, hf, hnc, storeCells]
          rw [e1] at hr; cases hr; rfl
    · rcases append_block hu hi hiz his hib (hown.world hw) hl (fun j u hj => cellA_cell hw (hc j u hj)) h1 hk h63 hb hr with h5 | h5
      · exact .inl h5
      · right; intro g hg; rw [h5] at hg; cases hg; exact hw.fresh.no
/-- 'make' of a slice. -/
theorem rmake {t e : TypeId} {size bytes : Nat} {z : Array Value} {m : Mem} {kl kc : IntKind} {n : Nat} {K : Value → Mem → Prop}
    (hsl : slOf P t = some (e, size)) (hz : zeroOf P e = some z) (hby : bytesA P e = some bytes) (h63 : n ≤ maxLen) (hb : bytes * n ≤ 281474976710656)
    (h : ∀ b, Fresh W0 m b → K (.slice (some ⟨b, 0, none⟩) n n) (m.set b (.cells (madeCells z (n * size)) e))) : RunA P W0 (Instr.makeSlice t (.int kl n) (.int kc n)) m K := fun w hw => by
  obtain ⟨hu, hsz⟩ := slOf_run hsl
  obtain ⟨i, zv, hi, hiz, his, hib, hzv⟩ := info_of hsz hz hby
  have hb' : (bytes : Int) * (n : Int) ≤ 281474976710656 := by rw [← Int.natCast_mul]; omega
  have hn' : (n : Int) ≤ 9223372036854775807 := by unfold maxLen at h63; omega
  have hr := run_make (P := P) w t e i zv hu hi hiz kl kc n n (by omega) (by omega) (by rw [hib]; exact hb') hn'
  simp only [Int.toNat_natCast, his, hzv] at hr
  exact ⟨_, _, _, hr, hw.alloc _, h _ hw.fresh⟩
theorem made_one (v : Value) (n : Nat) : madeCells #[v] n = (List.replicate n v).toArray := by
  apply Array.ext'
  apply List.ext_getElem?
  intro j
  simp only [madeCells, Array.toList_map, Array.toList_range, List.getElem?_map]
  by_cases hj : j < n
  · simp [hj, Nat.mod_one]
  · simp [hj]
/-- a block of the call's own, whole -/
theorem OwnS.made {m : Mem} {e : TypeId} {z : Value} {n b : Nat} (hb : Fresh W0 m b) (h63 : n ≤ maxLen) : OwnS W0 (m.set b (.cells (madeCells #[z] n) e)) e 1 (.slice (some ⟨b, 0, none⟩) n n) n (List.replicate n z) := by
  refine ⟨by simp, .inr ⟨b, n, _, rfl, hb.le, Mem.set_same _ _ _, Nat.le_refl _, h63, by simp [size_madeCells], ?_⟩⟩
  rw [made_one]; simp
/-- Storing an element. -/
theorem OwnS.set {m : Mem} {e : TypeId} {n g cap : Nat} {xs : List Value} (h : OwnS W0 m e 1 (.slice (some ⟨g, 0, none⟩) n cap) n xs) {i : Nat} (hi : i < n) (u : Value) :
    ∃ cur, m g = some (.cells cur e) ∧ i + 1 ≤ cur.size ∧ OwnS W0 (m.set g (.cells (wr cur i [u]) e)) e 1 (.slice (some ⟨g, 0, none⟩) n cap) n (xs.set i u) := by
  obtain ⟨h1, h2⟩ := h
  rcases h2 with ⟨hv, _⟩ | ⟨g', cap', cur, hv, hg, hm, h3, h4, h5, h6⟩
  · cases hv
  · simp only [Value.slice.injEq, Option.some.injEq, Addr.mk.injEq, and_true, true_and] at hv
    obtain ⟨rfl, rfl⟩ := hv
    have hc : i + 1 ≤ cur.size := by omega
    refine ⟨cur, hm, hc, by simpa using h1, .inr ⟨g, cap, _, rfl, hg, Mem.set_same _ _ _, h3, h4, ?_, ?_⟩⟩
    · simp only [wr, List.size_toArray, List.length_append, List.length_take, List.length_drop, Array.length_toList, List.length_cons, List.length_nil]; omega
    · have e1 : wr cur i [u] = (cur.toList.set i u).toArray := by
        unfold wr
        congr 1
        rw [List.set_eq_take_append_cons_drop, if_pos (by simp; omega)]
        simp
      rw [e1]
      simp only [Nat.mul_one] at h6 ⊢
      rw [← h6, List.take_set]
theorem OwnS.nn {m : Mem} {e : TypeId} {size n : Nat} {v : Value} {xs : List Value} (h : OwnS W0 m e size v n xs) (hn : 0 < n) : ∃ g cap, v = .slice (some ⟨g, 0, none⟩) n cap ∧ W0.heap.size ≤ g ∧ m g ≠ none := by
  rcases h.2 with ⟨_, h0⟩ | ⟨g, cap, cur, hv, hg, hm, _⟩
  · omega
  · exact ⟨g, cap, hv, hg, by rw [hm]; simp⟩
theorem RS.cell {m : Mem} {A : Option Addr} {n c : Nat} {xs : List Value} (h : RS W0 m (.slice A n c) 1 n xs) {j : Nat} (hj : j < n) : ∃ a, A = some a ∧ ∀ i u, xs[i]? = some u → cellA W0 m (a.add i) = some u := by
  obtain ⟨h1, A', c', hv, h2⟩ := h
  cases hv
  rcases h2 with h2 | h2
  · subst h2; simp at h1; omega
  · exact h2
/-- A slice that was made since: its block is not one of those that were known. -/
structure NewS (W0 : World) (m m' : Mem) (e : TypeId) (size : Nat) (v : Value) (n : Nat) (xs : List Value) : Prop where
  own : OwnS W0 m' e size v n xs
  ext : Ext m m'
  new : ∀ g, v.ownBlock = some g → m g = none
theorem NewS.nil (m : Mem) (e : TypeId) (size : Nat) : NewS W0 m m e size (.slice none 0 0) 0 [] := ⟨OwnS.nil m e size, Ext.refl m, fun g h => by cases h⟩
theorem NewS.later {m m1 m2 : Mem} {e : TypeId} {size n : Nat} {v : Value} {xs : List Value} (h : NewS W0 m m1 e size v n xs) (k : Ext m1 m2) : NewS W0 m m2 e size v n xs := ⟨h.own.ext k, h.ext.trans k, h.new⟩
theorem NewS.made {m : Mem} {e : TypeId} {z : Value} {n b : Nat} (hb : Fresh W0 m b) (h63 : n ≤ maxLen) : NewS W0 m (m.set b (.cells (madeCells #[z] n) e)) e 1 (.slice (some ⟨b, 0, none⟩) n n) n (List.replicate n z) :=
  ⟨OwnS.made hb h63, Ext.fresh hb _, fun g h => by cases h; exact hb.no⟩
theorem NewS.append {m m1 m2 : Mem} {e : TypeId} {size n n' : Nat} {v v' : Value} {xs ys : List Value} (h : NewS W0 m m1 e size v n xs) (h1 : OwnS W0 m2 e size v' n' ys) (h2 : Keep m1 m2 v.ownBlock)
    (h3 : v'.ownBlock = v.ownBlock ∨ ∀ g, v'.ownBlock = some g → m1 g = none) : NewS W0 m m2 e size v' n' ys := by
  refine ⟨h1, fun b o hb => h2 b o (h.ext b o hb) fun e => ?_, fun g hg => ?_⟩
  · rw [h.new b e] at hb; cases hb
  · rcases h3 with h3 | h3
    · rw [h3] at hg; exact h.new g hg
    · cases hm : m g with
      | none => rfl
      | some o => have := h.ext g o hm; rw [h3 g hg] at this; cases this
/-- Storing an element of a slice that was made since. -/
theorem NewS.set {m m1 : Mem} {e : TypeId} {n g cap : Nat} {xs : List Value} (h : NewS W0 m m1 e 1 (.slice (some ⟨g, 0, none⟩) n cap) n xs) {i : Nat} (hi : i < n) (u : Value) :
    ∃ cur, m1 g = some (.cells cur e) ∧ i + 1 ≤ cur.size ∧ NewS W0 m (m1.set g (.cells (wr cur i [u]) e)) e 1 (.slice (some ⟨g, 0, none⟩) n cap) n (xs.set i u) := by
  obtain ⟨cur, c1, c2, c3⟩ := h.own.set hi u
  refine ⟨cur, c1, c2, c3, fun b o hb => ?_, h.new⟩
  have hne : b ≠ g := fun e => by subst e; rw [h.new b rfl] at hb; cases hb
  rw [Mem.set_ne _ _ _ hne]; exact h.ext b o hb
end
end Go.Proofs.Ytcddhbhdpleppaa.R
