/- The plan's layer: schedules that are handed in. No conditions. -/
import Derived.Test.YtcddhbhdpleppaaSPlanSameRW07g
import Derived.Test.YtcddhbhdpleppaaSPlanSameRE
import Derived.Test.YtcddhbhdpleppaaREq
import Derived.Test.YtcddhbhdpleppaaSPlanSameRW07j
set_option linter.unusedVariables false
set_option linter.unusedSimpArgs false
namespace Go.Proofs.Ytcddhbhdpleppaa.R
open Go Go.RowKit Go.Proofs.Ytcddhbhdpleppaa
set_option maxRecDepth 100000
set_option maxHeartbeats 8000000
section
variable {W0 : World}
theorem flat_i64 (l : List Int) : l.flatMap eI64 = i64 l := by
  induction l with
  | nil => rfl
  | cons x l ih => rw [List.flatMap_cons, ih]; rfl
def toWin (x : E56) : WinV := ⟨x.Kind, x.Bits, x.Words, x.Addr, x.From, x.To⟩
def toWins (s : Sl E56) : Sl WinV := ⟨s.A, s.c, s.l.map toWin⟩
theorem wins_of {s : Sl E56} (h : Sl.wf W0 6 E56.cs (E56.wf W0) s) (m : Mem) : WinsOk W0 m (toWins s) := by
  obtain ⟨h1, h2, h3, h4⟩ := h
  have hl : (toWins s).l.length = s.l.length := by simp [toWins]
  refine ⟨?_, fun w hw => ?_, by rw [hl]; exact ⟨h1, by simp only [maxLen] at h2; omega⟩⟩
  · have := h3 m
    rw [hl]
    have e : (toWins s).l.flatMap WinV.cs = s.l.flatMap E56.cs := by simp only [toWins, List.flatMap_map]; rfl
    rw [e]; exact this
  · simp only [toWins, List.mem_map] at hw
    obtain ⟨x, hx, rfl⟩ := hw
    obtain ⟨i1, i2, i3, i4, ⟨g1, g2, g3, _⟩, ⟨k1, k2, k3, _⟩⟩ := h4 x hx
    have g := g3 m
    have k := k3 m
    rw [flat_i64] at g k
    simp only [maxLen] at g2 k2
    exact ⟨g, k, ⟨g1, by simp only [toWin]; omega⟩, ⟨k1, by simp only [toWin]; omega⟩, i1, i2, i3, i4⟩
def toSch (x : E50) : SchV := ⟨x.Modules, toWins x.Frames.e0, toWins x.Frames.e1⟩
theorem toSch_v (x : E50) : Value.agg x.cs.toArray = (toSch x).v := by simp [E50.cs, SchV.v, Sl.v, toSch, toWins]
theorem sch_of {x : E50} (h : E50.wf W0 x) (m : Mem) : WinsOk W0 m (toSch x).f0 ∧ WinsOk W0 m (toSch x).f1 := ⟨wins_of h.2.1 m, wins_of h.2.2 m⟩
theorem few_len {s : SchV} (h : few s = true) (v : Int) : (s.fr v).l.length ≤ 60 := by
  unfold few fewL at h
  simp only [Bool.and_eq_true, decide_eq_true_eq] at h
  unfold SchV.fr; split <;> omega
theorem wins_own {m : Mem} {e : TypeId} {A : Option Addr} {n c : Nat} {l : List WinV} (h : OwnS W0 m e 6 (.slice A n c) n (l.flatMap WinV.cs)) (hl : l.length = n) (hel : ∀ w ∈ l, WinOk W0 m w) (hn : n ≤ 1000000) : WinsOk W0 m ⟨A, c, l⟩ := by
  subst hl
  refine ⟨h.reads, hel, ?_, by show l.length ≤ _; omega⟩
  rcases h.2 with ⟨hv, h0⟩ | ⟨g, cap, cur, hv, _, _, hc, _⟩
  · show l.length ≤ c; omega
  · cases hv; exact hc
end
end Go.Proofs.Ytcddhbhdpleppaa.R
/- Schedules in new memory that are changed. No conditions. -/
set_option linter.unusedVariables false
set_option linter.unusedSimpArgs false
namespace Go.Proofs.Ytcddhbhdpleppaa.R
open Go Go.RowKit Go.Proofs.Ytcddhbhdpleppaa
set_option maxRecDepth 100000
set_option maxHeartbeats 8000000
section
variable {W0 : World}
theorem i64_in (op : BinOp) (a b : Int) : inI64 (bits op .i64 a b) := by
  unfold inI64
  have : ∀ x : Int, -9223372036854775808 ≤ IntKind.i64.wrap x ∧ IntKind.i64.wrap x ≤ 9223372036854775807 := fun x => by rw [IntKind.wrap_i64]; omega
  unfold bits
  exact this _
theorem wrap_bv (x : BitVec 64) : BitVec.ofInt 64 (IntKind.i64.wrap (x.toNat : Nat)) = x := by
  apply BitVec.eq_of_toNat_eq
  rw [BitVec.toNat_ofInt, IntKind.wrap_i64]
  have := x.isLt
  omega
theorem xor_1ne (a : Int) (h : inI64 a) : bits .xor .i64 a 1 ≠ a := by
  intro e
  have h2 : IntKind.i64.wrap ((BitVec.ofInt 64 a ^^^ BitVec.ofInt 64 1).toNat : Nat) = a := e
  have h3 : BitVec.ofInt 64 (IntKind.i64.wrap ((BitVec.ofInt 64 a ^^^ BitVec.ofInt 64 1).toNat : Nat)) = BitVec.ofInt 64 a := by rw [h2]
  rw [wrap_bv] at h3
  have h5 := congrArg (fun x => x ^^^ BitVec.ofInt 64 a) h3
  simp only [BitVec.xor_self] at h5
  rw [BitVec.xor_comm, ← BitVec.xor_assoc, BitVec.xor_self, BitVec.zero_xor] at h5
  exact absurd h5 (by decide)
theorem xor_back (a : Int) (h : inI64 a) : bits .xor .i64 (bits .xor .i64 a 1) 1 = a := by
  have e1 : bits .xor .i64 (bits .xor .i64 a 1) 1 = IntKind.i64.wrap ((BitVec.ofInt 64 (IntKind.i64.wrap ((BitVec.ofInt 64 a ^^^ BitVec.ofInt 64 1).toNat : Nat)) ^^^ BitVec.ofInt 64 1).toNat : Nat) := rfl
  rw [e1, wrap_bv, BitVec.xor_assoc, BitVec.xor_self, BitVec.xor_zero, BitVec.toNat_ofInt, IntKind.wrap_i64]
  unfold inI64 at h
  omega
theorem flat_get6 : ∀ {L : List WinV} {k : Nat} {w : WinV}, L[k]? = some w → ∀ j, j < 6 → (L.flatMap WinV.cs)[k * 6 + j]? = w.cs[j]?
  | [], k, w, h, _, _ => by simp at h
  | x :: L, 0, w, h, j, hj => by
    simp at h
    subst h
    rw [List.flatMap_cons, List.getElem?_append_left (by simp [WinV.cs]; omega)]
    simp
  | x :: L, k + 1, w, h, j, hj => by
    rw [List.flatMap_cons, List.getElem?_append_right (by simp [WinV.cs]; omega)]
    have := flat_get6 (L := L) (k := k) (w := w) (by simpa using h) j hj
    rw [← this]
    congr 1
    simp [WinV.cs]
    omega
theorem flat_set6 : ∀ {L : List WinV} {k : Nat} {w w' : WinV} {j : Nat} {v : Value}, L[k]? = some w → j < 6 → w'.cs = w.cs.set j v → (L.flatMap WinV.cs).set (k * 6 + j) v = (L.set k w').flatMap WinV.cs
  | [], k, w, w', j, v, h, _, _ => by simp at h
  | x :: L, 0, w, w', j, v, h, hj, hc => by
    simp at h
    subst h
    rw [List.flatMap_cons, List.set_cons_zero, List.flatMap_cons, hc, List.set_append_left _ _ (by simp [WinV.cs]; omega)]
    simp
  | x :: L, k + 1, w, w', j, v, h, hj, hc => by
    rw [List.flatMap_cons, List.set_cons_succ, List.flatMap_cons, List.set_append_right _ _ (by simp [WinV.cs]; omega), ← flat_set6 (L := L) (k := k) (w := w) (by simpa using h) hj hc]
    congr 2
    simp [WinV.cs]
    omega
theorem blks_set : ∀ {L : List WinV} {k : Nat} {w w' : WinV}, L[k]? = some w → bw w' = bw w → blks (L.set k w') = blks L
  | [], k, w, w', h, _ => by simp at h
  | x :: L, 0, w, w', h, e => by
    simp at h
    subst h
    unfold blks
    rw [List.set_cons_zero, List.flatMap_cons, List.flatMap_cons, e]
  | x :: L, k + 1, w, w', h, e => by
    have := blks_set (L := L) (k := k) (w := w) (w' := w') (by simpa using h) e
    unfold blks at *
    rw [List.set_cons_succ, List.flatMap_cons, List.flatMap_cons, this]
theorem set_mem {L : List WinV} {k : Nat} {w w' x : WinV} (hw : L[k]? = some w) (hx : x ∈ L.set k w') : x = w' ∨ ∃ j, j ≠ k ∧ L[j]? = some x := by
  obtain ⟨j, hj⟩ := List.getElem?_of_mem hx
  rw [List.getElem?_set] at hj
  split at hj
  · split at hj
    · injection hj with hj; exact .inl hj.symm
    · cases hj
  · rename_i h; exact .inr ⟨j, fun e => h e.symm, hj⟩
theorem wr_take {cur : Array Value} {n i : Nat} {v : Value} (hi : i < n) (hn : n ≤ cur.size) : (wr cur i [v]).size = cur.size ∧ (wr cur i [v]).toList.take n = (cur.toList.take n).set i v := by
  have e1 : wr cur i [v] = (cur.toList.set i v).toArray := by
    unfold wr
    congr 1
    rw [List.set_eq_take_append_cons_drop, if_pos (by simp; omega)]
    simp
  rw [e1]
  exact ⟨by simp, by rw [← List.take_set]⟩
theorem own_blk {m : Mem} {e : TypeId} {size n : Nat} {A : Option Addr} {c : Nat} {xs : List Value} (h : OwnS W0 m e size (.slice A n c) n xs) (hn : 0 < n) :
    ∃ g cur, A = some ⟨g, 0, none⟩ ∧ W0.heap.size ≤ g ∧ m g = some (.cells cur e) ∧ n * size ≤ cur.size ∧ cur.toList.take (n * size) = xs ∧ n ≤ c := by
  rcases h.2 with ⟨hv, h0⟩ | ⟨g, cap, cur, hv, hg, hm, hc, _, hs, ht⟩
  · omega
  · cases hv
    exact ⟨g, cur, rfl, hg, hm, by rw [hs]; exact Nat.mul_le_mul_right _ hc, ht, hc⟩
theorem own_le {m : Mem} {e : TypeId} {n : Nat} {A : Option Addr} {c : Nat} {xs : List Value} (h : OwnS W0 m e 1 (.slice A n c) n xs) : n ≤ c ∧ n ≤ 9223372036854775807 := by
  rcases h.2 with ⟨hv, h0⟩ | ⟨g, cap, cur, hv, hg, hm, hc, hm2, hs, ht⟩
  · cases hv; omega
  · cases hv; unfold maxLen at hm2; omega
theorem OwnS.setw {m mS : Mem} {e : TypeId} {size n g c : Nat} {cur : Array Value} {xs : List Value} (h : OwnS W0 m e size (.slice (some ⟨g, 0, none⟩) n c) n xs) (hm : m g = some (.cells cur e)) {i : Nat} (hi : i < n * size) (v : Value)
    (hS : mS g = some (.cells (wr cur i [v]) e)) : OwnS W0 mS e size (.slice (some ⟨g, 0, none⟩) n c) n (xs.set i v) := by
  obtain ⟨h1, h2⟩ := h
  rcases h2 with ⟨hv, _⟩ | ⟨g', cap', cur', hv, hg, hm', h3, h4, h5, h6⟩
  · cases hv
  · cases hv
    rw [hm] at hm'
    cases hm'
    have hle : n * size ≤ cur.size := by rw [h5]; exact Nat.mul_le_mul_right _ h3
    obtain ⟨w1, w2⟩ := wr_take (cur := cur) (v := v) hi hle
    exact ⟨by simpa using h1, .inr ⟨g, c, _, rfl, hg, hS, h3, h4, by rw [w1, h5], by rw [w2, h6]⟩⟩
theorem nod_blk : ∀ {L : List WinV}, (blks L).Nodup → (∀ w ∈ L, (bw w).Nodup) ∧ ∀ (i j : Nat) (x y : WinV), L[i]? = some x → L[j]? = some y → i ≠ j → ∀ g ∈ bw x, g ∉ bw y
  | [], _ => ⟨fun w hw => by simp at hw, fun i j x y hx => by simp at hx⟩
  | w :: L, h => by
    unfold blks at h
    rw [List.flatMap_cons] at h
    obtain ⟨h1, h2, h3⟩ := List.nodup_append.1 h
    obtain ⟨i1, i2⟩ := nod_blk (L := L) h2
    refine ⟨fun x hx => ?_, fun i j x y hx hy hij g hg hg' => ?_⟩
    · rcases List.mem_cons.1 hx with rfl | hx
      · exact h1
      · exact i1 x hx
    · cases i with
      | zero =>
        cases j with
        | zero => exact hij rfl
        | succ j =>
          simp at hx hy
          subst hx
          exact h3 g hg g (List.mem_flatMap.2 ⟨y, List.mem_of_getElem? hy, hg'⟩) rfl
      | succ i =>
        cases j with
        | zero =>
          simp at hx hy
          subst hy
          exact h3 g hg' g (List.mem_flatMap.2 ⟨x, List.mem_of_getElem? hx, hg⟩) rfl
        | succ j => exact i2 i j x y (by simpa using hx) (by simpa using hy) (by omega) g hg hg'
/-- A number of a window is changed. -/
theorem ClV.setW {m0 m mS : Mem} {f : Sl WinV} (h : ClV W0 m0 m f) {k j g : Nat} {w w' : WinV} {v : Value} {cur : Array Value} (hw : f.l[k]? = some w) (hj : j < 6) (hcs : w'.cs = w.cs.set j v) (hfr : w'.fr = w.fr) (hto : w'.to = w.to)
    (hA : f.A = some ⟨g, 0, none⟩) (hm : m g = some (.cells cur 56)) (kp : Keep m mS (some g)) (hS : mS g = some (.cells (wr cur (k * 6 + j) [v]) 56)) : ClV W0 m0 mS ⟨f.A, f.c, f.l.set k w'⟩ := by
  have hk := (List.getElem?_eq_some_iff.1 hw).1
  have hob : (Value.slice f.A f.l.length f.c).ownBlock = some g := by rw [hA]; rfl
  have hg : g ∈ (of_ f).toList := by rw [Option.mem_toList]; exact hob
  have hne : ∀ b ∈ blks f.l, b ≠ g := fun b hb e => (List.nodup_append.1 h.nod).2.2 g hg b hb e.symm
  have hb : blks (f.l.set k w') = blks f.l := blks_set hw (by unfold bw; rw [hfr, hto])
  have hof : of_ (⟨f.A, f.c, f.l.set k w'⟩ : Sl WinV) = of_ f := by unfold of_; simp
  have key : ∀ x ∈ f.l.set k w', ∃ y ∈ f.l, x.fr = y.fr ∧ x.to = y.to := fun x hx => by
    rcases set_mem hw hx with rfl | ⟨q, _, hq⟩
    · exact ⟨w, List.mem_of_getElem? hw, hfr, hto⟩
    · exact ⟨x, List.mem_of_getElem? hq, rfl, rfl⟩
  refine ⟨?_, fun x hx => ?_, fun x hx => ?_, fun b hb' => h.new b ?_, ?_⟩
  · have hwin := h.win
    rw [hA] at hwin
    have := hwin.setw hm (i := k * 6 + j) (by omega) v hS
    rw [flat_set6 hw hj hcs] at this
    show OwnS W0 mS _ 6 (.slice f.A (f.l.set k w').length f.c) (f.l.set k w').length _
    rw [hA, List.length_set]
    exact this
  · obtain ⟨y, hy, e1, _⟩ := key x hx
    rw [e1]
    refine (h.fr y hy).keep kp (.inl fun e => hne g (List.mem_flatMap.2 ⟨y, hy, List.mem_append.2 (.inl ?_)⟩) rfl)
    rw [Option.mem_toList]; exact e
  · obtain ⟨y, hy, _, e1⟩ := key x hx
    rw [e1]
    refine (h.to y hy).keep kp (.inl fun e => hne g (List.mem_flatMap.2 ⟨y, hy, List.mem_append.2 (.inr ?_)⟩) rfl)
    rw [Option.mem_toList]; exact e
  · rw [hof] at hb'
    simp only [hb] at hb'
    exact hb'
  · rw [hof]
    simp only [hb]
    exact h.nod
/-- The first number of a window's takers is changed. -/
theorem ClV.setT {m0 m mS : Mem} {f : Sl WinV} (h : ClV W0 m0 m f) {k g : Nat} {w : WinV} {y : Int} {cur : Array Value} (hw : f.l[k]? = some w) (h0 : 0 < w.to.l.length)
    (hA : w.to.A = some ⟨g, 0, none⟩) (hm : m g = some (.cells cur 3)) (kp : Keep m mS (some g)) (hS : mS g = some (.cells (wr cur 0 [.int .i64 y]) 3)) : ClV W0 m0 mS ⟨f.A, f.c, f.l.set k { w with to := ⟨w.to.A, w.to.c, w.to.l.set 0 y⟩ }⟩ := by
  have hmem := List.mem_of_getElem? hw
  have hob : ob w.to = some g := by unfold ob; rw [hA]; rfl
  have hgw : g ∈ bw w := List.mem_append.2 (.inr (by rw [Option.mem_toList]; exact hob))
  have hg : g ∈ blks f.l := List.mem_flatMap.2 ⟨w, hmem, hgw⟩
  obtain ⟨n1, n2, n3⟩ := List.nodup_append.1 h.nod
  have hwin : (Value.slice f.A f.l.length f.c).ownBlock ≠ some g := fun e => n3 g (by rw [Option.mem_toList]; exact e) g hg rfl
  have hb : bw ({ w with to := ⟨w.to.A, w.to.c, w.to.l.set 0 y⟩ } : WinV) = bw w := by unfold bw ob; simp
  have hbl := blks_set hw hb
  have hof : of_ (⟨f.A, f.c, f.l.set k { w with to := ⟨w.to.A, w.to.c, w.to.l.set 0 y⟩ }⟩ : Sl WinV) = of_ f := by unfold of_; simp
  have hcs : ({ w with to := ⟨w.to.A, w.to.c, w.to.l.set 0 y⟩ } : WinV).cs = w.cs.set 0 (.int .i64 w.kind) := by simp [WinV.cs]
  have apart : ∀ q x, q ≠ k → f.l[q]? = some x → g ∉ bw x := fun q x hq hx hgx => (nod_blk n2).2 q k x w hx hw hq g hgx hgw
  have hfrw : ob w.fr ≠ some g := fun e => by
    have := (nod_blk n2).1 w hmem
    exact (List.nodup_append.1 this).2.2 g (by rw [Option.mem_toList]; exact e) g (by rw [Option.mem_toList]; exact hob) rfl
  refine ⟨?_, fun x hx => ?_, fun x hx => ?_, fun b hb' => h.new b ?_, ?_⟩
  · have := h.win.keep kp (.inl hwin)
    show OwnS W0 mS _ 6 (.slice f.A (f.l.set k _).length f.c) (f.l.set k _).length _
    rw [List.length_set, ← flat_set6 (j := 0) hw (by omega) hcs]
    have e2 : (f.l.flatMap WinV.cs).set (k * 6 + 0) (.int .i64 w.kind) = f.l.flatMap WinV.cs := by
      have h1 := flat_get6 hw 0 (by omega)
      have h2 : w.cs[0]? = some (.int .i64 w.kind) := rfl
      rw [h2] at h1
      obtain ⟨hlt, he⟩ := List.getElem?_eq_some_iff.1 h1
      rw [← he]
      exact List.set_getElem_self hlt
    rw [e2]
    exact this
  · rcases set_mem hw hx with rfl | ⟨q, hq, hx'⟩
    · exact (h.fr w hmem).keep kp (.inl hfrw)
    · refine (h.fr x (List.mem_of_getElem? hx')).keep kp (.inl fun e => apart q x hq hx' (List.mem_append.2 (.inl ?_)))
      rw [Option.mem_toList]; exact e
  · rcases set_mem hw hx with rfl | ⟨q, hq, hx'⟩
    · have ho := h.to w hmem
      rw [hA] at ho
      have := ho.setw hm (i := 0) (by omega) (.int .i64 y) hS
      show OwnS W0 mS _ 1 (.slice w.to.A (w.to.l.set 0 y).length w.to.c) (w.to.l.set 0 y).length (i64 (w.to.l.set 0 y))
      rw [hA, List.length_set, show i64 (w.to.l.set 0 y) = (i64 w.to.l).set 0 (.int .i64 y) by simp [i64]]
      exact this
    · refine (h.to x (List.mem_of_getElem? hx')).keep kp (.inl fun e => apart q x hq hx' (List.mem_append.2 (.inr ?_)))
      rw [Option.mem_toList]; exact e
  · rw [hof] at hb'
    simp only [hbl] at hb'
    exact hb'
  · rw [hof]
    simp only [hbl]
    exact h.nod
def WinV.rg (w : WinV) : Prop := inI64 w.kind ∧ inI64 w.bits ∧ inI64 w.words ∧ inI64 w.addr
theorem ClV.wins {m0 m : Mem} {f : Sl WinV} (h : ClV W0 m0 m f) (hr : ∀ w ∈ f.l, w.rg) (hn : f.l.length ≤ 1000000) : WinsOk W0 m f :=
  wins_own h.win rfl (fun w hw => ⟨(h.fr w hw).reads, (h.to w hw).reads, own_le (h.fr w hw), own_le (h.to w hw), hr w hw⟩) hn
theorem rg_keys {l g : List WinV} (hk : keys l = keys g) (hg : ∀ w ∈ g, w.rg) : ∀ w ∈ l, w.rg := fun w hw => by
  have : w.key ∈ keys g := by rw [← hk]; exact List.mem_map_of_mem hw
  obtain ⟨x, hx, e⟩ := List.mem_map.1 this
  have hx2 := hg x hx
  unfold WinV.key at e
  unfold WinV.rg at *
  simp only [Prod.mk.injEq] at e
  rw [← e.1, ← e.2.1, ← e.2.2.1, ← e.2.2.2.1]
  exact hx2
theorem keys_length {l g : List WinV} (hk : keys l = keys g) : l.length = g.length := by
  have := congrArg List.length hk
  simpa [keys] using this
/-- A schedule, one of whose frames is another one. -/
def SchV.put (s : SchV) (v : Int) (f : Sl WinV) : SchV := if v = 0 then ⟨s.mods, f, s.f1⟩ else ⟨s.mods, s.f0, f⟩
def SchV.oth (s : SchV) (v : Int) : Sl WinV := if v = 0 then s.f1 else s.f0
theorem put_v {s : SchV} {v : Int} {L : List WinV} (hl : L.length = (s.fr v).l.length) : (s.put v ⟨(s.fr v).A, (s.fr v).c, L⟩).v = s.v := by
  unfold SchV.put SchV.fr at *
  split <;> simp_all [SchV.v]
theorem put_same {S s : SchV} {v : Int} {f : Sl WinV} (hm : S.mods = s.mods) (ho : keys (S.oth v).l = keys (s.oth v).l) : sameS S (s.put v f) = decide (keys (S.fr v).l = keys f.l) := by
  unfold SchV.put SchV.oth SchV.fr sameS at *
  split <;> simp_all
theorem keys_set {L : List WinV} {k : Nat} {w w' : WinV} (hw : L[k]? = some w) (hne : w.key ≠ w'.key) : keys L ≠ keys (L.set k w') := fun e => by
  have := congrArg (fun z => z[k]?) e
  unfold keys at this
  have hk := (List.getElem?_eq_some_iff.1 hw).1
  simp only [List.getElem?_map, hw, List.getElem?_set, hk, Option.map_some, if_true, Option.some.injEq] at this
  exact hne this
end
end Go.Proofs.Ytcddhbhdpleppaa.R
