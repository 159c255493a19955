/- Walks that go by themselves: calls that change nothing known, blocks that are boxed, ways that part. No conditions. -/
import Derived.Test.YtcddhbhdpleppaaRLib2
import Derived.Test.YtcddhbhdpleppaaRVc
import Derived.Test.YtcddhbhdpleppaaRBld
namespace Go.Proofs.Ytcddhbhdpleppaa.R
open Go Go.RowKit
set_option linter.unusedVariables false
set_option linter.unusedSimpArgs false
section
variable {P : Program} {W0 : World}
/-- A call that hands back v, and changes nothing known. -/
structure Ret (P : Program) (W0 : World) (f : Nat) (args : Array Value) (m : Mem) (v : Value) : Prop where
  go : ∀ K : Value → Mem → Prop, (∀ m', Ext m m' → K v m') → CallA P W0 f args m K
theorem Ret.use {f : Nat} {args : Array Value} {m : Mem} {v : Value} {K : Value → Mem → Prop} (h : Ret P W0 f args m v) (hk : ∀ m', Ext m m' → K v m') : CallA P W0 f args m K := h.go K hk
theorem Ret.q {f : Nat} {args : Array Value} {m : Mem} {v : Value} {Q : Value → Prop} (h : ∀ m', Ext m m' → Ret P W0 f args m' v) (hk : Q v) :
    ∃ v, (∀ m', Ext m m' → CallA P W0 f args m' (fun v' m'' => v' = v ∧ Ext m' m'')) ∧ Q v := ⟨v, fun m' e => (h m' e).go _ fun m'' e2 => ⟨rfl, e2⟩, hk⟩
theorem Ret.eq {f : Nat} {args : Array Value} {m : Mem} {v v' : Value} (h : Ret P W0 f args m v) (e : v = v') : Ret P W0 f args m v' := e ▸ h
theorem K_eq {K : Value → Mem → Prop} {v v' : Value} {m : Mem} (h : K v m) (e : v = v') : K v' m := e ▸ h
/-- A block that is made. -/
theorem newK_intro {cells : Array Value} {e : TypeId} {K : Value → Mem → Prop} {m : Mem} (h : ∀ b m', W0.heap.size ≤ b → m b = none → Ext m m' → m' b = some (.cells cells e) → K (.pointer (some ⟨b, 0, none⟩)) m') : newK W0 cells e K m :=
  fun b hb => h b _ hb.le hb.no (Ext.fresh hb _) (Mem.set_same _ _ _)
/-- A block that is made, and filled at once. -/
theorem newK_init {z : Array Value} {e ty : TypeId} {ops : Array Oper} {R : Env → Mem → Prop} {d : Nat} {x : Operand} {T : TypeId} {pos : String} {af : Array Edge} {rest : List Oper} {t : Env} {m : Mem}
    (hs1 : ∀ b : Nat, storable (ev (upd t d (.pointer (some ⟨b, 0, none⟩))) x) = true) (hs2 : szOf P ty = some z.size) (hs3 : ∀ b : Nat, (ev (upd t d (.pointer (some ⟨b, 0, none⟩))) x).cells.size = z.size)
    (h : ∀ b m1, W0.heap.size ≤ b → m b = none → Ext m m1 → m1 b = some (.cells (ev (upd t d (.pointer (some ⟨b, 0, none⟩))) x).cells e) → vcOps P W0 ops R rest (upd t d (.pointer (some ⟨b, 0, none⟩))) m1) :
    newK W0 z e (nxt P W0 ops R (⟨none, .store ty (.tmp d) x, T, pos, af, none⟩ :: rest) (some d) t) m := by
  intro b hb
  have h1 := hs1 b
  have h2 := hs2
  have h3 := hs3 b
  rw [nxt_some, vcOps_cons, o_store, ev_tmp, upd_app, if_pos rfl, storeK_ptr, Mem.set_same, storeB_some]
  refine ⟨h1, by rw [h3]; exact h2, by omega, ?_⟩
  rw [nxt_none, Mem.set_set, wr_all h3.symm]
  exact h b _ hb.le hb.no (Ext.fresh hb _) (Mem.set_same _ _ _)
theorem blk_facts {m : Mem} {b : Nat} {c : Array Value} {e : TypeId} {f : Nat × Nat} (hb : W0.heap.size ≤ b) (hm : m b = some (.cells c e f)) :
    (∀ j, cellA W0 m ⟨b, j, none⟩ = c[j]?) ∧ ∀ n, c.size = n → cellsA W0 m ⟨b, 0, none⟩ n = some c := ⟨fun j => cellA_blk hb hm j, fun n hn => cellsA_block hb hm hn⟩
theorem none_of {m m' : Mem} {b : Nat} (x : Ext m m') (h : m' b = none) : m b = none := by
  cases e : m b with
  | none => rfl
  | some o => rw [x b o e] at h; cases h
theorem ne_of {m : Mem} {b c : Nat} {o : Obj} (h : m b = some o) (n : m c = none) : c ≠ b := fun e => by subst e; rw [h] at n; cases n
def mset (m : Mem) (b : Nat) (o : Obj) : Mem := m.set b o
theorem mset_eq {m : Mem} (b : Nat) {o : Obj} : m.set b o = mset m b o := nd rfl
theorem set_keep {m : Mem} {b c : Nat} {o p : Obj} (h : m c = some p) (d : c ≠ b) : (m.set b o) c = some p := by rw [Mem.set_ne _ _ _ d]; exact h
theorem set_same {m mS : Mem} {b : Nat} {o : Obj} (hM : mset m b o = mS) : mS b = some o := hM ▸ (Mem.set_same m b o : mset m b o b = some o)
theorem set_X {m0 m mS : Mem} {b : Nat} {o : Obj} (hM : mset m b o = mS) (X : Ext m0 m) (n : m0 b = none) : Ext m0 mS := hM ▸ (X.set n o : Ext m0 (mset m b o))
theorem set_o {m mS : Mem} {b c : Nat} {o p : Obj} (hM : mset m b o = mS) (h : m c = some p) (d : c ≠ b) : mS c = some p := hM ▸ (set_keep h d : mset m b o c = some p)
theorem set_N {m0 m mS : Mem} {b : Nat} {o : Obj} {e : TypeId} {size n : Nat} {v : Value} {xs : List Value} (hM : mset m b o = mS) (N : NewS W0 m0 m e size v n xs) (h : m0 b = none) (hz : v.ownBlock ≠ some b) : NewS W0 m0 mS e size v n xs :=
  ⟨N.own.keep (hM ▸ (Keep.set m b o : Keep m (mset m b o) (some b))) (.inl hz), set_X hM N.ext h, N.new⟩
theorem wr_def (c : Array Value) (o : Nat) (vs : List Value) : wr c o vs = (c.toList.take o ++ vs ++ c.toList.drop (o + vs.length)).toArray := nd rfl
theorem CallA.at {args : Array Value} {m : Mem} {K : Value → Mem → Prop} (f : Nat) (h : CallA P W0 f args m K) : CallA P W0 f args m K := h
theorem Ret.qat {args : Array Value} {m : Mem} {Q : Value → Prop} (f : Nat) (h : ∃ v, (∀ m', Ext m m' → CallA P W0 f args m' (fun v' m'' => v' = v ∧ Ext m' m'')) ∧ Q v) :
    ∃ v, (∀ m', Ext m m' → CallA P W0 f args m' (fun v' m'' => v' = v ∧ Ext m' m'')) ∧ Q v := h
theorem newK.id {cells : Array Value} {e : TypeId} {K : Value → Mem → Prop} {m : Mem} (h : newK W0 cells e K m) : newK W0 cells e K m := h
theorem CodeA.id {N : Nat} {c : Code} {Q : Exit → Env → Mem → Prop} {t : Env} {m : Mem} (h : CodeA P W0 N c Q t m) : CodeA P W0 N c Q t m := h
theorem CodeA.sz {N id : Nat} {ops : Array Oper} {Q : Exit → Env → Mem → Prop} {t : Env} {m : Mem} (n : Nat) (hn : ops.size = n) (h : CodeA P W0 N (.region id ops true) Q t m) : CodeA P W0 N (.region id ops true) Q t m := h
theorem rsl_hZ {t e : TypeId} {size : Nat} {m : Mem} {A : Option Addr} {n c : Nat} {kh : IntKind} {h : Int} {K : Value → Mem → Prop} (hs : slOf P t = some (e, size)) (h0 : 0 ≤ h) (h2 : h ≤ c)
    (hk : K (.slice A h.toNat c) m) : PureA P W0 (Instr.sliceAt t (.slice A n c) none (some (.int kh h)) none) m K := by
  obtain ⟨k, rfl⟩ := Int.eq_ofNat_of_zero_le h0
  exact rsl_h hs (by omega) hk
theorem rsl_lZ {t e : TypeId} {size : Nat} {m : Mem} {A : Option Addr} {n c : Nat} {kl : IntKind} {l : Int} {K : Value → Mem → Prop} (hs : slOf P t = some (e, size)) (h0 : 0 ≤ l) (h1 : l ≤ n)
    (hk : K (.slice (if c = l.toNat then A else A.map (·.add (l.toNat * size))) (n - l.toNat) (c - l.toNat)) m) : PureA P W0 (Instr.sliceAt t (.slice A n c) (some (.int kl l)) none none) m K := by
  obtain ⟨k, rfl⟩ := Int.eq_ofNat_of_zero_le h0
  exact rsl_l hs (by omega) hk
theorem PureA.id {α : Type} {s : Sem α} {m : Mem} {K : α → Mem → Prop} (h : PureA P W0 s m K) : PureA P W0 s m K := h
theorem RunA.id {α : Type} {s : Sem α} {m : Mem} {K : α → Mem → Prop} (h : RunA P W0 s m K) : RunA P W0 s m K := h
def ones : List Value → Bool
  | [] => true
  | v :: l => v.oneCell' && ones l
theorem ones_nil : ones [] = true := nd rfl
theorem ones_cons (v : Value) (l : List Value) : ones (v :: l) = (v.oneCell' && ones l) := nd rfl
theorem ones_all : ∀ l : List Value, ones l = l.all (·.oneCell')
  | [] => rfl
  | v :: l => by rw [ones_cons, ones_all l]; rfl
theorem st_agg (l : List Value) : storable (.agg l.toArray) = ones l := by rw [ones_all]; simp [storable]
theorem oc_int (k : IntKind) (n : Int) : (Value.int k n).oneCell' = true := nd rfl
theorem oc_bool (b : Bool) : (Value.bool b).oneCell' = true := nd rfl
theorem oc_str (b : ByteArray) : (Value.string b).oneCell' = true := nd rfl
theorem oc_ptr (a : Option Addr) : (Value.pointer a).oneCell' = true := nd rfl
theorem oc_sl (a : Option Addr) (n c : Nat) : (Value.slice a n c).oneCell' = true := nd rfl
theorem oc_map (r : Option Nat) : (Value.map r).oneCell' = true := nd rfl
/-- One block that stays. -/
def mp1 (b : Nat) (o : Obj) : Mem := fun i => if i = b then some o else none
theorem Ext_one_i {b : Nat} {o : Obj} {m : Mem} (h : m b = some o) : Ext (mp1 b o) m := fun k u hk => by
  unfold mp1 at hk
  split at hk
  · rename_i e; subst e; cases hk; exact h
  · cases hk
theorem Ext_mp1 (b : Nat) (o : Obj) (m : Mem) : Ext (mp1 b o) m = (m b = some o) := propext ⟨fun h => h b o (by simp [mp1]), Ext_one_i⟩
theorem blk_one {b : Nat} (hb : W0.heap.size ≤ b) (c : Array Value) (e : TypeId) (f : Nat × Nat) : (∀ j, cellA W0 (mp1 b (.cells c e f)) ⟨b, j, none⟩ = c[j]?) ∧ ∀ n, c.size = n → cellsA W0 (mp1 b (.cells c e f)) ⟨b, 0, none⟩ n = some c :=
  blk_facts hb (show mp1 b _ b = _ by unfold mp1; rw [if_pos rfl])
/-- Two blocks that stay. -/
def mp2 (b : Nat) (o : Obj) (c : Nat) (p : Obj) : Mem := fun i => if i = b then some o else if i = c then some p else none
theorem mp2_app (b : Nat) (o : Obj) (c : Nat) (p : Obj) (i : Nat) : mp2 b o c p i = if i = b then some o else if i = c then some p else none := nd rfl
theorem Ext_two_i {b c : Nat} {o p : Obj} {m : Mem} (h : m b = some o) (h' : m c = some p) : Ext (mp2 b o c p) m := fun k u hk => by
  unfold mp2 at hk
  split at hk
  · rename_i e; subst e; cases hk; exact h
  · split at hk
    · rename_i e; subst e; cases hk; exact h'
    · cases hk
theorem Ext_two (b c : Nat) (o p : Obj) (m : Mem) : Ext (mp2 b o c p) m = (m b = some o ∧ (c ≠ b → m c = some p)) := propext ⟨fun h => ⟨h b o (by simp [mp2]), fun hn => h c p (by simp [mp2, hn])⟩, fun ⟨h, h'⟩ => by
  intro k u hk
  unfold mp2 at hk
  split at hk
  · rename_i e; subst e; cases hk; exact h
  · rename_i e
    split at hk
    · rename_i e'; subst e'; cases hk; exact h' e
    · cases hk⟩
theorem blk_two {b c : Nat} (hb : W0.heap.size ≤ b) (hc : W0.heap.size ≤ c) (d : c ≠ b) (x : Array Value) (e : TypeId) (f : Nat × Nat) (y : Array Value) (e' : TypeId) (f' : Nat × Nat) :
    ((∀ j, cellA W0 (mp2 b (.cells x e f) c (.cells y e' f')) ⟨b, j, none⟩ = x[j]?) ∧ ∀ n, x.size = n → cellsA W0 (mp2 b (.cells x e f) c (.cells y e' f')) ⟨b, 0, none⟩ n = some x) ∧
    ((∀ j, cellA W0 (mp2 b (.cells x e f) c (.cells y e' f')) ⟨c, j, none⟩ = y[j]?) ∧ ∀ n, y.size = n → cellsA W0 (mp2 b (.cells x e f) c (.cells y e' f')) ⟨c, 0, none⟩ n = some y) :=
  ⟨blk_facts hb (show mp2 b _ c _ b = _ by unfold mp2; rw [if_pos rfl]), blk_facts hc (show mp2 b _ c _ c = _ by unfold mp2; rw [if_neg d, if_pos rfl])⟩
theorem Ret.q0 {mp : Mem} {f : Nat} {args : Array Value} {m : Mem} {v : Value} {Q : Value → Prop} (h : ∀ m', Ext mp m' → Ret P W0 f args m' v) (hk : Q v) :
    ∃ v, (∀ m', Has mp m' → CallA P W0 f args m' (fun v' m'' => v' = v ∧ Ext m' m'')) ∧ Q v := ⟨v, fun m' e => (h m' e).go _ fun m'' e2 => ⟨rfl, e2⟩, hk⟩
theorem Ret.qat0 {mp : Mem} {args : Array Value} {Q : Value → Prop} (f : Nat) (h : ∃ v, (∀ m', Has mp m' → CallA P W0 f args m' (fun v' m'' => v' = v ∧ Ext m' m'')) ∧ Q v) :
    ∃ v, (∀ m', Has mp m' → CallA P W0 f args m' (fun v' m'' => v' = v ∧ Ext m' m'')) ∧ Q v := h
theorem gO_both (x : Bool) (want : Bool) {ops : Array Oper} {R : Env → Mem → Prop} {d : Option Nat} {o : Oper} {rest : List Oper} {t : Env} {m : Mem}
    (h : x = want → vcOp P W0 o t (nxt P W0 ops R rest d t) m) (h' : x = (!want) → nxt P W0 ops R rest d t undef m) : gO (some x) want P W0 ops R d o rest t m := by
  unfold gO guardK
  exact ⟨h, fun hn => h' (by cases x <;> cases want <;> simp_all)⟩
theorem gH_both (x : Bool) (want : Bool) {mp : Mem} {ops : Array Oper} {n0 : Nat} {cl : List Nat} {R : Env → Mem → Prop} {i : Nat} {rest : List Nat} {d : Option Nat} {o : Oper} {t : Env} {m : Mem}
    (h : x = want → hStep P W0 mp n0 cl i o t (nxtH P W0 mp ops n0 cl R rest d t) m) (h' : x = (!want) → nxtH P W0 mp ops n0 cl R rest d t undef m) : gH (some x) want P W0 mp ops n0 cl R i rest d o t m := by
  unfold gH guardK
  exact ⟨h, fun hn => h' (by cases x <;> cases want <;> simp_all)⟩
theorem pickK_both (x : Bool) {a b : Value} {K : Value → Mem → Prop} {m : Mem} (h : x = true → K a m) (h' : x = false → K b m) : pickK (.bool x) a b K m := ⟨h, h'⟩
theorem resK_cc (i T j S : Nat) (t : Env) (K : Value → Mem → Prop) (m : Mem) : resK P W0 [.cell i T, .cell j S] t K m = loadK P W0 T (t i) (fun v m => loadK P W0 S (t j) (fun u m => K (.tuple #[v, u]) m) m) m := nd rfl
theorem ext_lit (l : List Value) (o e : Nat) : l.toArray.extract o e = ((l.drop o).take (e - o)).toArray := by simp [List.extract]
theorem bb_ft : (false == true) = false := nd rfl
theorem bb_tf : (true == false) = false := nd rfl
theorem bb_t (b : Bool) : (b == true) = b := by cases b <;> rfl
theorem bb_f (b : Bool) : (b == false) = !b := by cases b <;> rfl
theorem bn_t (b : Bool) : (b != true) = !b := by cases b <;> rfl
theorem bn_f (b : Bool) : (b != false) = b := by cases b <;> rfl
theorem max_if (a b : Int) : (if b > a then b else a) = max a b := by split <;> omega
theorem min_if (a b : Int) : (if b < a then b else a) = min a b := by split <;> omega
/-- A test that is known to be so, or not. -/
theorem beq_no {a b : Int} (h : a ≠ b) : (a == b) = false := by rw [beq_eq_false_iff_ne]; exact h
theorem bne_yes {a b : Int} (h : a ≠ b) : (a != b) = true := by rw [bne_iff_ne]; exact h
theorem toNat_nat (n : Nat) : ((n : Int)).toNat = n := Int.toNat_natCast n
theorem RS.i64 {m : Mem} {A : Option Addr} {n c : Nat} {l : List Int} (h : RS W0 m (.slice A n c) 1 n (i64 l)) {i : Nat} {x : Int} (hx : l[i]? = some x) : ∃ a, A = some a ∧ cellA W0 m (a.add i) = some (.int .i64 x) := by
  have hi := (List.getElem?_eq_some_iff.1 hx).1
  have hl := h.1
  simp only [R.i64, List.length_map, Nat.mul_one] at hl
  obtain ⟨a, ha, hc⟩ := h.cell (j := i) (by omega)
  exact ⟨a, ha, hc i _ (by rw [i64_get, hx]; rfl)⟩
theorem RS.u8 {m : Mem} {A : Option Addr} {n c : Nat} {l : List Int} (h : RS W0 m (.slice A n c) 1 n (u8 l)) {i : Nat} {x : Int} (hx : l[i]? = some x) : ∃ a, A = some a ∧ cellA W0 m (a.add i) = some (.int .u8 x) := by
  have hi := (List.getElem?_eq_some_iff.1 hx).1
  have hl := h.1
  simp only [R.u8, List.length_map, Nat.mul_one] at hl
  obtain ⟨a, ha, hc⟩ := h.cell (j := i) (by omega)
  exact ⟨a, ha, hc i _ (by rw [u8_get, hx]; rfl)⟩
theorem RS.bl {m : Mem} {A : Option Addr} {n c : Nat} {l : List Bool} (h : RS W0 m (.slice A n c) 1 n (bl l)) {i : Nat} {x : Bool} (hx : l[i]? = some x) : ∃ a, A = some a ∧ cellA W0 m (a.add i) = some (.bool x) := by
  have hi := (List.getElem?_eq_some_iff.1 hx).1
  have hl := h.1
  simp only [R.bl, List.length_map, Nat.mul_one] at hl
  obtain ⟨a, ha, hc⟩ := h.cell (j := i) (by omega)
  exact ⟨a, ha, hc i _ (by rw [bl_get, hx]; rfl)⟩
theorem cellsA_list {m : Mem} {a : Addr} {l : List Value} (h : ∀ j u, l[j]? = some u → cellA W0 m (a.add j) = some u) : cellsA W0 m a l.length = some l.toArray := by
  unfold cellsA
  have := mapM_from (fun j => cellA W0 m (a.add j)) l 0 fun j u hj => by rw [Nat.zero_add]; exact h j u hj
  rw [List.range_eq_range', this]; rfl
/-- An element of several cells, as a whole and cell by cell. -/
theorem RS.row {α : Type} {f : α → List Value} {k : Nat} (hf : ∀ x, (f x).length = k) {m : Mem} {A : Option Addr} {n c : Nat} {l : List α} (h : RS W0 m (.slice A n c) k n (l.flatMap f)) {i : Nat} {x : α} (hx : l[i]? = some x) (hk : 0 < k) :
    ∃ a, A = some a ∧ cellsA W0 m (a.add (i * k)) k = some (f x).toArray ∧ ∀ j u, (f x)[j]? = some u → cellA W0 m ((a.add (i * k)).add j) = some u := by
  obtain ⟨a, ha, hc⟩ := h.field hf hx hk
  refine ⟨a, ha, ?_, hc⟩
  have := cellsA_list hc
  rw [hf] at this; exact this
theorem mul_nat (i k : Nat) : ((i : Int)).toNat * k = i * k := by rw [Int.toNat_natCast]
theorem own_ne {m : Mem} {e : TypeId} {size n b : Nat} {v : Value} {xs : List Value} (h : OwnS W0 m e size v n xs) (hn : m b = none) : v.ownBlock ≠ some b := fun hb => by
  rcases h.2 with ⟨hv, _⟩ | ⟨g, cap, cur, hv, hg, hm, _⟩
  · subst hv; cases hb
  · subst hv
    simp only [Value.ownBlock, Option.map_some, Option.some.injEq] at hb
    subst hb; rw [hn] at hm; cases hm
theorem fill1 {size : Nat} {z : Array Value} {x : Value} (hx : x.cells.size = size) (hzs : z.size = size ∧ 0 < size ∧ size ≤ 16777216) : Instr.fill (fun i => some (i * size, size)) (madeCells z (1 * size)) [(0, x)] = some x.cells := by
  obtain ⟨h1, h2, h3⟩ := hzs
  have e1 : madeCells z (1 * size) = z := by
    apply Array.ext
    · simp [madeCells, h1]
    · intro i hi hi2
      simp only [madeCells, Array.getElem_map, Array.getElem_range]
      rw [Nat.mod_eq_of_lt hi2, getElem!_pos z i hi2]
  rw [e1]
  rw [fill_bld (pl := [(0, size)]) (n := z.size) (fun i => ?_) _ z rfl]
  · rw [bld_cons, List.getElem?_cons_zero, bldStep_some, if_pos ⟨hx, by omega⟩, bld_nil, wr_all (by omega)]
  · cases i with
    | zero => left; simp
    | succ i =>
      right
      refine ⟨by simp, (i + 1) * size, size, rfl, ?_⟩
      have : 0 < (i + 1) * size := Nat.mul_pos (by omega) h2
      omega
/-- A slice of one element is made. -/
theorem rbuild1 {ty e size : Nat} {z : Array Value} {x : Value} {m : Mem} {K : Value → Mem → Prop} (hsl : slOf P ty = some (e, size)) (hz : zeroOf P e = some z) (hx : x.cells.size = size) (hzs : z.size = size ∧ 0 < size ∧ size ≤ 16777216)
    (h : ∀ b m', W0.heap.size ≤ b → m b = none → Ext m m' → m' b = some (.cells x.cells e) → K (.slice (some ⟨b, 0, none⟩) 1 1) m') : RunA P W0 (Instr.buildSlice ty 1 #[(0, x)]) m K :=
  rbuild (cells := x.cells) hsl hz (by omega) (by omega) (fill1 hx hzs) fun b hb => h b _ hb.le hb.no (Ext.fresh hb _) (Mem.set_same _ _ _)
theorem bG1 {ty e size : Nat} {z : Array Value} {x : Value} {m : Mem} {K : Value → Mem → Prop} (hsl : slOf P ty = some (e, size)) (hz : zeroOf P e = some z) (hx : x.cells.size = size) (hzs : z.size = size ∧ 0 < size ∧ size ≤ 16777216)
    (h : ∀ b m', W0.heap.size ≤ b → m b = none → Ext m m' → m' b = some (.cells x.cells e) → K (.slice (some ⟨b, 0, none⟩) 1 1) m') : buildG P W0 ty 1 [(0, x)] K m :=
  ⟨e, size, z, x.cells, hsl, hz, by omega, by omega, fill1 hx hzs, fun b hb => h b _ hb.le hb.no (Ext.fresh hb _) (Mem.set_same _ _ _)⟩
theorem fill2 {z x y : Value} (hx : x.cells = #[x]) (hy : y.cells = #[y]) : Instr.fill (fun i => some (i * 1, 1)) (madeCells #[z] (2 * 1)) [(0, x), (1, y)] = some #[x, y] := by
  have : madeCells #[z] (2 * 1) = #[z, z] := by rw [made_one]; rfl
  rw [this]
  simp [Instr.fill, hx, hy]
/-- A slice of two elements of one cell is made. -/
theorem rbuild2 {ty e : Nat} {z x y : Value} {m : Mem} {K : Value → Mem → Prop} (hsl : slOf P ty = some (e, 1)) (hz : zeroOf P e = some #[z]) (hx : x.cells = #[x]) (hy : y.cells = #[y])
    (h : ∀ b m', W0.heap.size ≤ b → m b = none → Ext m m' → m' b = some (.cells #[x, y] e) → K (.slice (some ⟨b, 0, none⟩) 2 2) m') : RunA P W0 (Instr.buildSlice ty 2 #[(0, x), (1, y)]) m K :=
  rbuild (cells := #[x, y]) hsl hz (by omega) (by omega) (fill2 hx hy) fun b hb => h b _ hb.le hb.no (Ext.fresh hb _) (Mem.set_same _ _ _)
theorem bG2 {ty e : Nat} {z x y : Value} {m : Mem} {K : Value → Mem → Prop} (hsl : slOf P ty = some (e, 1)) (hz : zeroOf P e = some #[z]) (hx : x.cells = #[x]) (hy : y.cells = #[y])
    (h : ∀ b m', W0.heap.size ≤ b → m b = none → Ext m m' → m' b = some (.cells #[x, y] e) → K (.slice (some ⟨b, 0, none⟩) 2 2) m') : buildG P W0 ty 2 [(0, x), (1, y)] K m :=
  ⟨e, 1, #[z], #[x, y], hsl, hz, by omega, by omega, fill2 hx hy, fun b hb => h b _ hb.le hb.no (Ext.fresh hb _) (Mem.set_same _ _ _)⟩
/-- One more element, of a block that was made for it. -/
theorem app_one {t ty e size bytes : Nat} {z : Array Value} {m0 m : Mem} {A : Option Addr} {n c b : Nat} {xs : List Value} {cells : Array Value} {K : Value → Mem → Prop} (hsl : slOf P t = some (e, size)) (hz : zeroOf P e = some z) (hby : bytesA P e = some bytes)
    (hzs : z.size = size ∧ 0 < size) (N : NewS W0 m0 m e size (.slice A n c) n xs) (hb : W0.heap.size ≤ b) (ob : m b = some (.cells cells e)) (hc : cells.size = size) (h1 : ones cells.toList = true) (hn : n + 1 ≤ maxLen ∧ (n + 1) * bytes ≤ 140737488355328)
    (h : ∀ A' c' m', NewS W0 m0 m' e size (.slice A' (n + 1) c') (n + 1) (xs ++ cells.toList) → (∀ b o, m b = some o → (Value.slice A n c).ownBlock ≠ some b → m' b = some o ∧ (Value.slice A' (n + 1) c').ownBlock ≠ some b) → K (.slice A' (n + 1) c') m') :
    RunA P W0 (Builtin.append_ #[t, t] ty #[.slice A n c, .slice (some ⟨b, 0, none⟩) 1 1]) m K := by
  refine rappend hsl hz hby hzs.1 hzs.2 N.own (RS.block hb ob (n := 1) (by omega)) (fun u hu => ?_) hn.1 hn.2 fun v' m' hO hK hf => ?_
  · rw [ones_all] at h1; exact List.all_eq_true.1 h1 u hu
  · have hv := hO
    obtain ⟨_, A', c', rfl, _⟩ := hv.reads
    refine h A' c' m' (N.append hO hK hf) fun b o hbo hne => ⟨hK b o hbo hne, ?_⟩
    rcases hf with hf | hf
    · rw [hf]; exact hne
    · exact fun he => by rw [hf b he] at hbo; cases hbo
theorem own_facts {m : Mem} {e : TypeId} {size n g c : Nat} {xs : List Value} (h : OwnS W0 m e size (.slice (some ⟨g, 0, none⟩) n c) n xs) :
    (∀ j, j < xs.length → cellA W0 m ⟨g, j, none⟩ = xs[j]?) ∧ ∀ o k, o + k ≤ xs.length → cellsA W0 m ⟨g, o, none⟩ k = some ((xs.drop o).take k).toArray := by
  have hc : ∀ j u, xs[j]? = some u → cellA W0 m ⟨g, j, none⟩ = some u := by
    obtain ⟨_, A, c', hv, h2⟩ := h.reads
    cases hv
    intro j u hj
    rcases h2 with h2 | ⟨a, ha, h3⟩
    · subst h2; simp at hj
    · cases ha
      have := h3 j u hj
      rw [add_lit', Nat.zero_add] at this; exact this
  refine ⟨fun j hj => ?_, fun o k hk => ?_⟩
  · rw [List.getElem?_eq_getElem hj]; exact hc _ _ (List.getElem?_eq_getElem hj)
  · have hl : ((xs.drop o).take k).length = k := by simp; omega
    have := cellsA_list (W0 := W0) (m := m) (a := ⟨g, o, none⟩) (l := (xs.drop o).take k) fun j u hj => by
      rw [add_lit']
      refine hc _ _ ?_
      rw [List.getElem?_take] at hj
      split at hj
      · rwa [List.getElem?_drop] at hj
      · cases hj
    rw [hl] at this; exact this
theorem own_head {m : Mem} {e : TypeId} {size n c : Nat} {A : Option Addr} {xs : List Value} (h : OwnS W0 m e size (.slice A n c) n xs) (hn : 0 < n) : ∃ g, A = some ⟨g, 0, none⟩ := by
  obtain ⟨g, cap, hv, _⟩ := h.nn hn
  cases hv; exact ⟨g, rfl⟩
/-- A call that hands back a new slice. -/
structure Mk (P : Program) (W0 : World) (f : Nat) (args : Array Value) (m : Mem) (e : TypeId) (size n : Nat) (xs : List Value) : Prop where
  go : ∀ K : Value → Mem → Prop, (∀ A c m', NewS W0 m m' e size (.slice A n c) n xs → K (.slice A n c) m') → CallA P W0 f args m K
theorem Mk.use {f : Nat} {args : Array Value} {m : Mem} {e : TypeId} {size n : Nat} {xs : List Value} {K : Value → Mem → Prop} (h : Mk P W0 f args m e size n xs) (hk : ∀ A c m', NewS W0 m m' e size (.slice A n c) n xs → K (.slice A n c) m') : CallA P W0 f args m K := h.go K hk
/-- A fact that a walk is not to use. -/
def Hid (p : Prop) : Prop := p
theorem drop_step {α : Type} {l : List α} {i : Nat} {x : α} (h : l[i]? = some x) : l.drop i = x :: l.drop (i + 1) := by
  obtain ⟨hi, rfl⟩ := List.getElem?_eq_some_iff.1 h
  exact List.drop_eq_getElem_cons hi
theorem take_step {α : Type} {l : List α} {i : Nat} {x : α} (h : l[i]? = some x) : l.take (i + 1) = l.take i ++ [x] := by
  obtain ⟨hi, rfl⟩ := List.getElem?_eq_some_iff.1 h
  rw [List.take_add_one, List.getElem?_eq_getElem hi]; rfl
theorem get_some {α : Type} {l : List α} {i : Nat} (h : i < l.length) : ∃ x, l[i]? = some x := ⟨l[i], List.getElem?_eq_getElem h⟩
theorem nat_lt {a b : Nat} (h : a < b) : (a : Int) < b := by omega
theorem nat_not_lt {a b : Nat} (h : ¬ a < b) : ¬ (a : Int) < b := by omega
theorem wrap_succ {i : Nat} (h : i + 1 ≤ 9223372036854775807) : IntKind.i64.wrap ((i : Int) + 1) = ((i + 1 : Nat) : Int) := by rw [w64 (by omega) (by omega)]; omega
end
end Go.Proofs.Ytcddhbhdpleppaa.R
