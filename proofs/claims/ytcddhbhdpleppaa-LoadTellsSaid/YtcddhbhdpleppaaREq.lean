/- Structs and arrays that are compared with ==. No conditions. -/
import Derived.Test.YtcddhbhdpleppaaRLib2
import Derived.DeepKeys
import Derived.Laws.StructEq
namespace Go.Proofs.Ytcddhbhdpleppaa.R
open Go Go.RowKit
set_option linter.unusedVariables false
set_option linter.unusedSimpArgs false
/-- The kind of a cell that may be compared. -/
inductive CK where
  | b | i (k : IntKind) | s
  deriving DecidableEq
def CK.fits : CK → Value → Bool
  | .b, .bool _ => true
  | .i k, .int k' n => decide (k' = k) && (Lit.int k n).wf
  | .s, .string x => decide (x.size ≤ maxLen)
  | _, _ => false
def litV : Value → Lit
  | .bool b => .bool b
  | .int k n => .int k n
  | .string x => .string x.data.toList
  | _ => .bool false
def fitsL : List CK → List Value → Bool
  | [], [] => true
  | k :: ks, v :: vs => k.fits v && fitsL ks vs
  | _, _ => false
theorem fitsL_len : ∀ {ks : List CK} {cs : List Value}, fitsL ks cs = true → ks.length = cs.length
  | [], [], _ => rfl
  | k :: ks, v :: vs, h => by simp only [fitsL, Bool.and_eq_true] at h; simp [fitsL_len h.2]
  | [], v :: vs, h => by simp [fitsL] at h
  | k :: ks, [], h => by simp [fitsL] at h
theorem fitsL_split : ∀ {a b : List CK} {cs : List Value}, fitsL (a ++ b) cs = true → fitsL a (cs.take a.length) = true ∧ fitsL b (cs.drop a.length) = true
  | [], b, cs, h => by simpa [fitsL] using h
  | k :: a, b, [], h => by simp [fitsL] at h
  | k :: a, b, v :: vs, h => by
    simp only [List.cons_append, fitsL, Bool.and_eq_true] at h
    have := fitsL_split h.2
    simp only [List.length_cons, List.take_succ_cons, List.drop_succ_cons, fitsL, Bool.and_eq_true]
    exact ⟨⟨h.1, this.1⟩, this.2⟩
theorem fitsL_app : ∀ {a b : List CK} {x y : List Value}, fitsL a x = true → fitsL b y = true → fitsL (a ++ b) (x ++ y) = true
  | [], b, [], y, _, h => by simpa using h
  | k :: a, b, v :: x, y, h, h' => by
    simp only [fitsL, Bool.and_eq_true] at h
    simp only [List.cons_append, fitsL, Bool.and_eq_true]
    exact ⟨h.1, fitsL_app h.2 h'⟩
  | [], b, v :: x, y, h, _ => by simp [fitsL] at h
  | k :: a, b, [], y, h, _ => by simp [fitsL] at h
theorem fitsL_rep {k : CK} : ∀ {l : List Value} {n : Nat}, l.length = n → (∀ v ∈ l, k.fits v = true) → fitsL (List.replicate n k) l = true
  | [], 0, _, _ => rfl
  | v :: l, n + 1, hl, h => by
    simp only [List.replicate_succ, fitsL, Bool.and_eq_true]
    exact ⟨h v (List.mem_cons_self ..), fitsL_rep (by simpa using hl) fun u hu => h u (List.mem_cons_of_mem _ hu)⟩
  | [], n + 1, hl, _ => by simp at hl
  | v :: l, 0, hl, _ => by simp at hl
theorem fits_i64 {n : Int} (h : -9223372036854775808 ≤ n ∧ n ≤ 9223372036854775807) : (CK.i .i64).fits (.int .i64 n) = true := by
  simp only [CK.fits, Lit.wf, decide_true, Bool.true_and, Bool.and_eq_true, decide_eq_true_eq]; exact h
theorem fits_u8 {n : Int} (h : 0 ≤ n ∧ n ≤ 255) : (CK.i .u8).fits (.int .u8 n) = true := by
  simp only [CK.fits, Lit.wf, decide_true, Bool.true_and, Bool.and_eq_true, decide_eq_true_eq]; exact h
theorem fits_b (b : Bool) : CK.b.fits (.bool b) = true := rfl
theorem litV_inj {k : CK} {a b : Value} (ha : k.fits a = true) (hb : k.fits b = true) : litV a = litV b ↔ a = b := by
  constructor
  · intro h
    cases k <;> cases a <;> simp [CK.fits] at ha <;> cases b <;> simp [CK.fits] at hb <;> simp [litV] at h ⊢
    · exact h
    · exact h
    · rename_i s s'
      cases s; cases s'; simp at h; simpa using h
  · intro h; rw [h]
theorem litsV_inj : ∀ {ks : List CK} {xs ys : List Value}, fitsL ks xs = true → fitsL ks ys = true → (xs.map litV = ys.map litV ↔ xs = ys)
  | [], [], [], _, _ => by simp
  | k :: ks, x :: xs, y :: ys, h, h' => by
    simp only [fitsL, Bool.and_eq_true] at h h'
    rw [List.map_cons, List.map_cons, List.cons.injEq, List.cons.injEq, litV_inj h.1 h'.1, litsV_inj h.2 h'.2]
  | [], _ :: _, _, h, _ => by simp [fitsL] at h
  | _ :: _, [], _, h, _ => by simp [fitsL] at h
  | [], [], _ :: _, _, h => by simp [fitsL] at h
  | _ :: _, _ :: _, [], _, h => by simp [fitsL] at h
section
variable (P : Program)
def kindsF (kd : TypeId → Option (List CK)) : List Field → Nat → Option (List CK)
  | [], _ => some []
  | f :: r, off => if f.offset = off then (match kd f.type with
      | some ks => if ks.length = P.cellsOf f.type then (match kindsF kd r (off + ks.length) with | some l => some (ks ++ l) | none => none) else none
      | none => none) else none
def kinds : Nat → TypeId → Option (List CK)
  | 0, _ => none
  | d + 1, t => match P.underlying t with
    | some .bool => some [.b]
    | some (.int k) => some [.i k]
    | some .string => some [.s]
    | some (.array n e) => (match kinds d e with | some ks => if ks.length = P.cellsOf e ∧ n * ks.length = P.cellsOf t then some (List.replicate n ks).flatten else none | none => none)
    | some (.struct fs) => if fs.all (·.name != "_") = true then (match kindsF P (kinds d) fs.toList 0 with | some l => if l.length = P.cellsOf t then some l else none | none => none) else none
    | _ => none
end
section
variable {P : Program}
theorem kindsF_lits {d : Nat} (ih : ∀ t ks cs, kinds P d t = some ks → fitsL ks cs = true → P.keyLits d t cs = some (cs.map litV)) :
    ∀ (fs : List Field) (off : Nat) (ks : List CK) (cs : List Value), kindsF P (kinds P d) fs off = some ks → fitsL ks (cs.drop off) = true →
      ∃ L, (fs.mapM fun f => P.keyLits d f.type ((cs.drop f.offset).take (P.cellsOf f.type))) = some L ∧ L.flatten = (cs.drop off).map litV
  | [], off, ks, cs, h, hf => by
    simp only [kindsF, Option.some.injEq] at h
    subst h
    have := fitsL_len hf
    exact ⟨[], rfl, by rw [List.eq_nil_of_length_eq_zero this.symm]; rfl⟩
  | f :: r, off, ks, cs, h, hf => by
    unfold kindsF at h
    split at h
    · rename_i ho
      split at h
      · rename_i ks1 h1
        split at h
        · rename_i hl
          split at h
          · rename_i l h2
            cases h
            obtain ⟨f1, f2⟩ := fitsL_split hf
            rw [List.drop_drop] at f2
            obtain ⟨L, e1, e2⟩ := kindsF_lits ih r _ _ cs h2 f2
            have h3 := ih _ _ _ h1 f1
            rw [hl] at h3
            refine ⟨((cs.drop off).take (P.cellsOf f.type)).map litV :: L, ?_, ?_⟩
            · rw [List.mapM_cons, ho, h3]
              simp [e1]
            · rw [List.flatten_cons, e2, ← List.drop_drop, ← List.map_append, hl, List.take_append_drop]
          · cases h
        · cases h
      · cases h
    · cases h
theorem kindsA_lits {d : Nat} {e : TypeId} {ks : List CK} (h1 : ∀ cs, fitsL ks cs = true → P.keyLits d e cs = some (cs.map litV)) (hl : ks.length = P.cellsOf e) (cs : List Value) :
    ∀ (n s : Nat), fitsL (List.replicate n ks).flatten (cs.drop (s * P.cellsOf e)) = true →
      ∃ L, ((List.range' s n).mapM fun i => P.keyLits d e ((cs.drop (i * P.cellsOf e)).take (P.cellsOf e))) = some L ∧ L.flatten = (cs.drop (s * P.cellsOf e)).map litV
  | 0, s, hf => by
    have := fitsL_len hf
    simp at this
    exact ⟨[], rfl, by rw [List.drop_eq_nil_of_le (by omega)]; rfl⟩
  | n + 1, s, hf => by
    rw [List.replicate_succ, List.flatten_cons] at hf
    obtain ⟨f1, f2⟩ := fitsL_split hf
    have hs : (s + 1) * P.cellsOf e = s * P.cellsOf e + ks.length := by rw [Nat.succ_mul, hl]
    rw [List.drop_drop, ← hs] at f2
    obtain ⟨L, e1, e2⟩ := kindsA_lits h1 hl cs n (s + 1) f2
    have h3 := h1 _ f1
    rw [hl] at h3
    refine ⟨((cs.drop (s * P.cellsOf e)).take (P.cellsOf e)).map litV :: L, ?_, ?_⟩
    · rw [List.range'_succ, List.mapM_cons, h3]
      simp [e1]
    · rw [List.flatten_cons, e2, hs, hl, ← List.drop_drop, ← List.map_append, List.take_append_drop]
theorem keyLits_fits : ∀ (d : Nat) (t : TypeId) (ks : List CK) (cs : List Value), kinds P d t = some ks → fitsL ks cs = true → P.keyLits d t cs = some (cs.map litV)
  | 0, _, _, _, h, _ => by simp [kinds] at h
  | d + 1, t, ks, cs, h, hf => by
    unfold kinds at h
    unfold Program.keyLits
    have one : ∀ {k : CK}, fitsL [k] cs = true → ∃ v, cs = [v] ∧ k.fits v = true := fun {k} hk => by
      cases cs with
      | nil => simp [fitsL] at hk
      | cons v r =>
        cases r with
        | nil => simp [fitsL] at hk; exact ⟨v, rfl, hk⟩
        | cons _ _ => simp [fitsL] at hk
    split at h
    · rename_i hu
      cases h
      obtain ⟨v, rfl, hv⟩ := one hf
      cases v <;> simp [CK.fits] at hv
      simp [hu, litV]
    · rename_i k hu
      cases h
      obtain ⟨v, rfl, hv⟩ := one hf
      cases v <;> simp [CK.fits] at hv
      obtain ⟨rfl, hw⟩ := hv
      simp [hu, litV, hw]
    · rename_i hu
      cases h
      obtain ⟨v, rfl, hv⟩ := one hf
      cases v <;> simp [CK.fits] at hv
      simp [hu, litV, hv]
    · rename_i n e hu
      split at h
      · rename_i ks1 h1
        split at h
        · rename_i hl
          cases h
          have hlen := fitsL_len hf
          have hcs : cs.length = P.cellsOf t := by
            rw [← hlen, ← hl.2]; simp
          obtain ⟨L, e1, e2⟩ := kindsA_lits (fun cs hc => keyLits_fits d e _ cs h1 hc) hl.1 cs n 0 (by simpa using hf)
          simp only [hu, if_pos hcs, List.range_eq_range', e1, Option.map_some, e2]
          simp
        · cases h
      · cases h
    · rename_i fs hu
      split at h
      · rename_i hn
        split at h
        · rename_i l h1
          split at h
          · rename_i hl
            cases h
            have hcs : cs.length = P.cellsOf t := by rw [← fitsL_len hf, hl]
            obtain ⟨L, e1, e2⟩ := kindsF_lits (fun t ks cs hk hc => keyLits_fits d t ks cs hk hc) fs.toList 0 _ cs h1 (by simpa using hf)
            simp only [hu, hcs, hn, e1, Option.map_some, e2]
            simp
          · cases h
        · cases h
      · cases h
    · cases h
/-- What the rows of a type that is compared tell. -/
def eqTy (P : Program) (t : TypeId) (ks : List CK) : Bool := P.keyTypeAt 8 t && decide (kinds P 8 t = some ks) && !P.eqGuardType P.depth t && (match P.underlying t with | some (.array _ _) | some (.struct _) => true | _ => false) && decide (ks.length = P.cellsOf t)
theorem agg_eql {W0 : World} {op : BinOp} {t : TypeId} {x y : Operand} {xs ys : Array Value} {ks : List CK} {K : Value → Mem → Prop} {m : Mem} (ht : eqTy P t ks = true)
    (fx : fitsL ks xs.toList = true) (fy : fitsL ks ys.toList = true) (h : ∀ r : Bool, (r = true ↔ xs = ys) → eqK op r K m) : binK P W0 op t x y (.agg xs) (.agg ys) K m := by
  unfold eqTy at ht
  simp only [Bool.and_eq_true, decide_eq_true_eq, Bool.not_eq_true'] at ht
  obtain ⟨⟨⟨⟨h1, h2⟩, h3⟩, h4⟩, h5⟩ := ht
  have fm : ∀ zs : Array Value, fitsL ks zs.toList = true → (Value.agg zs).formed P t = true := fun zs hz => by
    have hl := fitsL_len hz
    unfold Value.formed
    split at h4
    · rename_i hu; simp only [hu, beq_iff_eq]; rw [← h5, hl]; simp
    · rename_i hu; simp only [hu, beq_iff_eq]; rw [← h5, hl]; simp
    · cases h4
  have lx := keyLits_fits 8 t ks xs.toList h2 fx
  have ly := keyLits_fits 8 t ks ys.toList h2 fy
  have key : ∀ w : World, ∃ r : Bool, (Op.equalIn 10000 t (.agg xs) (.agg ys)).run P w = .ok r w ∧ (r = true ↔ xs = ys) := fun w => by
    obtain ⟨r, hr, hi⟩ := run_equalIn_deep (10000 - 8) 8 t h1 w 8 8 (.agg xs) (.agg ys) _ _ (fm _ fx) (fm _ fy) lx ly
    refine ⟨r, hr, ?_⟩
    rw [hi, litsV_inj fx fy]
    exact ⟨fun e => Array.ext' e, fun e => by rw [e]⟩
  show PureA P W0 (do eqGuard op t x y (.agg xs) (.agg ys); binOp op t (.agg xs) (.agg ys)) m K
  have hg : ∀ w : World, (eqGuard op t x y (.agg xs) (.agg ys)).run P w = .ok () w := fun w => run_eqGuard_agg w op t x y xs ys h3
  obtain ⟨r0, _, hr0⟩ := key W0
  have rr : ∀ r : Bool, (r = true ↔ xs = ys) → r = r0 := fun r hr => by
    have : r = true ↔ r0 = true := hr.trans hr0.symm
    cases r <;> cases r0 <;> simp_all
  have hk := h r0 hr0
  cases op <;> simp only [eqK] at hk
  · refine .same (fun w _ => ?_) hk
    obtain ⟨r, h6, h7⟩ := key w
    rw [Sem.run_bind, hg w, Result.andThen_ok, run_eql_struct w, h6, rr r h7]; rfl
  · refine .same (fun w _ => ?_) hk
    obtain ⟨r, h6, h7⟩ := key w
    rw [Sem.run_bind, hg w, Result.andThen_ok, run_neq_struct w, h6, rr r h7]; rfl
end
end Go.Proofs.Ytcddhbhdpleppaa.R
