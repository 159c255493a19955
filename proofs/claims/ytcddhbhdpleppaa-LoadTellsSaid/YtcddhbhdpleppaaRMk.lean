/- A call in a region that draws, that hands back a new slice. No conditions. -/
import Derived.Test.YtcddhbhdpleppaaRAuto
set_option linter.unusedVariables false
namespace Go.Proofs.Ytcddhbhdpleppaa.R
open Go Go.RowKit
section
variable {P : Program} {W0 : World}
theorem Mk.made {f : Nat} {args : Array Value} {m : Mem} {e : TypeId} {size n : Nat} {xs : List Value} {K : Value → Mem → Prop} (hm : ∀ M, Ext m M → Mk P W0 f args M e size n xs)
    (hk : ∀ A c m2, Ext m m2 → OwnS W0 m2 e size (.slice A n c) n xs → K (.slice A n c) m2) :
    ∃ S : Value → Mem → Prop, (∀ v m1 m2, Ext m1 m2 → S v m1 → S v m2) ∧ (∀ m', Ext m m' → CallA P W0 f args m' (fun v m2 => Ext m' m2 ∧ S v m2)) ∧ ∀ v m2, Sat W0 m2 → Ext m m2 → S v m2 → K v m2 :=
  ⟨fun v M => ∃ A c, v = .slice A n c ∧ OwnS W0 M e size (.slice A n c) n xs, fun v m1 m2 x ⟨A, c, h1, h2⟩ => ⟨A, c, h1, h2.ext x⟩, fun M x => (hm M x).go _ fun A c m' N => ⟨N.ext, A, c, rfl, N.own⟩, fun v m2 _ x ⟨A, c, h1, h2⟩ => by subst h1; exact hk A c m2 x h2⟩
/-- The same, where blocks are made beside it (flags i and i + 3000). -/
theorem Mk.madeD {f : Nat} {args : Array Value} {m : Mem} {e : TypeId} {size n : Nat} {xs : List Value} {K : Value → Mem → Prop} (hm : ∀ M, Ext m M → Mk P W0 f args M e size n xs)
    (hk : ∀ A c m2, Ext m m2 → OwnS W0 m2 e size (.slice A n c) n xs → K (.slice A n c) m2) :
    ∃ S : Value → Mem → Prop, (∀ v m1 m2, Ext m1 m2 → S v m1 → S v m2) ∧ (∀ m', Ext m m' → CallA P W0 f args m' (fun v m2 => Ext m' m2 ∧ ∃ d, Sep m' m2 d ∧ S v d)) ∧ ∀ v m2, Sat W0 m2 → Ext m m2 → S v m2 → K v m2 :=
  ⟨fun v M => ∃ A c, v = .slice A n c ∧ OwnS W0 M e size (.slice A n c) n xs, fun v m1 m2 x ⟨A, c, h1, h2⟩ => ⟨A, c, h1, h2.ext x⟩,
   fun M x => (hm M x).go _ fun A c m' N => ⟨N.ext, fun k => if (Value.slice A n c).ownBlock = some k then m' k else none, fun k o hk => (by
      by_cases hb : (Value.slice A n c).ownBlock = some k
      · simp only [hb, if_true] at hk; exact ⟨N.new k hb, hk⟩
      · simp only [hb, if_false] at hk; cases hk), A, c, rfl, N.own.frame fun k o hb ho => (by simp only [hb, if_true]; exact ho)⟩, fun v m2 _ x ⟨A, c, h1, h2⟩ => by subst h1; exact hk A c m2 x h2⟩
end
end Go.Proofs.Ytcddhbhdpleppaa.R
