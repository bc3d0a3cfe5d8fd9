import Derived.Test.YtacikihlgpnjhaaQ14
import Derived.Below
namespace Go.Proofs.Ytacikihlgpnjhaa.Q
open Go Go.RowKit
set_option linter.unusedVariables false

variable {P : Program}

/-- A law without arguments. -/
theorem law0 {f : Nat} (h : Holds P f ⟨[], [], dv (.bool true), []⟩) (W : World) : Calls P f #[] W fun e w' => e = .returned (.bool true) ∧ Below W.heap.size W w' := by
  refine (h W (fun _ => none) (fun _ => False) (fun _ => False) [] rfl ?_).mono ?_
  · exact { df := rfl, sz := rfl, tm := fun k => by cases k <;> exact trivial, ob := fun l o e => (by cases l <;> cases e), nj := fun l l' o o' e => (by cases l <;> cases e), sp := fun l o p e => (by cases l <;> cases e), cf := fun l o p e => (by cases l <;> cases e), fr := fun _ _ => rfl, su := fun _ h => h, ub := fun _ h => h.elim, s0 := fun _ h => h, u0 := fun _ h => h, sn := fun _ h => h.elim, un := fun _ h => h.elim, ps := fun _ _ _ => rfl, hs := Nat.le_refl _, os := rfl, tp := rfl, op := rfl, bl := fun _ _ h => h, bk := fun _ _ => rfl }
  · rintro e w' ⟨v, B', S', U', rfl, g⟩
    have hv : v = .bool true := g.tm 0
    subst hv
    exact ⟨rfl, ⟨g.os, g.tp, g.op, g.hs, fun k hk => g.ps k hk fun ⟨i, κ, hi, _⟩ => absurd hi (Nat.not_lt_zero _)⟩⟩
end Go.Proofs.Ytacikihlgpnjhaa.Q
