import Derived.Test.YtacikihlgpnjhaaQ22
import Derived.Scope
namespace Go.Proofs.Ytacikihlgpnjhaa.Q
open Go Go.RowKit
set_option linter.unusedVariables false
set_option linter.unusedSimpArgs false

/-! ### A scope through which no goto goes -/

section
variable {P : Program} {bs : Base}
theorem T.scopeS {s : St} {c : Code} {Q : Exit → Act → World → Prop} (h : T P bs s c (Exit.noGoto Q)) : T P bs s (.scope c) Q := fun a w hG => wp_scope_straight (h a w hG)
theorem nS {s : St} {Q : Exit → Act → World → Prop} (h : Ends bs s .normal Q) : Ends bs s .normal (Exit.noGoto Q) := h
theorem rS {s : St} {Q : Exit → Act → World → Prop} (h : Ends bs s .ret Q) : Ends bs s .ret (Exit.noGoto Q) := h
theorem xS {s : St} {i : Nat} {Q : Exit → Act → World → Prop} (h : Ends bs s (.exit i) Q) : Ends bs s (.exit i) (Exit.noGoto Q) := h
end
end Go.Proofs.Ytacikihlgpnjhaa.Q
