import Derived.Test.YtalapplihdmenaaGreatC13n30
namespace Go.Proofs.YtalapplihdmenaaGreat.Q
open Go Go.RowKit
set_option linter.unusedVariables false
set_option linter.unusedSimpArgs false
set_option maxRecDepth 100000
set_option maxHeartbeats 4000000
theorem iat_68 : Tryz.prog.info? 68 = some Tryz.t68 := by kernel_rfl
section
variable (f : Int) (u : Int) (l : List aE) (c : quaestorlaw13_Case) (k : Nat)
end
end Go.Proofs.YtalapplihdmenaaGreat.Q
