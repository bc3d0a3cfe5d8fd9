import Derived.Test.YtalapplihdmenaaGreatC13n18
namespace Go.Proofs.YtalapplihdmenaaGreat.Q
open Go Go.RowKit
set_option linter.unusedVariables false
set_option linter.unusedSimpArgs false
set_option maxRecDepth 100000
set_option maxHeartbeats 4000000
section
variable (B : List UInt8) (r : List UInt8) (e : Int) (k : Int) (h : aH) (k2 : Nat)
end
end Go.Proofs.YtalapplihdmenaaGreat.Q
