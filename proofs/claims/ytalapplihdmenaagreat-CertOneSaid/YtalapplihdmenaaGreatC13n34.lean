import Derived.Test.YtalapplihdmenaaGreatC13n33
namespace Go.Proofs.YtalapplihdmenaaGreat.Q
open Go Go.RowKit
set_option linter.unusedVariables false
set_option linter.unusedSimpArgs false
set_option maxRecDepth 100000
set_option maxHeartbeats 4000000
section
variable (te : Bool) (e : aE) (k : Int)
end
section
variable (te : Bool) (e : aE)
end
section
variable (tc : Bool) (c : aC) (kind : Int) (need : Int)
end
section
variable (ta : Bool) (tb : Bool) (m : aM) (k : Nat)
end
end Go.Proofs.YtalapplihdmenaaGreat.Q
