import Derived.Test.YtnaopgohccacmaaGreatC19n31
namespace Go.Proofs.YtnaopgohccacmaaGreat.Q
open Go Go.RowKit
set_option linter.unusedVariables false
set_option linter.unusedSimpArgs false
set_option maxRecDepth 100000
set_option maxHeartbeats 4000000
section
variable (f:Int) (u:Int) (l:List aE) (e:aE)
end
end Go.Proofs.YtnaopgohccacmaaGreat.Q
