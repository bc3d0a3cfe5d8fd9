import Derived.Test.YtnaopgohccacmaaGreatC19n29
namespace Go.Proofs.YtnaopgohccacmaaGreat.Q
open Go Go.RowKit
set_option linter.unusedVariables false
set_option linter.unusedSimpArgs false
set_option maxRecDepth 100000
set_option maxHeartbeats 4000000
section
variable (f:Int) (u:Int) (l:List aE) (e:aE)
end
section
variable (f:Int) (u:Int) (rows:List (Yn×Bool)) (tx:Bool) (nx:Bool) (sx:Bool) (x:List aE) (k:Nat)
end
section
variable (x:List aE) (f:Int) (u:Int) (l:List aE) (k:Nat)
end
section
variable (f:Int) (u:Int) (rows:List (Yn×Bool)) (te:Bool) (e:aE)
end
end Go.Proofs.YtnaopgohccacmaaGreat.Q
