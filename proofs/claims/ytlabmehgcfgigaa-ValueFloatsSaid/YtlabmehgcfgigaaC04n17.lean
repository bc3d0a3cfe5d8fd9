import Derived.Test.YtlabmehgcfgigaaC04n13
namespace Go.Proofs.Ytlabmehgcfgigaa.Q
open Go Go.RowKit
set_option linter.unusedVariables false
set_option linter.unusedSimpArgs false
set_option maxRecDepth 100000
set_option maxHeartbeats 4000000
section
variable (tb : Bool) (nb : Bool) (b : List UInt8) (k : Nat)
end
end Go.Proofs.Ytlabmehgcfgigaa.Q
