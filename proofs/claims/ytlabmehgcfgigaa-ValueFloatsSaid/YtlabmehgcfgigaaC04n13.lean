import Derived.Test.YtlabmehgcfgigaaC04n10
namespace Go.Proofs.Ytlabmehgcfgigaa.Q
set_option linter.unusedVariables false
set_option linter.unusedSimpArgs false
set_option maxRecDepth 100000
section
variable {v : Val} {f : api_Field}
end
section
variable {x y : Int} (hx : inR x) (hy : inR y)
include hx in
include hx in
end
end Go.Proofs.Ytlabmehgcfgigaa.Q
namespace Go.Proofs.Ytlabmehgcfgigaa.Q
open Go Go.RowKit
set_option linter.unusedVariables false
set_option linter.unusedSimpArgs false
set_option maxRecDepth 100000
set_option maxHeartbeats 4000000
section
variable (a : api_Value) (f : api_Field) (k : Nat)
end
end Go.Proofs.Ytlabmehgcfgigaa.Q
