/-
  No cell of these rows narrows 'for every input' (looked for: loops, veiled, ifaces, maps, wideKeys, modest, calm, conditions, laid).
  DERIVED. THE GIVEN ROWS OF THIS SEAT. 4 by the template 'for every input the law returns true; each argument reads behind the call as it read before'; 0 by the template 'total and deterministic' (their statements: YtalapplihdmenaaTotals.lean).
  GIVEN WITH THE SEED: the statements are not yours to turn. If you find one false, say at which input.
  Laid BY PROGRAM, IN A SANDBOX (cutbox-rows.mjs): the forced cells as the released guide's own fill.sh prints them over the translation 836b7d371e53a3d2… (all of the seat's roots in one cut). By AI agents, Wed Nov 11 2026. No macro, syntax, notation, axiom, sorry.
-/
import Derived.Test.YtalapplihdmenaaChecked
import GoSem.Claim
import GoSem.ClaimJoined
import GoSem.ClaimMapViews
import Derived.JoinedTies
import Derived.KernelRfl
namespace Go.Proofs.Ytalapplihdmenaa
/- THE CELL 'sum', in the pinned program and in every row, IS THE sha256 OF THE DUMP (.gsa) THAT YtalapplihdmenaaProg.lean LOADS. Nothing in Lean hashes anything: it is a label: what it is worth is what the hold of that sum in a sandbox is worth. -/
noncomputable def Try.pinned : Pinned := { name := "ytalapplihdmenaa", sum := "836b7d371e53a3d2c9ad9e2d137467184b9345dbc083f4a562626675088ea62b", checked := Try.checked }
namespace Rows
def none {H : Type} : Left H := { results := [], args := [] }

/-- 'quaestorlaw13.CertRequests': WHATEVER THE INPUT: true; the input reads as it did. -/
def certRequestsSpec : ChangeSpec := { name := "certRequests", fn := fun _ => fun
  | [d1, d2] => { results := [.lit (.bool true)], args := [d1, d2] }
  | _ => none }
def certRequestsRow : OpenClaim := { program := "ytalapplihdmenaa", sum := "836b7d371e53a3d2c9ad9e2d137467184b9345dbc083f4a562626675088ea62b", func := "quaestor/quaestorlaw13.CertRequests", spec := "certRequests", unfollowed := true, recurses := true, plainKeys := false, apart := false }
def CertRequestsSaid : Prop := certRequestsRow.holds Try.pinned (OpenSpec.ofChange certRequestsSpec)

/-- ITS FALSE NEIGHBOUR: 'it returns false'. Refute it at one input. -/
def certRequestsWrong : ChangeSpec := { name := "certRequests", fn := fun _ => fun
  | [d1, d2] => { results := [.lit (.bool false)], args := [d1, d2] }
  | _ => none }
def CertRequestsWrongFalsely : Prop := certRequestsRow.holds Try.pinned (OpenSpec.ofChange certRequestsWrong)

/-- 'quaestorlaw13.CertBinds': WHATEVER THE INPUT: true; the input reads as it did. -/
def certBindsSpec : ChangeSpec := { name := "certBinds", fn := fun _ => fun
  | [d1, d2, d3] => { results := [.lit (.bool true)], args := [d1, d2, d3] }
  | _ => none }
def certBindsRow : OpenClaim := { program := "ytalapplihdmenaa", sum := "836b7d371e53a3d2c9ad9e2d137467184b9345dbc083f4a562626675088ea62b", func := "quaestor/quaestorlaw13.CertBinds", spec := "certBinds", unfollowed := true, recurses := true, plainKeys := false, apart := false }
def CertBindsSaid : Prop := certBindsRow.holds Try.pinned (OpenSpec.ofChange certBindsSpec)

/-- ITS FALSE NEIGHBOUR: 'it returns false'. Refute it at one input. -/
def certBindsWrong : ChangeSpec := { name := "certBinds", fn := fun _ => fun
  | [d1, d2, d3] => { results := [.lit (.bool false)], args := [d1, d2, d3] }
  | _ => none }
def CertBindsWrongFalsely : Prop := certBindsRow.holds Try.pinned (OpenSpec.ofChange certBindsWrong)

/-- 'quaestorlaw13.CertStable': WHATEVER THE INPUT: true; the input reads as it did. -/
def certStableSpec : ChangeSpec := { name := "certStable", fn := fun _ => fun
  | [d1, d2, d3] => { results := [.lit (.bool true)], args := [d1, d2, d3] }
  | _ => none }
def certStableRow : OpenClaim := { program := "ytalapplihdmenaa", sum := "836b7d371e53a3d2c9ad9e2d137467184b9345dbc083f4a562626675088ea62b", func := "quaestor/quaestorlaw13.CertStable", spec := "certStable", unfollowed := true, recurses := true, plainKeys := false, apart := false }
def CertStableSaid : Prop := certStableRow.holds Try.pinned (OpenSpec.ofChange certStableSpec)

/-- ITS FALSE NEIGHBOUR: 'it returns false'. Refute it at one input. -/
def certStableWrong : ChangeSpec := { name := "certStable", fn := fun _ => fun
  | [d1, d2, d3] => { results := [.lit (.bool false)], args := [d1, d2, d3] }
  | _ => none }
def CertStableWrongFalsely : Prop := certStableRow.holds Try.pinned (OpenSpec.ofChange certStableWrong)

/-- 'quaestorlaw13.CertForged': WHATEVER THE INPUT: true; the input reads as it did. -/
def certForgedSpec : ChangeSpec := { name := "certForged", fn := fun _ => fun
  | [d1, d2] => { results := [.lit (.bool true)], args := [d1, d2] }
  | _ => none }
def certForgedRow : OpenClaim := { program := "ytalapplihdmenaa", sum := "836b7d371e53a3d2c9ad9e2d137467184b9345dbc083f4a562626675088ea62b", func := "quaestor/quaestorlaw13.CertForged", spec := "certForged", unfollowed := true, recurses := true, plainKeys := false, apart := false }
def CertForgedSaid : Prop := certForgedRow.holds Try.pinned (OpenSpec.ofChange certForgedSpec)

/-- ITS FALSE NEIGHBOUR: 'it returns false'. Refute it at one input. -/
def certForgedWrong : ChangeSpec := { name := "certForged", fn := fun _ => fun
  | [d1, d2] => { results := [.lit (.bool false)], args := [d1, d2] }
  | _ => none }
def CertForgedWrongFalsely : Prop := certForgedRow.holds Try.pinned (OpenSpec.ofChange certForgedWrong)

/- THE SECOND FORM. 'bulk': how many values and letters a reading holds, each counted each time it is reached (what is shared counts as often as it is met; a slice's spare places count too). A statement '..UptoSaid' is the law's where the arguments, and the package variables that the reading takes, are together of bulk at most 1048576: NARROWER than '..Said'. Prove '..Said' where nothing that the law and all that it calls make is longer than what came in: it says more and counts as full. Else prove '..UptoSaid'. A law counts once. -/
mutual
def uptoBulk {H : Type} : DataW H → Nat
  | .lit (.string bytes) => bytes.length + 1
  | .lit _ => 1
  | .nil => 1
  | .ptr d => uptoBulk d + 1
  | .slice elems spare => uptoBulkAll elems + uptoBulkAll spare + 1
  | .agg parts => uptoBulkAll parts + 1
  | .iface _ d => uptoBulk d + 1
  | .map entries => uptoBulkEntries entries + 1
  | .held _ => 1
def uptoBulkAll {H : Type} : List (DataW H) → Nat
  | [] => 0
  | d :: r => uptoBulk d + uptoBulkAll r
def uptoBulkEntries {H : Type} : List (Lit × DataW H) → Nat
  | [] => 0
  | x :: r => uptoBulkEntry x + uptoBulkEntries r
def uptoBulkEntry {H : Type} : Lit × DataW H → Nat
  | (.string bytes, d) => bytes.length + uptoBulk d + 1
  | (_, d) => uptoBulk d + 1
 end
def uptoSmall : (H : Type) → List (DataW H) → Bool := fun _ ds => decide (uptoBulkAll ds ≤ 1048576)
def OpenSpec.upto (s : _root_.Go.ChangeSpec) : _root_.Go.OpenSpec := { _root_.Go.OpenSpec.ofChange s with cond := some uptoSmall }

/-- 'quaestorlaw13.CertRequests', WHERE WHAT IT READS IS OF BULK AT MOST 1048576: true; the input reads as it did. -/
def certRequestsUptoRow : OpenClaim := { program := "ytalapplihdmenaa", sum := "836b7d371e53a3d2c9ad9e2d137467184b9345dbc083f4a562626675088ea62b", func := "quaestor/quaestorlaw13.CertRequests", spec := "certRequests", unfollowed := true, recurses := true, plainKeys := false, apart := false, narrowed := true }
def CertRequestsUptoSaid : Prop := certRequestsUptoRow.holds Try.pinned (OpenSpec.upto certRequestsSpec)

/-- 'quaestorlaw13.CertBinds', WHERE WHAT IT READS IS OF BULK AT MOST 1048576: true; the input reads as it did. -/
def certBindsUptoRow : OpenClaim := { program := "ytalapplihdmenaa", sum := "836b7d371e53a3d2c9ad9e2d137467184b9345dbc083f4a562626675088ea62b", func := "quaestor/quaestorlaw13.CertBinds", spec := "certBinds", unfollowed := true, recurses := true, plainKeys := false, apart := false, narrowed := true }
def CertBindsUptoSaid : Prop := certBindsUptoRow.holds Try.pinned (OpenSpec.upto certBindsSpec)

/-- 'quaestorlaw13.CertStable', WHERE WHAT IT READS IS OF BULK AT MOST 1048576: true; the input reads as it did. -/
def certStableUptoRow : OpenClaim := { program := "ytalapplihdmenaa", sum := "836b7d371e53a3d2c9ad9e2d137467184b9345dbc083f4a562626675088ea62b", func := "quaestor/quaestorlaw13.CertStable", spec := "certStable", unfollowed := true, recurses := true, plainKeys := false, apart := false, narrowed := true }
def CertStableUptoSaid : Prop := certStableUptoRow.holds Try.pinned (OpenSpec.upto certStableSpec)

/-- 'quaestorlaw13.CertForged', WHERE WHAT IT READS IS OF BULK AT MOST 1048576: true; the input reads as it did. -/
def certForgedUptoRow : OpenClaim := { program := "ytalapplihdmenaa", sum := "836b7d371e53a3d2c9ad9e2d137467184b9345dbc083f4a562626675088ea62b", func := "quaestor/quaestorlaw13.CertForged", spec := "certForged", unfollowed := true, recurses := true, plainKeys := false, apart := false, narrowed := true }
def CertForgedUptoSaid : Prop := certForgedUptoRow.holds Try.pinned (OpenSpec.upto certForgedSpec)

end Rows
end Go.Proofs.Ytalapplihdmenaa
