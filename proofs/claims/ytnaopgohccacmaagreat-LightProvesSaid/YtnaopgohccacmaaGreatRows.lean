/-
  No cell of these rows narrows 'for every input' (looked for: loops, veiled, ifaces, maps, wideKeys, modest, calm, conditions, laid).
  DERIVED. THE GIVEN ROWS OF THIS SEAT. 6 by the template 'for every input the law returns true; each argument reads behind the call as it read before'; 0 by the template 'total and deterministic' (their statements: YtnaopgohccacmaaGreatTotals.lean).
  GIVEN WITH THE SEED: the statements are not yours to turn. If you find one false, say at which input.
  Laid BY PROGRAM, IN A SANDBOX (cutbox-rows.mjs): the forced cells as the released guide's own fill.sh prints them over the translation 065c5e32ef8b8219… (all of the seat's roots in one cut). By AI agents, Wed Nov 11 2026. No macro, syntax, notation, axiom, sorry.
-/
import Derived.Test.YtnaopgohccacmaaGreatChecked
import GoSem.Claim
import GoSem.ClaimJoined
import GoSem.ClaimMapViews
import Derived.JoinedTies
import Derived.KernelRfl
namespace Go.Proofs.YtnaopgohccacmaaGreat
/- THE CELL 'sum', in the pinned program and in every row, IS THE sha256 OF THE DUMP (.gsa) THAT YtnaopgohccacmaaGreatProg.lean LOADS. Nothing in Lean hashes anything: it is a label: what it is worth is what the hold of that sum in a sandbox is worth. -/
noncomputable def Tryz.pinned : Pinned := { name := "ytnaopgohccacmaagreat", sum := "065c5e32ef8b82190ed6654339266874b9ab0532e6af2878979689fe61756c05", checked := Tryz.checked }
namespace Rows
def none {H : Type} : Left H := { results := [], args := [] }

/-- 'quaestorlaw19.LightChecks': WHATEVER THE INPUT: true; the input reads as it did. -/
def lightChecksSpec : ChangeSpec := { name := "lightChecks", fn := fun _ => fun
  | [d1, d2, d3] => { results := [.lit (.bool true)], args := [d1, d2, d3] }
  | _ => none }
def lightChecksRow : OpenClaim := { program := "ytnaopgohccacmaagreat", sum := "065c5e32ef8b82190ed6654339266874b9ab0532e6af2878979689fe61756c05", func := "quaestor/quaestorlaw19.LightChecks", spec := "lightChecks", unfollowed := true, recurses := true, plainKeys := false, apart := false }
def LightChecksSaid : Prop := lightChecksRow.holds Tryz.pinned (OpenSpec.ofChange lightChecksSpec)

/-- ITS FALSE NEIGHBOUR: 'it returns false'. Refute it at one input. -/
def lightChecksWrong : ChangeSpec := { name := "lightChecks", fn := fun _ => fun
  | [d1, d2, d3] => { results := [.lit (.bool false)], args := [d1, d2, d3] }
  | _ => none }
def LightChecksWrongFalsely : Prop := lightChecksRow.holds Tryz.pinned (OpenSpec.ofChange lightChecksWrong)

/-- 'quaestorlaw19.LightProves': WHATEVER THE INPUT: true; the input reads as it did. -/
def lightProvesSpec : ChangeSpec := { name := "lightProves", fn := fun _ => fun
  | [d1, d2, d3] => { results := [.lit (.bool true)], args := [d1, d2, d3] }
  | _ => none }
def lightProvesRow : OpenClaim := { program := "ytnaopgohccacmaagreat", sum := "065c5e32ef8b82190ed6654339266874b9ab0532e6af2878979689fe61756c05", func := "quaestor/quaestorlaw19.LightProves", spec := "lightProves", unfollowed := true, recurses := true, plainKeys := false, apart := false }
def LightProvesSaid : Prop := lightProvesRow.holds Tryz.pinned (OpenSpec.ofChange lightProvesSpec)

/-- ITS FALSE NEIGHBOUR: 'it returns false'. Refute it at one input. -/
def lightProvesWrong : ChangeSpec := { name := "lightProves", fn := fun _ => fun
  | [d1, d2, d3] => { results := [.lit (.bool false)], args := [d1, d2, d3] }
  | _ => none }
def LightProvesWrongFalsely : Prop := lightProvesRow.holds Tryz.pinned (OpenSpec.ofChange lightProvesWrong)

/-- 'quaestorlaw19.LightSound': WHATEVER THE INPUT: true; the input reads as it did. -/
def lightSoundSpec : ChangeSpec := { name := "lightSound", fn := fun _ => fun
  | [d1, d2, d3] => { results := [.lit (.bool true)], args := [d1, d2, d3] }
  | _ => none }
def lightSoundRow : OpenClaim := { program := "ytnaopgohccacmaagreat", sum := "065c5e32ef8b82190ed6654339266874b9ab0532e6af2878979689fe61756c05", func := "quaestor/quaestorlaw19.LightSound", spec := "lightSound", unfollowed := true, recurses := true, plainKeys := false, apart := false }
def LightSoundSaid : Prop := lightSoundRow.holds Tryz.pinned (OpenSpec.ofChange lightSoundSpec)

/-- ITS FALSE NEIGHBOUR: 'it returns false'. Refute it at one input. -/
def lightSoundWrong : ChangeSpec := { name := "lightSound", fn := fun _ => fun
  | [d1, d2, d3] => { results := [.lit (.bool false)], args := [d1, d2, d3] }
  | _ => none }
def LightSoundWrongFalsely : Prop := lightSoundRow.holds Tryz.pinned (OpenSpec.ofChange lightSoundWrong)

/-- 'quaestorlaw19.LightStates': WHATEVER THE INPUT: true; the input reads as it did. -/
def lightStatesSpec : ChangeSpec := { name := "lightStates", fn := fun _ => fun
  | [d1, d2, d3] => { results := [.lit (.bool true)], args := [d1, d2, d3] }
  | _ => none }
def lightStatesRow : OpenClaim := { program := "ytnaopgohccacmaagreat", sum := "065c5e32ef8b82190ed6654339266874b9ab0532e6af2878979689fe61756c05", func := "quaestor/quaestorlaw19.LightStates", spec := "lightStates", unfollowed := true, recurses := true, plainKeys := false, apart := false }
def LightStatesSaid : Prop := lightStatesRow.holds Tryz.pinned (OpenSpec.ofChange lightStatesSpec)

/-- ITS FALSE NEIGHBOUR: 'it returns false'. Refute it at one input. -/
def lightStatesWrong : ChangeSpec := { name := "lightStates", fn := fun _ => fun
  | [d1, d2, d3] => { results := [.lit (.bool false)], args := [d1, d2, d3] }
  | _ => none }
def LightStatesWrongFalsely : Prop := lightStatesRow.holds Tryz.pinned (OpenSpec.ofChange lightStatesWrong)

/-- 'quaestorlaw19.LightOrders': WHATEVER THE INPUT: true; the input reads as it did. -/
def lightOrdersSpec : ChangeSpec := { name := "lightOrders", fn := fun _ => fun
  | [d1, d2, d3] => { results := [.lit (.bool true)], args := [d1, d2, d3] }
  | _ => none }
def lightOrdersRow : OpenClaim := { program := "ytnaopgohccacmaagreat", sum := "065c5e32ef8b82190ed6654339266874b9ab0532e6af2878979689fe61756c05", func := "quaestor/quaestorlaw19.LightOrders", spec := "lightOrders", unfollowed := true, recurses := true, plainKeys := false, apart := false }
def LightOrdersSaid : Prop := lightOrdersRow.holds Tryz.pinned (OpenSpec.ofChange lightOrdersSpec)

/-- ITS FALSE NEIGHBOUR: 'it returns false'. Refute it at one input. -/
def lightOrdersWrong : ChangeSpec := { name := "lightOrders", fn := fun _ => fun
  | [d1, d2, d3] => { results := [.lit (.bool false)], args := [d1, d2, d3] }
  | _ => none }
def LightOrdersWrongFalsely : Prop := lightOrdersRow.holds Tryz.pinned (OpenSpec.ofChange lightOrdersWrong)

/-- 'quaestorlaw19.LightFew': WHATEVER THE INPUT: true; the input reads as it did. -/
def lightFewSpec : ChangeSpec := { name := "lightFew", fn := fun _ => fun
  | [d1, d2, d3] => { results := [.lit (.bool true)], args := [d1, d2, d3] }
  | _ => none }
def lightFewRow : OpenClaim := { program := "ytnaopgohccacmaagreat", sum := "065c5e32ef8b82190ed6654339266874b9ab0532e6af2878979689fe61756c05", func := "quaestor/quaestorlaw19.LightFew", spec := "lightFew", unfollowed := true, recurses := true, plainKeys := false, apart := false }
def LightFewSaid : Prop := lightFewRow.holds Tryz.pinned (OpenSpec.ofChange lightFewSpec)

/-- ITS FALSE NEIGHBOUR: 'it returns false'. Refute it at one input. -/
def lightFewWrong : ChangeSpec := { name := "lightFew", fn := fun _ => fun
  | [d1, d2, d3] => { results := [.lit (.bool false)], args := [d1, d2, d3] }
  | _ => none }
def LightFewWrongFalsely : Prop := lightFewRow.holds Tryz.pinned (OpenSpec.ofChange lightFewWrong)

/- THE SECOND FORM. 'bulk': how many values and letters a reading holds, each counted each time it is reached (what is shared counts as often as it is met; a slice's spare places count too). A statement '..UptoSaid' is the law's where the arguments, and the package variables that the reading takes, are together of bulk at most 1048576: NARROWER than '..Said'. Prove '..Said' where nothing that the law and all that it calls make is longer than what came in: it says more and counts as full. Else prove '..UptoSaid'. A law counts once. -/
mutual
def uptoBulk {H : Type} : DataW H → Nat
  | .lit (.string bytes) => bytes.length + 1
  | .lit _ => 1
  | .nil => 1
  | .ptr d => uptoBulk d + 1
  | .slice elems spare => uptoBulkAll elems + uptoBulkAll spare + 1
  | .agg parts => uptoBulkAll parts + 1
  | .iface _ d => uptoBulk d + 1
  | .map entries => uptoBulkEntries entries + 1
  | .held _ => 1
def uptoBulkAll {H : Type} : List (DataW H) → Nat
  | [] => 0
  | d :: r => uptoBulk d + uptoBulkAll r
def uptoBulkEntries {H : Type} : List (Lit × DataW H) → Nat
  | [] => 0
  | x :: r => uptoBulkEntry x + uptoBulkEntries r
def uptoBulkEntry {H : Type} : Lit × DataW H → Nat
  | (.string bytes, d) => bytes.length + uptoBulk d + 1
  | (_, d) => uptoBulk d + 1
 end
def uptoSmall : (H : Type) → List (DataW H) → Bool := fun _ ds => decide (uptoBulkAll ds ≤ 1048576)
def OpenSpec.upto (s : _root_.Go.ChangeSpec) : _root_.Go.OpenSpec := { _root_.Go.OpenSpec.ofChange s with cond := some uptoSmall }

/-- 'quaestorlaw19.LightChecks', WHERE WHAT IT READS IS OF BULK AT MOST 1048576: true; the input reads as it did. -/
def lightChecksUptoRow : OpenClaim := { program := "ytnaopgohccacmaagreat", sum := "065c5e32ef8b82190ed6654339266874b9ab0532e6af2878979689fe61756c05", func := "quaestor/quaestorlaw19.LightChecks", spec := "lightChecks", unfollowed := true, recurses := true, plainKeys := false, apart := false, narrowed := true }
def LightChecksUptoSaid : Prop := lightChecksUptoRow.holds Tryz.pinned (OpenSpec.upto lightChecksSpec)

/-- 'quaestorlaw19.LightProves', WHERE WHAT IT READS IS OF BULK AT MOST 1048576: true; the input reads as it did. -/
def lightProvesUptoRow : OpenClaim := { program := "ytnaopgohccacmaagreat", sum := "065c5e32ef8b82190ed6654339266874b9ab0532e6af2878979689fe61756c05", func := "quaestor/quaestorlaw19.LightProves", spec := "lightProves", unfollowed := true, recurses := true, plainKeys := false, apart := false, narrowed := true }
def LightProvesUptoSaid : Prop := lightProvesUptoRow.holds Tryz.pinned (OpenSpec.upto lightProvesSpec)

/-- 'quaestorlaw19.LightSound', WHERE WHAT IT READS IS OF BULK AT MOST 1048576: true; the input reads as it did. -/
def lightSoundUptoRow : OpenClaim := { program := "ytnaopgohccacmaagreat", sum := "065c5e32ef8b82190ed6654339266874b9ab0532e6af2878979689fe61756c05", func := "quaestor/quaestorlaw19.LightSound", spec := "lightSound", unfollowed := true, recurses := true, plainKeys := false, apart := false, narrowed := true }
def LightSoundUptoSaid : Prop := lightSoundUptoRow.holds Tryz.pinned (OpenSpec.upto lightSoundSpec)

/-- 'quaestorlaw19.LightStates', WHERE WHAT IT READS IS OF BULK AT MOST 1048576: true; the input reads as it did. -/
def lightStatesUptoRow : OpenClaim := { program := "ytnaopgohccacmaagreat", sum := "065c5e32ef8b82190ed6654339266874b9ab0532e6af2878979689fe61756c05", func := "quaestor/quaestorlaw19.LightStates", spec := "lightStates", unfollowed := true, recurses := true, plainKeys := false, apart := false, narrowed := true }
def LightStatesUptoSaid : Prop := lightStatesUptoRow.holds Tryz.pinned (OpenSpec.upto lightStatesSpec)

/-- 'quaestorlaw19.LightOrders', WHERE WHAT IT READS IS OF BULK AT MOST 1048576: true; the input reads as it did. -/
def lightOrdersUptoRow : OpenClaim := { program := "ytnaopgohccacmaagreat", sum := "065c5e32ef8b82190ed6654339266874b9ab0532e6af2878979689fe61756c05", func := "quaestor/quaestorlaw19.LightOrders", spec := "lightOrders", unfollowed := true, recurses := true, plainKeys := false, apart := false, narrowed := true }
def LightOrdersUptoSaid : Prop := lightOrdersUptoRow.holds Tryz.pinned (OpenSpec.upto lightOrdersSpec)

/-- 'quaestorlaw19.LightFew', WHERE WHAT IT READS IS OF BULK AT MOST 1048576: true; the input reads as it did. -/
def lightFewUptoRow : OpenClaim := { program := "ytnaopgohccacmaagreat", sum := "065c5e32ef8b82190ed6654339266874b9ab0532e6af2878979689fe61756c05", func := "quaestor/quaestorlaw19.LightFew", spec := "lightFew", unfollowed := true, recurses := true, plainKeys := false, apart := false, narrowed := true }
def LightFewUptoSaid : Prop := lightFewUptoRow.holds Tryz.pinned (OpenSpec.upto lightFewSpec)

end Rows
end Go.Proofs.YtnaopgohccacmaaGreat
