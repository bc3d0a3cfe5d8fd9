/-
  No cell of these rows narrows 'for every input' (looked for: loops, veiled, ifaces, maps, wideKeys, modest, calm, conditions, laid).
  DERIVED. THE GIVEN ROWS OF THIS SEAT. 7 by the template 'for every input the law returns true; each argument reads behind the call as it read before'; 0 by the template 'total and deterministic' (their statements: YtcpdbbabbnbghaaTotals.lean).
  GIVEN WITH THE SEED: the statements are not yours to turn. If you find one false, say at which input.
  Laid BY PROGRAM, IN A SANDBOX (cutbox-rows.mjs): the forced cells as the released guide's own fill.sh prints them over the translation ca5d9f3289277fc4… (all of the seat's roots in one cut). By AI agents, Wed Nov 11 2026. No macro, syntax, notation, axiom, sorry.
-/
import Derived.Test.YtcpdbbabbnbghaaChecked
import GoSem.Claim
import GoSem.ClaimJoined
import GoSem.ClaimMapViews
import Derived.JoinedTies
import Derived.KernelRfl
namespace Go.Proofs.Ytcpdbbabbnbghaa
/- THE CELL 'sum', in the pinned program and in every row, IS THE sha256 OF THE DUMP (.gsa) THAT YtcpdbbabbnbghaaProg.lean LOADS. Nothing in Lean hashes anything: it is a label: what it is worth is what the hold of that sum in a sandbox is worth. -/
noncomputable def Try.pinned : Pinned := { name := "ytcpdbbabbnbghaa", sum := "ca5d9f3289277fc47577b7d3c4b10094a04f9e62a10c9aabc23093c029f6c336", checked := Try.checked }
namespace Rows
def none {H : Type} : Left H := { results := [], args := [] }

/-- 'quaestorlaw09.MerkleRoots': WHATEVER THE INPUT: true; the input reads as it did. -/
def merkleRootsSpec : ChangeSpec := { name := "merkleRoots", fn := fun _ => fun
  | [d] => { results := [.lit (.bool true)], args := [d] }
  | _ => none }
def merkleRootsRow : OpenClaim := { program := "ytcpdbbabbnbghaa", sum := "ca5d9f3289277fc47577b7d3c4b10094a04f9e62a10c9aabc23093c029f6c336", func := "quaestor/quaestorlaw09.MerkleRoots", spec := "merkleRoots", recurses := true, apart := false }
def MerkleRootsSaid : Prop := merkleRootsRow.holds Try.pinned (OpenSpec.ofChange merkleRootsSpec)

/-- ITS FALSE NEIGHBOUR: 'it returns false'. Refute it at one input. -/
def merkleRootsWrong : ChangeSpec := { name := "merkleRoots", fn := fun _ => fun
  | [d] => { results := [.lit (.bool false)], args := [d] }
  | _ => none }
def MerkleRootsWrongFalsely : Prop := merkleRootsRow.holds Try.pinned (OpenSpec.ofChange merkleRootsWrong)

/-- 'quaestorlaw09.MerklePaths': WHATEVER THE INPUT: true; the input reads as it did. -/
def merklePathsSpec : ChangeSpec := { name := "merklePaths", fn := fun _ => fun
  | [d1, d2] => { results := [.lit (.bool true)], args := [d1, d2] }
  | _ => none }
def merklePathsRow : OpenClaim := { program := "ytcpdbbabbnbghaa", sum := "ca5d9f3289277fc47577b7d3c4b10094a04f9e62a10c9aabc23093c029f6c336", func := "quaestor/quaestorlaw09.MerklePaths", spec := "merklePaths", recurses := true, apart := false }
def MerklePathsSaid : Prop := merklePathsRow.holds Try.pinned (OpenSpec.ofChange merklePathsSpec)

/-- ITS FALSE NEIGHBOUR: 'it returns false'. Refute it at one input. -/
def merklePathsWrong : ChangeSpec := { name := "merklePaths", fn := fun _ => fun
  | [d1, d2] => { results := [.lit (.bool false)], args := [d1, d2] }
  | _ => none }
def MerklePathsWrongFalsely : Prop := merklePathsRow.holds Try.pinned (OpenSpec.ofChange merklePathsWrong)

/-- 'quaestorlaw09.MerkleChecks': WHATEVER THE INPUT: true; the input reads as it did. -/
def merkleChecksSpec : ChangeSpec := { name := "merkleChecks", fn := fun _ => fun
  | [d1, d2] => { results := [.lit (.bool true)], args := [d1, d2] }
  | _ => none }
def merkleChecksRow : OpenClaim := { program := "ytcpdbbabbnbghaa", sum := "ca5d9f3289277fc47577b7d3c4b10094a04f9e62a10c9aabc23093c029f6c336", func := "quaestor/quaestorlaw09.MerkleChecks", spec := "merkleChecks", recurses := true, apart := false }
def MerkleChecksSaid : Prop := merkleChecksRow.holds Try.pinned (OpenSpec.ofChange merkleChecksSpec)

/-- ITS FALSE NEIGHBOUR: 'it returns false'. Refute it at one input. -/
def merkleChecksWrong : ChangeSpec := { name := "merkleChecks", fn := fun _ => fun
  | [d1, d2] => { results := [.lit (.bool false)], args := [d1, d2] }
  | _ => none }
def MerkleChecksWrongFalsely : Prop := merkleChecksRow.holds Try.pinned (OpenSpec.ofChange merkleChecksWrong)

/-- 'quaestorlaw09.MerkleProves': WHATEVER THE INPUT: true; the input reads as it did. -/
def merkleProvesSpec : ChangeSpec := { name := "merkleProves", fn := fun _ => fun
  | [d] => { results := [.lit (.bool true)], args := [d] }
  | _ => none }
def merkleProvesRow : OpenClaim := { program := "ytcpdbbabbnbghaa", sum := "ca5d9f3289277fc47577b7d3c4b10094a04f9e62a10c9aabc23093c029f6c336", func := "quaestor/quaestorlaw09.MerkleProves", spec := "merkleProves", recurses := true, apart := false }
def MerkleProvesSaid : Prop := merkleProvesRow.holds Try.pinned (OpenSpec.ofChange merkleProvesSpec)

/-- ITS FALSE NEIGHBOUR: 'it returns false'. Refute it at one input. -/
def merkleProvesWrong : ChangeSpec := { name := "merkleProves", fn := fun _ => fun
  | [d] => { results := [.lit (.bool false)], args := [d] }
  | _ => none }
def MerkleProvesWrongFalsely : Prop := merkleProvesRow.holds Try.pinned (OpenSpec.ofChange merkleProvesWrong)

/-- 'quaestorlaw09.MerkleSound': WHATEVER THE INPUT: true; the input reads as it did. -/
def merkleSoundSpec : ChangeSpec := { name := "merkleSound", fn := fun _ => fun
  | [d1, d2] => { results := [.lit (.bool true)], args := [d1, d2] }
  | _ => none }
def merkleSoundRow : OpenClaim := { program := "ytcpdbbabbnbghaa", sum := "ca5d9f3289277fc47577b7d3c4b10094a04f9e62a10c9aabc23093c029f6c336", func := "quaestor/quaestorlaw09.MerkleSound", spec := "merkleSound", recurses := true, apart := false }
def MerkleSoundSaid : Prop := merkleSoundRow.holds Try.pinned (OpenSpec.ofChange merkleSoundSpec)

/-- ITS FALSE NEIGHBOUR: 'it returns false'. Refute it at one input. -/
def merkleSoundWrong : ChangeSpec := { name := "merkleSound", fn := fun _ => fun
  | [d1, d2] => { results := [.lit (.bool false)], args := [d1, d2] }
  | _ => none }
def MerkleSoundWrongFalsely : Prop := merkleSoundRow.holds Try.pinned (OpenSpec.ofChange merkleSoundWrong)

/-- 'quaestorlaw09.MerkleApart': WHATEVER THE INPUT: true; the input reads as it did. -/
def merkleApartSpec : ChangeSpec := { name := "merkleApart", fn := fun _ => fun
  | [d1, d2, d3] => { results := [.lit (.bool true)], args := [d1, d2, d3] }
  | _ => none }
def merkleApartRow : OpenClaim := { program := "ytcpdbbabbnbghaa", sum := "ca5d9f3289277fc47577b7d3c4b10094a04f9e62a10c9aabc23093c029f6c336", func := "quaestor/quaestorlaw09.MerkleApart", spec := "merkleApart", recurses := true, apart := false }
def MerkleApartSaid : Prop := merkleApartRow.holds Try.pinned (OpenSpec.ofChange merkleApartSpec)

/-- ITS FALSE NEIGHBOUR: 'it returns false'. Refute it at one input. -/
def merkleApartWrong : ChangeSpec := { name := "merkleApart", fn := fun _ => fun
  | [d1, d2, d3] => { results := [.lit (.bool false)], args := [d1, d2, d3] }
  | _ => none }
def MerkleApartWrongFalsely : Prop := merkleApartRow.holds Try.pinned (OpenSpec.ofChange merkleApartWrong)

/-- 'quaestorlaw09.MerkleShort': WHATEVER THE INPUT: true; the input reads as it did. -/
def merkleShortSpec : ChangeSpec := { name := "merkleShort", fn := fun _ => fun
  | [d1, d2] => { results := [.lit (.bool true)], args := [d1, d2] }
  | _ => none }
def merkleShortRow : OpenClaim := { program := "ytcpdbbabbnbghaa", sum := "ca5d9f3289277fc47577b7d3c4b10094a04f9e62a10c9aabc23093c029f6c336", func := "quaestor/quaestorlaw09.MerkleShort", spec := "merkleShort", recurses := true, apart := false }
def MerkleShortSaid : Prop := merkleShortRow.holds Try.pinned (OpenSpec.ofChange merkleShortSpec)

/-- ITS FALSE NEIGHBOUR: 'it returns false'. Refute it at one input. -/
def merkleShortWrong : ChangeSpec := { name := "merkleShort", fn := fun _ => fun
  | [d1, d2] => { results := [.lit (.bool false)], args := [d1, d2] }
  | _ => none }
def MerkleShortWrongFalsely : Prop := merkleShortRow.holds Try.pinned (OpenSpec.ofChange merkleShortWrong)

/- THE SECOND FORM. 'bulk': how many values and letters a reading holds, each counted each time it is reached (what is shared counts as often as it is met; a slice's spare places count too). A statement '..UptoSaid' is the law's where the arguments, and the package variables that the reading takes, are together of bulk at most 1048576: NARROWER than '..Said'. Prove '..Said' where nothing that the law and all that it calls make is longer than what came in: it says more and counts as full. Else prove '..UptoSaid'. A law counts once. -/
mutual
def uptoBulk {H : Type} : DataW H → Nat
  | .lit (.string bytes) => bytes.length + 1
  | .lit _ => 1
  | .nil => 1
  | .ptr d => uptoBulk d + 1
  | .slice elems spare => uptoBulkAll elems + uptoBulkAll spare + 1
  | .agg parts => uptoBulkAll parts + 1
  | .iface _ d => uptoBulk d + 1
  | .map entries => uptoBulkEntries entries + 1
  | .held _ => 1
def uptoBulkAll {H : Type} : List (DataW H) → Nat
  | [] => 0
  | d :: r => uptoBulk d + uptoBulkAll r
def uptoBulkEntries {H : Type} : List (Lit × DataW H) → Nat
  | [] => 0
  | x :: r => uptoBulkEntry x + uptoBulkEntries r
def uptoBulkEntry {H : Type} : Lit × DataW H → Nat
  | (.string bytes, d) => bytes.length + uptoBulk d + 1
  | (_, d) => uptoBulk d + 1
 end
def uptoSmall : (H : Type) → List (DataW H) → Bool := fun _ ds => decide (uptoBulkAll ds ≤ 1048576)
def OpenSpec.upto (s : _root_.Go.ChangeSpec) : _root_.Go.OpenSpec := { _root_.Go.OpenSpec.ofChange s with cond := some uptoSmall }

/-- 'quaestorlaw09.MerkleRoots', WHERE WHAT IT READS IS OF BULK AT MOST 1048576: true; the input reads as it did. -/
def merkleRootsUptoRow : OpenClaim := { program := "ytcpdbbabbnbghaa", sum := "ca5d9f3289277fc47577b7d3c4b10094a04f9e62a10c9aabc23093c029f6c336", func := "quaestor/quaestorlaw09.MerkleRoots", spec := "merkleRoots", recurses := true, apart := false, narrowed := true }
def MerkleRootsUptoSaid : Prop := merkleRootsUptoRow.holds Try.pinned (OpenSpec.upto merkleRootsSpec)

/-- 'quaestorlaw09.MerklePaths', WHERE WHAT IT READS IS OF BULK AT MOST 1048576: true; the input reads as it did. -/
def merklePathsUptoRow : OpenClaim := { program := "ytcpdbbabbnbghaa", sum := "ca5d9f3289277fc47577b7d3c4b10094a04f9e62a10c9aabc23093c029f6c336", func := "quaestor/quaestorlaw09.MerklePaths", spec := "merklePaths", recurses := true, apart := false, narrowed := true }
def MerklePathsUptoSaid : Prop := merklePathsUptoRow.holds Try.pinned (OpenSpec.upto merklePathsSpec)

/-- 'quaestorlaw09.MerkleChecks', WHERE WHAT IT READS IS OF BULK AT MOST 1048576: true; the input reads as it did. -/
def merkleChecksUptoRow : OpenClaim := { program := "ytcpdbbabbnbghaa", sum := "ca5d9f3289277fc47577b7d3c4b10094a04f9e62a10c9aabc23093c029f6c336", func := "quaestor/quaestorlaw09.MerkleChecks", spec := "merkleChecks", recurses := true, apart := false, narrowed := true }
def MerkleChecksUptoSaid : Prop := merkleChecksUptoRow.holds Try.pinned (OpenSpec.upto merkleChecksSpec)

/-- 'quaestorlaw09.MerkleProves', WHERE WHAT IT READS IS OF BULK AT MOST 1048576: true; the input reads as it did. -/
def merkleProvesUptoRow : OpenClaim := { program := "ytcpdbbabbnbghaa", sum := "ca5d9f3289277fc47577b7d3c4b10094a04f9e62a10c9aabc23093c029f6c336", func := "quaestor/quaestorlaw09.MerkleProves", spec := "merkleProves", recurses := true, apart := false, narrowed := true }
def MerkleProvesUptoSaid : Prop := merkleProvesUptoRow.holds Try.pinned (OpenSpec.upto merkleProvesSpec)

/-- 'quaestorlaw09.MerkleSound', WHERE WHAT IT READS IS OF BULK AT MOST 1048576: true; the input reads as it did. -/
def merkleSoundUptoRow : OpenClaim := { program := "ytcpdbbabbnbghaa", sum := "ca5d9f3289277fc47577b7d3c4b10094a04f9e62a10c9aabc23093c029f6c336", func := "quaestor/quaestorlaw09.MerkleSound", spec := "merkleSound", recurses := true, apart := false, narrowed := true }
def MerkleSoundUptoSaid : Prop := merkleSoundUptoRow.holds Try.pinned (OpenSpec.upto merkleSoundSpec)

/-- 'quaestorlaw09.MerkleApart', WHERE WHAT IT READS IS OF BULK AT MOST 1048576: true; the input reads as it did. -/
def merkleApartUptoRow : OpenClaim := { program := "ytcpdbbabbnbghaa", sum := "ca5d9f3289277fc47577b7d3c4b10094a04f9e62a10c9aabc23093c029f6c336", func := "quaestor/quaestorlaw09.MerkleApart", spec := "merkleApart", recurses := true, apart := false, narrowed := true }
def MerkleApartUptoSaid : Prop := merkleApartUptoRow.holds Try.pinned (OpenSpec.upto merkleApartSpec)

/-- 'quaestorlaw09.MerkleShort', WHERE WHAT IT READS IS OF BULK AT MOST 1048576: true; the input reads as it did. -/
def merkleShortUptoRow : OpenClaim := { program := "ytcpdbbabbnbghaa", sum := "ca5d9f3289277fc47577b7d3c4b10094a04f9e62a10c9aabc23093c029f6c336", func := "quaestor/quaestorlaw09.MerkleShort", spec := "merkleShort", recurses := true, apart := false, narrowed := true }
def MerkleShortUptoSaid : Prop := merkleShortUptoRow.holds Try.pinned (OpenSpec.upto merkleShortSpec)

end Rows
end Go.Proofs.Ytcpdbbabbnbghaa
