/-
  No cell of these rows narrows 'for every input' (looked for: loops, veiled, ifaces, maps, wideKeys, modest, calm, conditions, laid).
  DERIVED. THE GIVEN ROWS OF THIS SEAT. 5 by the template 'for every input the law returns true; each argument reads behind the call as it read before'; 0 by the template 'total and deterministic' (their statements: YtacikihlgpnjhaaTotals.lean).
  GIVEN WITH THE SEED: the statements are not yours to turn. If you find one false, say at which input.
  Laid BY PROGRAM, IN A SANDBOX (cutbox-rows.mjs): the forced cells as the released guide's own fill.sh prints them over the translation d81cd708b8c9305d… (all of the seat's roots in one cut). By AI agents, Wed Nov 11 2026. No macro, syntax, notation, axiom, sorry.
-/
import Derived.Test.YtacikihlgpnjhaaChecked
import GoSem.Claim
import GoSem.ClaimJoined
import GoSem.ClaimMapViews
import Derived.JoinedTies
import Derived.KernelRfl
namespace Go.Proofs.Ytacikihlgpnjhaa
/- THE CELL 'sum', in the pinned program and in every row, IS THE sha256 OF THE DUMP (.gsa) THAT YtacikihlgpnjhaaProg.lean LOADS. Nothing in Lean hashes anything: it is a label: what it is worth is what the hold of that sum in a sandbox is worth. -/
noncomputable def Try.pinned : Pinned := { name := "ytacikihlgpnjhaa", sum := "d81cd708b8c9305d5ae55ba5a8ce2c1f2475607a4f43a83cc45cd655cf034fe5", checked := Try.checked }
namespace Rows
def none {H : Type} : Left H := { results := [], args := [] }

/-- 'quaestorlaw10.BlockChecks': WHATEVER THE INPUT: true; the input reads as it did. -/
def blockChecksSpec : ChangeSpec := { name := "blockChecks", fn := fun _ => fun
  | [d] => { results := [.lit (.bool true)], args := [d] }
  | _ => none }
def blockChecksRow : OpenClaim := { program := "ytacikihlgpnjhaa", sum := "d81cd708b8c9305d5ae55ba5a8ce2c1f2475607a4f43a83cc45cd655cf034fe5", func := "quaestor/quaestorlaw10.BlockChecks", spec := "blockChecks", recurses := true, apart := false }
def BlockChecksSaid : Prop := blockChecksRow.holds Try.pinned (OpenSpec.ofChange blockChecksSpec)

/-- ITS FALSE NEIGHBOUR: 'it returns false'. Refute it at one input. -/
def blockChecksWrong : ChangeSpec := { name := "blockChecks", fn := fun _ => fun
  | [d] => { results := [.lit (.bool false)], args := [d] }
  | _ => none }
def BlockChecksWrongFalsely : Prop := blockChecksRow.holds Try.pinned (OpenSpec.ofChange blockChecksWrong)

/-- 'quaestorlaw10.BlockProves': WHATEVER THE INPUT: true; the input reads as it did. -/
def blockProvesSpec : ChangeSpec := { name := "blockProves", fn := fun _ => fun
  | [d1, d2] => { results := [.lit (.bool true)], args := [d1, d2] }
  | _ => none }
def blockProvesRow : OpenClaim := { program := "ytacikihlgpnjhaa", sum := "d81cd708b8c9305d5ae55ba5a8ce2c1f2475607a4f43a83cc45cd655cf034fe5", func := "quaestor/quaestorlaw10.BlockProves", spec := "blockProves", recurses := true, apart := false }
def BlockProvesSaid : Prop := blockProvesRow.holds Try.pinned (OpenSpec.ofChange blockProvesSpec)

/-- ITS FALSE NEIGHBOUR: 'it returns false'. Refute it at one input. -/
def blockProvesWrong : ChangeSpec := { name := "blockProves", fn := fun _ => fun
  | [d1, d2] => { results := [.lit (.bool false)], args := [d1, d2] }
  | _ => none }
def BlockProvesWrongFalsely : Prop := blockProvesRow.holds Try.pinned (OpenSpec.ofChange blockProvesWrong)

/-- 'quaestorlaw10.BlockSound': WHATEVER THE INPUT: true; the input reads as it did. -/
def blockSoundSpec : ChangeSpec := { name := "blockSound", fn := fun _ => fun
  | [d1, d2] => { results := [.lit (.bool true)], args := [d1, d2] }
  | _ => none }
def blockSoundRow : OpenClaim := { program := "ytacikihlgpnjhaa", sum := "d81cd708b8c9305d5ae55ba5a8ce2c1f2475607a4f43a83cc45cd655cf034fe5", func := "quaestor/quaestorlaw10.BlockSound", spec := "blockSound", recurses := true, apart := false }
def BlockSoundSaid : Prop := blockSoundRow.holds Try.pinned (OpenSpec.ofChange blockSoundSpec)

/-- ITS FALSE NEIGHBOUR: 'it returns false'. Refute it at one input. -/
def blockSoundWrong : ChangeSpec := { name := "blockSound", fn := fun _ => fun
  | [d1, d2] => { results := [.lit (.bool false)], args := [d1, d2] }
  | _ => none }
def BlockSoundWrongFalsely : Prop := blockSoundRow.holds Try.pinned (OpenSpec.ofChange blockSoundWrong)

/-- 'quaestorlaw10.BlockApart': WHATEVER THE INPUT: true; the input reads as it did. -/
def blockApartSpec : ChangeSpec := { name := "blockApart", fn := fun _ => fun
  | [d1, d2] => { results := [.lit (.bool true)], args := [d1, d2] }
  | _ => none }
def blockApartRow : OpenClaim := { program := "ytacikihlgpnjhaa", sum := "d81cd708b8c9305d5ae55ba5a8ce2c1f2475607a4f43a83cc45cd655cf034fe5", func := "quaestor/quaestorlaw10.BlockApart", spec := "blockApart", recurses := true, apart := false }
def BlockApartSaid : Prop := blockApartRow.holds Try.pinned (OpenSpec.ofChange blockApartSpec)

/-- ITS FALSE NEIGHBOUR: 'it returns false'. Refute it at one input. -/
def blockApartWrong : ChangeSpec := { name := "blockApart", fn := fun _ => fun
  | [d1, d2] => { results := [.lit (.bool false)], args := [d1, d2] }
  | _ => none }
def BlockApartWrongFalsely : Prop := blockApartRow.holds Try.pinned (OpenSpec.ofChange blockApartWrong)

/-- 'quaestorlaw10.BlockBack': WHATEVER THE INPUT: true; the input reads as it did. -/
def blockBackSpec : ChangeSpec := { name := "blockBack", fn := fun _ => fun
  | [d1, d2] => { results := [.lit (.bool true)], args := [d1, d2] }
  | _ => none }
def blockBackRow : OpenClaim := { program := "ytacikihlgpnjhaa", sum := "d81cd708b8c9305d5ae55ba5a8ce2c1f2475607a4f43a83cc45cd655cf034fe5", func := "quaestor/quaestorlaw10.BlockBack", spec := "blockBack", unfollowed := true, recurses := true, apart := false }
def BlockBackSaid : Prop := blockBackRow.holds Try.pinned (OpenSpec.ofChange blockBackSpec)

/-- ITS FALSE NEIGHBOUR: 'it returns false'. Refute it at one input. -/
def blockBackWrong : ChangeSpec := { name := "blockBack", fn := fun _ => fun
  | [d1, d2] => { results := [.lit (.bool false)], args := [d1, d2] }
  | _ => none }
def BlockBackWrongFalsely : Prop := blockBackRow.holds Try.pinned (OpenSpec.ofChange blockBackWrong)

/- THE SECOND FORM. 'bulk': how many values and letters a reading holds, each counted each time it is reached (what is shared counts as often as it is met; a slice's spare places count too). A statement '..UptoSaid' is the law's where the arguments, and the package variables that the reading takes, are together of bulk at most 1048576: NARROWER than '..Said'. Prove '..Said' where nothing that the law and all that it calls make is longer than what came in: it says more and counts as full. Else prove '..UptoSaid'. A law counts once. -/
mutual
def uptoBulk {H : Type} : DataW H → Nat
  | .lit (.string bytes) => bytes.length + 1
  | .lit _ => 1
  | .nil => 1
  | .ptr d => uptoBulk d + 1
  | .slice elems spare => uptoBulkAll elems + uptoBulkAll spare + 1
  | .agg parts => uptoBulkAll parts + 1
  | .iface _ d => uptoBulk d + 1
  | .map entries => uptoBulkEntries entries + 1
  | .held _ => 1
def uptoBulkAll {H : Type} : List (DataW H) → Nat
  | [] => 0
  | d :: r => uptoBulk d + uptoBulkAll r
def uptoBulkEntries {H : Type} : List (Lit × DataW H) → Nat
  | [] => 0
  | x :: r => uptoBulkEntry x + uptoBulkEntries r
def uptoBulkEntry {H : Type} : Lit × DataW H → Nat
  | (.string bytes, d) => bytes.length + uptoBulk d + 1
  | (_, d) => uptoBulk d + 1
 end
def uptoSmall : (H : Type) → List (DataW H) → Bool := fun _ ds => decide (uptoBulkAll ds ≤ 1048576)
def OpenSpec.upto (s : _root_.Go.ChangeSpec) : _root_.Go.OpenSpec := { _root_.Go.OpenSpec.ofChange s with cond := some uptoSmall }

/-- 'quaestorlaw10.BlockChecks', WHERE WHAT IT READS IS OF BULK AT MOST 1048576: true; the input reads as it did. -/
def blockChecksUptoRow : OpenClaim := { program := "ytacikihlgpnjhaa", sum := "d81cd708b8c9305d5ae55ba5a8ce2c1f2475607a4f43a83cc45cd655cf034fe5", func := "quaestor/quaestorlaw10.BlockChecks", spec := "blockChecks", recurses := true, apart := false, narrowed := true }
def BlockChecksUptoSaid : Prop := blockChecksUptoRow.holds Try.pinned (OpenSpec.upto blockChecksSpec)

/-- 'quaestorlaw10.BlockProves', WHERE WHAT IT READS IS OF BULK AT MOST 1048576: true; the input reads as it did. -/
def blockProvesUptoRow : OpenClaim := { program := "ytacikihlgpnjhaa", sum := "d81cd708b8c9305d5ae55ba5a8ce2c1f2475607a4f43a83cc45cd655cf034fe5", func := "quaestor/quaestorlaw10.BlockProves", spec := "blockProves", recurses := true, apart := false, narrowed := true }
def BlockProvesUptoSaid : Prop := blockProvesUptoRow.holds Try.pinned (OpenSpec.upto blockProvesSpec)

/-- 'quaestorlaw10.BlockSound', WHERE WHAT IT READS IS OF BULK AT MOST 1048576: true; the input reads as it did. -/
def blockSoundUptoRow : OpenClaim := { program := "ytacikihlgpnjhaa", sum := "d81cd708b8c9305d5ae55ba5a8ce2c1f2475607a4f43a83cc45cd655cf034fe5", func := "quaestor/quaestorlaw10.BlockSound", spec := "blockSound", recurses := true, apart := false, narrowed := true }
def BlockSoundUptoSaid : Prop := blockSoundUptoRow.holds Try.pinned (OpenSpec.upto blockSoundSpec)

/-- 'quaestorlaw10.BlockApart', WHERE WHAT IT READS IS OF BULK AT MOST 1048576: true; the input reads as it did. -/
def blockApartUptoRow : OpenClaim := { program := "ytacikihlgpnjhaa", sum := "d81cd708b8c9305d5ae55ba5a8ce2c1f2475607a4f43a83cc45cd655cf034fe5", func := "quaestor/quaestorlaw10.BlockApart", spec := "blockApart", recurses := true, apart := false, narrowed := true }
def BlockApartUptoSaid : Prop := blockApartUptoRow.holds Try.pinned (OpenSpec.upto blockApartSpec)

/-- 'quaestorlaw10.BlockBack', WHERE WHAT IT READS IS OF BULK AT MOST 1048576: true; the input reads as it did. -/
def blockBackUptoRow : OpenClaim := { program := "ytacikihlgpnjhaa", sum := "d81cd708b8c9305d5ae55ba5a8ce2c1f2475607a4f43a83cc45cd655cf034fe5", func := "quaestor/quaestorlaw10.BlockBack", spec := "blockBack", unfollowed := true, recurses := true, apart := false, narrowed := true }
def BlockBackUptoSaid : Prop := blockBackUptoRow.holds Try.pinned (OpenSpec.upto blockBackSpec)

end Rows
end Go.Proofs.Ytacikihlgpnjhaa
