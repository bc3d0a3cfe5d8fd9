/-
  No cell of these rows narrows 'for every input' (looked for: loops, veiled, ifaces, maps, wideKeys, modest, calm, conditions, laid).
  DERIVED. THE GIVEN ROWS OF THIS SEAT. 6 by the template 'for every input the law returns true; each argument reads behind the call as it read before'; 0 by the template 'total and deterministic' (their statements: YtdclfhahcfefeaaTotals.lean).
  GIVEN WITH THE SEED: the statements are not yours to turn. If you find one false, say at which input.
  Laid BY PROGRAM, IN A SANDBOX (cutbox-rows.mjs): the forced cells as the released guide's own fill.sh prints them over the translation 3faa3c582a08fbc0… (all of the seat's roots in one cut). By AI agents, Wed Nov 11 2026. No macro, syntax, notation, axiom, sorry.
-/
import Derived.Test.YtdclfhahcfefeaaChecked
import GoSem.Claim
import GoSem.ClaimJoined
import GoSem.ClaimMapViews
import Derived.JoinedTies
import Derived.KernelRfl
namespace Go.Proofs.Ytdclfhahcfefeaa
/- THE CELL 'sum', in the pinned program and in every row, IS THE sha256 OF THE DUMP (.gsa) THAT YtdclfhahcfefeaaProg.lean LOADS. Nothing in Lean hashes anything: it is a label: what it is worth is what the hold of that sum in a sandbox is worth. -/
noncomputable def Try.pinned : Pinned := { name := "ytdclfhahcfefeaa", sum := "3faa3c582a08fbc02571e5df28db6c2b9a094f113d885e7e0ac85b5acaf39c7c", checked := Try.checked }
namespace Rows
def none {H : Type} : Left H := { results := [], args := [] }

/-- 'quaestorlaw11.LedgerPlays': WHATEVER THE INPUT: true; the input reads as it did. -/
def ledgerPlaysSpec : ChangeSpec := { name := "ledgerPlays", fn := fun _ => fun
  | [d1, d2] => { results := [.lit (.bool true)], args := [d1, d2] }
  | _ => none }
def ledgerPlaysRow : OpenClaim := { program := "ytdclfhahcfefeaa", sum := "3faa3c582a08fbc02571e5df28db6c2b9a094f113d885e7e0ac85b5acaf39c7c", func := "quaestor/quaestorlaw11.LedgerPlays", spec := "ledgerPlays", recurses := true, apart := false }
def LedgerPlaysSaid : Prop := ledgerPlaysRow.holds Try.pinned (OpenSpec.ofChange ledgerPlaysSpec)

/-- ITS FALSE NEIGHBOUR: 'it returns false'. Refute it at one input. -/
def ledgerPlaysWrong : ChangeSpec := { name := "ledgerPlays", fn := fun _ => fun
  | [d1, d2] => { results := [.lit (.bool false)], args := [d1, d2] }
  | _ => none }
def LedgerPlaysWrongFalsely : Prop := ledgerPlaysRow.holds Try.pinned (OpenSpec.ofChange ledgerPlaysWrong)

/-- 'quaestorlaw11.LedgerChain': WHATEVER THE INPUT: true; the input reads as it did. -/
def ledgerChainSpec : ChangeSpec := { name := "ledgerChain", fn := fun _ => fun
  | [d1, d2] => { results := [.lit (.bool true)], args := [d1, d2] }
  | _ => none }
def ledgerChainRow : OpenClaim := { program := "ytdclfhahcfefeaa", sum := "3faa3c582a08fbc02571e5df28db6c2b9a094f113d885e7e0ac85b5acaf39c7c", func := "quaestor/quaestorlaw11.LedgerChain", spec := "ledgerChain", recurses := true, apart := false }
def LedgerChainSaid : Prop := ledgerChainRow.holds Try.pinned (OpenSpec.ofChange ledgerChainSpec)

/-- ITS FALSE NEIGHBOUR: 'it returns false'. Refute it at one input. -/
def ledgerChainWrong : ChangeSpec := { name := "ledgerChain", fn := fun _ => fun
  | [d1, d2] => { results := [.lit (.bool false)], args := [d1, d2] }
  | _ => none }
def LedgerChainWrongFalsely : Prop := ledgerChainRow.holds Try.pinned (OpenSpec.ofChange ledgerChainWrong)

/-- 'quaestorlaw11.LedgerFrom': WHATEVER THE INPUT: true; the input reads as it did. -/
def ledgerFromSpec : ChangeSpec := { name := "ledgerFrom", fn := fun _ => fun
  | [d1, d2, d3] => { results := [.lit (.bool true)], args := [d1, d2, d3] }
  | _ => none }
def ledgerFromRow : OpenClaim := { program := "ytdclfhahcfefeaa", sum := "3faa3c582a08fbc02571e5df28db6c2b9a094f113d885e7e0ac85b5acaf39c7c", func := "quaestor/quaestorlaw11.LedgerFrom", spec := "ledgerFrom", recurses := true, apart := false }
def LedgerFromSaid : Prop := ledgerFromRow.holds Try.pinned (OpenSpec.ofChange ledgerFromSpec)

/-- ITS FALSE NEIGHBOUR: 'it returns false'. Refute it at one input. -/
def ledgerFromWrong : ChangeSpec := { name := "ledgerFrom", fn := fun _ => fun
  | [d1, d2, d3] => { results := [.lit (.bool false)], args := [d1, d2, d3] }
  | _ => none }
def LedgerFromWrongFalsely : Prop := ledgerFromRow.holds Try.pinned (OpenSpec.ofChange ledgerFromWrong)

/-- 'quaestorlaw11.LedgerCuts': WHATEVER THE INPUT: true; the input reads as it did. -/
def ledgerCutsSpec : ChangeSpec := { name := "ledgerCuts", fn := fun _ => fun
  | [d1, d2, d3] => { results := [.lit (.bool true)], args := [d1, d2, d3] }
  | _ => none }
def ledgerCutsRow : OpenClaim := { program := "ytdclfhahcfefeaa", sum := "3faa3c582a08fbc02571e5df28db6c2b9a094f113d885e7e0ac85b5acaf39c7c", func := "quaestor/quaestorlaw11.LedgerCuts", spec := "ledgerCuts", recurses := true, apart := false }
def LedgerCutsSaid : Prop := ledgerCutsRow.holds Try.pinned (OpenSpec.ofChange ledgerCutsSpec)

/-- ITS FALSE NEIGHBOUR: 'it returns false'. Refute it at one input. -/
def ledgerCutsWrong : ChangeSpec := { name := "ledgerCuts", fn := fun _ => fun
  | [d1, d2, d3] => { results := [.lit (.bool false)], args := [d1, d2, d3] }
  | _ => none }
def LedgerCutsWrongFalsely : Prop := ledgerCutsRow.holds Try.pinned (OpenSpec.ofChange ledgerCutsWrong)

/-- 'quaestorlaw11.LedgerPacks': WHATEVER THE INPUT: true; the input reads as it did. -/
def ledgerPacksSpec : ChangeSpec := { name := "ledgerPacks", fn := fun _ => fun
  | [d1, d2, d3] => { results := [.lit (.bool true)], args := [d1, d2, d3] }
  | _ => none }
def ledgerPacksRow : OpenClaim := { program := "ytdclfhahcfefeaa", sum := "3faa3c582a08fbc02571e5df28db6c2b9a094f113d885e7e0ac85b5acaf39c7c", func := "quaestor/quaestorlaw11.LedgerPacks", spec := "ledgerPacks", unfollowed := true, recurses := true, apart := false }
def LedgerPacksSaid : Prop := ledgerPacksRow.holds Try.pinned (OpenSpec.ofChange ledgerPacksSpec)

/-- ITS FALSE NEIGHBOUR: 'it returns false'. Refute it at one input. -/
def ledgerPacksWrong : ChangeSpec := { name := "ledgerPacks", fn := fun _ => fun
  | [d1, d2, d3] => { results := [.lit (.bool false)], args := [d1, d2, d3] }
  | _ => none }
def LedgerPacksWrongFalsely : Prop := ledgerPacksRow.holds Try.pinned (OpenSpec.ofChange ledgerPacksWrong)

/-- 'quaestorlaw11.LedgerSeals': WHATEVER THE INPUT: true; the input reads as it did. -/
def ledgerSealsSpec : ChangeSpec := { name := "ledgerSeals", fn := fun _ => fun
  | [d1, d2, d3] => { results := [.lit (.bool true)], args := [d1, d2, d3] }
  | _ => none }
def ledgerSealsRow : OpenClaim := { program := "ytdclfhahcfefeaa", sum := "3faa3c582a08fbc02571e5df28db6c2b9a094f113d885e7e0ac85b5acaf39c7c", func := "quaestor/quaestorlaw11.LedgerSeals", spec := "ledgerSeals", unfollowed := true, recurses := true, apart := false }
def LedgerSealsSaid : Prop := ledgerSealsRow.holds Try.pinned (OpenSpec.ofChange ledgerSealsSpec)

/-- ITS FALSE NEIGHBOUR: 'it returns false'. Refute it at one input. -/
def ledgerSealsWrong : ChangeSpec := { name := "ledgerSeals", fn := fun _ => fun
  | [d1, d2, d3] => { results := [.lit (.bool false)], args := [d1, d2, d3] }
  | _ => none }
def LedgerSealsWrongFalsely : Prop := ledgerSealsRow.holds Try.pinned (OpenSpec.ofChange ledgerSealsWrong)

/- THE SECOND FORM. 'bulk': how many values and letters a reading holds, each counted each time it is reached (what is shared counts as often as it is met; a slice's spare places count too). A statement '..UptoSaid' is the law's where the arguments, and the package variables that the reading takes, are together of bulk at most 1048576: NARROWER than '..Said'. Prove '..Said' where nothing that the law and all that it calls make is longer than what came in: it says more and counts as full. Else prove '..UptoSaid'. A law counts once. -/
mutual
def uptoBulk {H : Type} : DataW H → Nat
  | .lit (.string bytes) => bytes.length + 1
  | .lit _ => 1
  | .nil => 1
  | .ptr d => uptoBulk d + 1
  | .slice elems spare => uptoBulkAll elems + uptoBulkAll spare + 1
  | .agg parts => uptoBulkAll parts + 1
  | .iface _ d => uptoBulk d + 1
  | .map entries => uptoBulkEntries entries + 1
  | .held _ => 1
def uptoBulkAll {H : Type} : List (DataW H) → Nat
  | [] => 0
  | d :: r => uptoBulk d + uptoBulkAll r
def uptoBulkEntries {H : Type} : List (Lit × DataW H) → Nat
  | [] => 0
  | x :: r => uptoBulkEntry x + uptoBulkEntries r
def uptoBulkEntry {H : Type} : Lit × DataW H → Nat
  | (.string bytes, d) => bytes.length + uptoBulk d + 1
  | (_, d) => uptoBulk d + 1
 end
def uptoSmall : (H : Type) → List (DataW H) → Bool := fun _ ds => decide (uptoBulkAll ds ≤ 1048576)
def OpenSpec.upto (s : _root_.Go.ChangeSpec) : _root_.Go.OpenSpec := { _root_.Go.OpenSpec.ofChange s with cond := some uptoSmall }

/-- 'quaestorlaw11.LedgerPlays', WHERE WHAT IT READS IS OF BULK AT MOST 1048576: true; the input reads as it did. -/
def ledgerPlaysUptoRow : OpenClaim := { program := "ytdclfhahcfefeaa", sum := "3faa3c582a08fbc02571e5df28db6c2b9a094f113d885e7e0ac85b5acaf39c7c", func := "quaestor/quaestorlaw11.LedgerPlays", spec := "ledgerPlays", recurses := true, apart := false, narrowed := true }
def LedgerPlaysUptoSaid : Prop := ledgerPlaysUptoRow.holds Try.pinned (OpenSpec.upto ledgerPlaysSpec)

/-- 'quaestorlaw11.LedgerChain', WHERE WHAT IT READS IS OF BULK AT MOST 1048576: true; the input reads as it did. -/
def ledgerChainUptoRow : OpenClaim := { program := "ytdclfhahcfefeaa", sum := "3faa3c582a08fbc02571e5df28db6c2b9a094f113d885e7e0ac85b5acaf39c7c", func := "quaestor/quaestorlaw11.LedgerChain", spec := "ledgerChain", recurses := true, apart := false, narrowed := true }
def LedgerChainUptoSaid : Prop := ledgerChainUptoRow.holds Try.pinned (OpenSpec.upto ledgerChainSpec)

/-- 'quaestorlaw11.LedgerFrom', WHERE WHAT IT READS IS OF BULK AT MOST 1048576: true; the input reads as it did. -/
def ledgerFromUptoRow : OpenClaim := { program := "ytdclfhahcfefeaa", sum := "3faa3c582a08fbc02571e5df28db6c2b9a094f113d885e7e0ac85b5acaf39c7c", func := "quaestor/quaestorlaw11.LedgerFrom", spec := "ledgerFrom", recurses := true, apart := false, narrowed := true }
def LedgerFromUptoSaid : Prop := ledgerFromUptoRow.holds Try.pinned (OpenSpec.upto ledgerFromSpec)

/-- 'quaestorlaw11.LedgerCuts', WHERE WHAT IT READS IS OF BULK AT MOST 1048576: true; the input reads as it did. -/
def ledgerCutsUptoRow : OpenClaim := { program := "ytdclfhahcfefeaa", sum := "3faa3c582a08fbc02571e5df28db6c2b9a094f113d885e7e0ac85b5acaf39c7c", func := "quaestor/quaestorlaw11.LedgerCuts", spec := "ledgerCuts", recurses := true, apart := false, narrowed := true }
def LedgerCutsUptoSaid : Prop := ledgerCutsUptoRow.holds Try.pinned (OpenSpec.upto ledgerCutsSpec)

/-- 'quaestorlaw11.LedgerPacks', WHERE WHAT IT READS IS OF BULK AT MOST 1048576: true; the input reads as it did. -/
def ledgerPacksUptoRow : OpenClaim := { program := "ytdclfhahcfefeaa", sum := "3faa3c582a08fbc02571e5df28db6c2b9a094f113d885e7e0ac85b5acaf39c7c", func := "quaestor/quaestorlaw11.LedgerPacks", spec := "ledgerPacks", unfollowed := true, recurses := true, apart := false, narrowed := true }
def LedgerPacksUptoSaid : Prop := ledgerPacksUptoRow.holds Try.pinned (OpenSpec.upto ledgerPacksSpec)

/-- 'quaestorlaw11.LedgerSeals', WHERE WHAT IT READS IS OF BULK AT MOST 1048576: true; the input reads as it did. -/
def ledgerSealsUptoRow : OpenClaim := { program := "ytdclfhahcfefeaa", sum := "3faa3c582a08fbc02571e5df28db6c2b9a094f113d885e7e0ac85b5acaf39c7c", func := "quaestor/quaestorlaw11.LedgerSeals", spec := "ledgerSeals", unfollowed := true, recurses := true, apart := false, narrowed := true }
def LedgerSealsUptoSaid : Prop := ledgerSealsUptoRow.holds Try.pinned (OpenSpec.upto ledgerSealsSpec)

end Rows
end Go.Proofs.Ytdclfhahcfefeaa
