/-
  No cell of these rows narrows 'for every input' (looked for: loops, veiled, ifaces, maps, wideKeys, modest, calm, conditions, laid).
  DERIVED. THE GIVEN ROWS OF THIS SEAT. 7 by the template 'for every input the law returns true; each argument reads behind the call as it read before'; 0 by the template 'total and deterministic' (their statements: YtladnlechpadlaaTotals.lean).
  GIVEN WITH THE SEED: the statements are not yours to turn. If you find one false, say at which input.
  Laid BY PROGRAM, IN A SANDBOX (cutbox-rows.mjs): the forced cells as the released guide's own fill.sh prints them over the translation f0e59d03fc20ef74… (all of the seat's roots in one cut). By AI agents, Wed Nov 11 2026. No macro, syntax, notation, axiom, sorry.
-/
import Derived.Test.YtladnlechpadlaaChecked
import GoSem.Claim
import GoSem.ClaimJoined
import GoSem.ClaimMapViews
import Derived.JoinedTies
import Derived.KernelRfl
namespace Go.Proofs.Ytladnlechpadlaa
/- THE CELL 'sum', in the pinned program and in every row, IS THE sha256 OF THE DUMP (.gsa) THAT YtladnlechpadlaaProg.lean LOADS. Nothing in Lean hashes anything: it is a label: what it is worth is what the hold of that sum in a sandbox is worth. -/
noncomputable def Try.pinned : Pinned := { name := "ytladnlechpadlaa", sum := "f0e59d03fc20ef7400254a8593a866f236ee5e8d983c2f87cdd81e2002dcb163", checked := Try.checked }
namespace Rows
def none {H : Type} : Left H := { results := [], args := [] }

/-- 'quaestorlaw03.AuthnForges': WHATEVER THE INPUT: true; the input reads as it did. -/
def authnForgesSpec : ChangeSpec := { name := "authnForges", fn := fun _ => fun
  | [d1, d2, d3] => { results := [.lit (.bool true)], args := [d1, d2, d3] }
  | _ => none }
def authnForgesRow : OpenClaim := { program := "ytladnlechpadlaa", sum := "f0e59d03fc20ef7400254a8593a866f236ee5e8d983c2f87cdd81e2002dcb163", func := "quaestor/quaestorlaw03.AuthnForges", spec := "authnForges", plainKeys := false, apart := false }
def AuthnForgesSaid : Prop := authnForgesRow.holds Try.pinned (OpenSpec.ofChange authnForgesSpec)

/-- ITS FALSE NEIGHBOUR: 'it returns false'. Refute it at one input. -/
def authnForgesWrong : ChangeSpec := { name := "authnForges", fn := fun _ => fun
  | [d1, d2, d3] => { results := [.lit (.bool false)], args := [d1, d2, d3] }
  | _ => none }
def AuthnForgesWrongFalsely : Prop := authnForgesRow.holds Try.pinned (OpenSpec.ofChange authnForgesWrong)

/-- 'quaestorlaw03.AuthnNumbers': WHATEVER THE INPUT: true; the input reads as it did. -/
def authnNumbersSpec : ChangeSpec := { name := "authnNumbers", fn := fun _ => fun
  | [d1, d2] => { results := [.lit (.bool true)], args := [d1, d2] }
  | _ => none }
def authnNumbersRow : OpenClaim := { program := "ytladnlechpadlaa", sum := "f0e59d03fc20ef7400254a8593a866f236ee5e8d983c2f87cdd81e2002dcb163", func := "quaestor/quaestorlaw03.AuthnNumbers", spec := "authnNumbers", plainKeys := false, apart := false }
def AuthnNumbersSaid : Prop := authnNumbersRow.holds Try.pinned (OpenSpec.ofChange authnNumbersSpec)

/-- ITS FALSE NEIGHBOUR: 'it returns false'. Refute it at one input. -/
def authnNumbersWrong : ChangeSpec := { name := "authnNumbers", fn := fun _ => fun
  | [d1, d2] => { results := [.lit (.bool false)], args := [d1, d2] }
  | _ => none }
def AuthnNumbersWrongFalsely : Prop := authnNumbersRow.holds Try.pinned (OpenSpec.ofChange authnNumbersWrong)

/-- 'quaestorlaw03.AuthnPlays': WHATEVER THE INPUT: true; the input reads as it did. -/
def authnPlaysSpec : ChangeSpec := { name := "authnPlays", fn := fun _ => fun
  | [d1, d2] => { results := [.lit (.bool true)], args := [d1, d2] }
  | _ => none }
def authnPlaysRow : OpenClaim := { program := "ytladnlechpadlaa", sum := "f0e59d03fc20ef7400254a8593a866f236ee5e8d983c2f87cdd81e2002dcb163", func := "quaestor/quaestorlaw03.AuthnPlays", spec := "authnPlays", plainKeys := false, apart := false }
def AuthnPlaysSaid : Prop := authnPlaysRow.holds Try.pinned (OpenSpec.ofChange authnPlaysSpec)

/-- ITS FALSE NEIGHBOUR: 'it returns false'. Refute it at one input. -/
def authnPlaysWrong : ChangeSpec := { name := "authnPlays", fn := fun _ => fun
  | [d1, d2] => { results := [.lit (.bool false)], args := [d1, d2] }
  | _ => none }
def AuthnPlaysWrongFalsely : Prop := authnPlaysRow.holds Try.pinned (OpenSpec.ofChange authnPlaysWrong)

/-- 'quaestorlaw03.AuthnLong': WHATEVER THE INPUT: true; the input reads as it did. -/
def authnLongSpec : ChangeSpec := { name := "authnLong", fn := fun _ => fun
  | [] => { results := [.lit (.bool true)], args := [] }
  | _ => none }
def authnLongRow : OpenClaim := { program := "ytladnlechpadlaa", sum := "f0e59d03fc20ef7400254a8593a866f236ee5e8d983c2f87cdd81e2002dcb163", func := "quaestor/quaestorlaw03.AuthnLong", spec := "authnLong", plainKeys := false, apart := false }
def AuthnLongSaid : Prop := authnLongRow.holds Try.pinned (OpenSpec.ofChange authnLongSpec)

/-- ITS FALSE NEIGHBOUR: 'it returns false'. Refute it at one input. -/
def authnLongWrong : ChangeSpec := { name := "authnLong", fn := fun _ => fun
  | [] => { results := [.lit (.bool false)], args := [] }
  | _ => none }
def AuthnLongWrongFalsely : Prop := authnLongRow.holds Try.pinned (OpenSpec.ofChange authnLongWrong)

/-- 'quaestorlaw03.AuthnMeets': WHATEVER THE INPUT: true; the input reads as it did. -/
def authnMeetsSpec : ChangeSpec := { name := "authnMeets", fn := fun _ => fun
  | [d1, d2, d3] => { results := [.lit (.bool true)], args := [d1, d2, d3] }
  | _ => none }
def authnMeetsRow : OpenClaim := { program := "ytladnlechpadlaa", sum := "f0e59d03fc20ef7400254a8593a866f236ee5e8d983c2f87cdd81e2002dcb163", func := "quaestor/quaestorlaw03.AuthnMeets", spec := "authnMeets", unfollowed := true, recurses := true, plainKeys := false, apart := false }
def AuthnMeetsSaid : Prop := authnMeetsRow.holds Try.pinned (OpenSpec.ofChange authnMeetsSpec)

/-- ITS FALSE NEIGHBOUR: 'it returns false'. Refute it at one input. -/
def authnMeetsWrong : ChangeSpec := { name := "authnMeets", fn := fun _ => fun
  | [d1, d2, d3] => { results := [.lit (.bool false)], args := [d1, d2, d3] }
  | _ => none }
def AuthnMeetsWrongFalsely : Prop := authnMeetsRow.holds Try.pinned (OpenSpec.ofChange authnMeetsWrong)

/-- 'quaestorlaw03.AuthnTurns': WHATEVER THE INPUT: true; the input reads as it did. -/
def authnTurnsSpec : ChangeSpec := { name := "authnTurns", fn := fun _ => fun
  | [d1, d2] => { results := [.lit (.bool true)], args := [d1, d2] }
  | _ => none }
def authnTurnsRow : OpenClaim := { program := "ytladnlechpadlaa", sum := "f0e59d03fc20ef7400254a8593a866f236ee5e8d983c2f87cdd81e2002dcb163", func := "quaestor/quaestorlaw03.AuthnTurns", spec := "authnTurns", unfollowed := true, recurses := true, plainKeys := false, apart := false }
def AuthnTurnsSaid : Prop := authnTurnsRow.holds Try.pinned (OpenSpec.ofChange authnTurnsSpec)

/-- ITS FALSE NEIGHBOUR: 'it returns false'. Refute it at one input. -/
def authnTurnsWrong : ChangeSpec := { name := "authnTurns", fn := fun _ => fun
  | [d1, d2] => { results := [.lit (.bool false)], args := [d1, d2] }
  | _ => none }
def AuthnTurnsWrongFalsely : Prop := authnTurnsRow.holds Try.pinned (OpenSpec.ofChange authnTurnsWrong)

/-- 'quaestorlaw03.AuthnCounts': WHATEVER THE INPUT: true; the input reads as it did. -/
def authnCountsSpec : ChangeSpec := { name := "authnCounts", fn := fun _ => fun
  | [d1, d2] => { results := [.lit (.bool true)], args := [d1, d2] }
  | _ => none }
def authnCountsRow : OpenClaim := { program := "ytladnlechpadlaa", sum := "f0e59d03fc20ef7400254a8593a866f236ee5e8d983c2f87cdd81e2002dcb163", func := "quaestor/quaestorlaw03.AuthnCounts", spec := "authnCounts", unfollowed := true, recurses := true, plainKeys := false, apart := false }
def AuthnCountsSaid : Prop := authnCountsRow.holds Try.pinned (OpenSpec.ofChange authnCountsSpec)

/-- ITS FALSE NEIGHBOUR: 'it returns false'. Refute it at one input. -/
def authnCountsWrong : ChangeSpec := { name := "authnCounts", fn := fun _ => fun
  | [d1, d2] => { results := [.lit (.bool false)], args := [d1, d2] }
  | _ => none }
def AuthnCountsWrongFalsely : Prop := authnCountsRow.holds Try.pinned (OpenSpec.ofChange authnCountsWrong)

/- THE SECOND FORM. 'bulk': how many values and letters a reading holds, each counted each time it is reached (what is shared counts as often as it is met; a slice's spare places count too). A statement '..UptoSaid' is the law's where the arguments, and the package variables that the reading takes, are together of bulk at most 1048576: NARROWER than '..Said'. Prove '..Said' where nothing that the law and all that it calls make is longer than what came in: it says more and counts as full. Else prove '..UptoSaid'. A law counts once. -/
mutual
def uptoBulk {H : Type} : DataW H → Nat
  | .lit (.string bytes) => bytes.length + 1
  | .lit _ => 1
  | .nil => 1
  | .ptr d => uptoBulk d + 1
  | .slice elems spare => uptoBulkAll elems + uptoBulkAll spare + 1
  | .agg parts => uptoBulkAll parts + 1
  | .iface _ d => uptoBulk d + 1
  | .map entries => uptoBulkEntries entries + 1
  | .held _ => 1
def uptoBulkAll {H : Type} : List (DataW H) → Nat
  | [] => 0
  | d :: r => uptoBulk d + uptoBulkAll r
def uptoBulkEntries {H : Type} : List (Lit × DataW H) → Nat
  | [] => 0
  | x :: r => uptoBulkEntry x + uptoBulkEntries r
def uptoBulkEntry {H : Type} : Lit × DataW H → Nat
  | (.string bytes, d) => bytes.length + uptoBulk d + 1
  | (_, d) => uptoBulk d + 1
 end
def uptoSmall : (H : Type) → List (DataW H) → Bool := fun _ ds => decide (uptoBulkAll ds ≤ 1048576)
def OpenSpec.upto (s : _root_.Go.ChangeSpec) : _root_.Go.OpenSpec := { _root_.Go.OpenSpec.ofChange s with cond := some uptoSmall }

/-- 'quaestorlaw03.AuthnForges', WHERE WHAT IT READS IS OF BULK AT MOST 1048576: true; the input reads as it did. -/
def authnForgesUptoRow : OpenClaim := { program := "ytladnlechpadlaa", sum := "f0e59d03fc20ef7400254a8593a866f236ee5e8d983c2f87cdd81e2002dcb163", func := "quaestor/quaestorlaw03.AuthnForges", spec := "authnForges", plainKeys := false, apart := false, narrowed := true }
def AuthnForgesUptoSaid : Prop := authnForgesUptoRow.holds Try.pinned (OpenSpec.upto authnForgesSpec)

/-- 'quaestorlaw03.AuthnNumbers', WHERE WHAT IT READS IS OF BULK AT MOST 1048576: true; the input reads as it did. -/
def authnNumbersUptoRow : OpenClaim := { program := "ytladnlechpadlaa", sum := "f0e59d03fc20ef7400254a8593a866f236ee5e8d983c2f87cdd81e2002dcb163", func := "quaestor/quaestorlaw03.AuthnNumbers", spec := "authnNumbers", plainKeys := false, apart := false, narrowed := true }
def AuthnNumbersUptoSaid : Prop := authnNumbersUptoRow.holds Try.pinned (OpenSpec.upto authnNumbersSpec)

/-- 'quaestorlaw03.AuthnPlays', WHERE WHAT IT READS IS OF BULK AT MOST 1048576: true; the input reads as it did. -/
def authnPlaysUptoRow : OpenClaim := { program := "ytladnlechpadlaa", sum := "f0e59d03fc20ef7400254a8593a866f236ee5e8d983c2f87cdd81e2002dcb163", func := "quaestor/quaestorlaw03.AuthnPlays", spec := "authnPlays", plainKeys := false, apart := false, narrowed := true }
def AuthnPlaysUptoSaid : Prop := authnPlaysUptoRow.holds Try.pinned (OpenSpec.upto authnPlaysSpec)

/-- 'quaestorlaw03.AuthnLong', WHERE WHAT IT READS IS OF BULK AT MOST 1048576: true; the input reads as it did. -/
def authnLongUptoRow : OpenClaim := { program := "ytladnlechpadlaa", sum := "f0e59d03fc20ef7400254a8593a866f236ee5e8d983c2f87cdd81e2002dcb163", func := "quaestor/quaestorlaw03.AuthnLong", spec := "authnLong", plainKeys := false, apart := false, narrowed := true }
def AuthnLongUptoSaid : Prop := authnLongUptoRow.holds Try.pinned (OpenSpec.upto authnLongSpec)

/-- 'quaestorlaw03.AuthnMeets', WHERE WHAT IT READS IS OF BULK AT MOST 1048576: true; the input reads as it did. -/
def authnMeetsUptoRow : OpenClaim := { program := "ytladnlechpadlaa", sum := "f0e59d03fc20ef7400254a8593a866f236ee5e8d983c2f87cdd81e2002dcb163", func := "quaestor/quaestorlaw03.AuthnMeets", spec := "authnMeets", unfollowed := true, recurses := true, plainKeys := false, apart := false, narrowed := true }
def AuthnMeetsUptoSaid : Prop := authnMeetsUptoRow.holds Try.pinned (OpenSpec.upto authnMeetsSpec)

/-- 'quaestorlaw03.AuthnTurns', WHERE WHAT IT READS IS OF BULK AT MOST 1048576: true; the input reads as it did. -/
def authnTurnsUptoRow : OpenClaim := { program := "ytladnlechpadlaa", sum := "f0e59d03fc20ef7400254a8593a866f236ee5e8d983c2f87cdd81e2002dcb163", func := "quaestor/quaestorlaw03.AuthnTurns", spec := "authnTurns", unfollowed := true, recurses := true, plainKeys := false, apart := false, narrowed := true }
def AuthnTurnsUptoSaid : Prop := authnTurnsUptoRow.holds Try.pinned (OpenSpec.upto authnTurnsSpec)

/-- 'quaestorlaw03.AuthnCounts', WHERE WHAT IT READS IS OF BULK AT MOST 1048576: true; the input reads as it did. -/
def authnCountsUptoRow : OpenClaim := { program := "ytladnlechpadlaa", sum := "f0e59d03fc20ef7400254a8593a866f236ee5e8d983c2f87cdd81e2002dcb163", func := "quaestor/quaestorlaw03.AuthnCounts", spec := "authnCounts", unfollowed := true, recurses := true, plainKeys := false, apart := false, narrowed := true }
def AuthnCountsUptoSaid : Prop := authnCountsUptoRow.holds Try.pinned (OpenSpec.upto authnCountsSpec)

end Rows
end Go.Proofs.Ytladnlechpadlaa
