/-
  No cell of these rows narrows 'for every input' (looked for: loops, veiled, ifaces, maps, wideKeys, modest, calm, conditions, laid).
  DERIVED. THE GIVEN ROWS OF THIS SEAT. 4 by the template 'for every input the law returns true; each argument reads behind the call as it read before'; 0 by the template 'total and deterministic' (their statements: YthnefnknoahbkaaTotals.lean).
  GIVEN WITH THE SEED: the statements are not yours to turn. If you find one false, say at which input.
  Laid BY PROGRAM, IN A SANDBOX (cutbox-rows.mjs): the forced cells as the released guide's own fill.sh prints them over the translation 46e986c8d50f59b3… (all of the seat's roots in one cut). By AI agents, Wed Nov 11 2026. No macro, syntax, notation, axiom, sorry.
-/
import Derived.Test.YthnefnknoahbkaaChecked
import GoSem.Claim
import GoSem.ClaimJoined
import GoSem.ClaimMapViews
import Derived.JoinedTies
import Derived.KernelRfl
namespace Go.Proofs.Ythnefnknoahbkaa
/- THE CELL 'sum', in the pinned program and in every row, IS THE sha256 OF THE DUMP (.gsa) THAT YthnefnknoahbkaaProg.lean LOADS. Nothing in Lean hashes anything: it is a label: what it is worth is what the hold of that sum in a sandbox is worth. -/
noncomputable def Try.pinned : Pinned := { name := "ythnefnknoahbkaa", sum := "46e986c8d50f59b3c88ba0855d3867ae0d1bf7d9803bec53ad6fc226b87d9d89", checked := Try.checked }
namespace Rows
def none {H : Type} : Left H := { results := [], args := [] }

/-- 'quaestorlaw18.ClientPlays': WHATEVER THE INPUT: true; the input reads as it did. -/
def clientPlaysSpec : ChangeSpec := { name := "clientPlays", fn := fun _ => fun
  | [d1, d2] => { results := [.lit (.bool true)], args := [d1, d2] }
  | _ => none }
def clientPlaysRow : OpenClaim := { program := "ythnefnknoahbkaa", sum := "46e986c8d50f59b3c88ba0855d3867ae0d1bf7d9803bec53ad6fc226b87d9d89", func := "quaestor/quaestorlaw18.ClientPlays", spec := "clientPlays", unfollowed := true, recurses := true, plainKeys := false, apart := false }
def ClientPlaysSaid : Prop := clientPlaysRow.holds Try.pinned (OpenSpec.ofChange clientPlaysSpec)

/-- ITS FALSE NEIGHBOUR: 'it returns false'. Refute it at one input. -/
def clientPlaysWrong : ChangeSpec := { name := "clientPlays", fn := fun _ => fun
  | [d1, d2] => { results := [.lit (.bool false)], args := [d1, d2] }
  | _ => none }
def ClientPlaysWrongFalsely : Prop := clientPlaysRow.holds Try.pinned (OpenSpec.ofChange clientPlaysWrong)

/-- 'quaestorlaw18.ClientOne': WHATEVER THE INPUT: true; the input reads as it did. -/
def clientOneSpec : ChangeSpec := { name := "clientOne", fn := fun _ => fun
  | [d1, d2] => { results := [.lit (.bool true)], args := [d1, d2] }
  | _ => none }
def clientOneRow : OpenClaim := { program := "ythnefnknoahbkaa", sum := "46e986c8d50f59b3c88ba0855d3867ae0d1bf7d9803bec53ad6fc226b87d9d89", func := "quaestor/quaestorlaw18.ClientOne", spec := "clientOne", unfollowed := true, recurses := true, plainKeys := false, apart := false }
def ClientOneSaid : Prop := clientOneRow.holds Try.pinned (OpenSpec.ofChange clientOneSpec)

/-- ITS FALSE NEIGHBOUR: 'it returns false'. Refute it at one input. -/
def clientOneWrong : ChangeSpec := { name := "clientOne", fn := fun _ => fun
  | [d1, d2] => { results := [.lit (.bool false)], args := [d1, d2] }
  | _ => none }
def ClientOneWrongFalsely : Prop := clientOneRow.holds Try.pinned (OpenSpec.ofChange clientOneWrong)

/-- 'quaestorlaw18.ClientDeaf': WHATEVER THE INPUT: true; the input reads as it did. -/
def clientDeafSpec : ChangeSpec := { name := "clientDeaf", fn := fun _ => fun
  | [d1, d2] => { results := [.lit (.bool true)], args := [d1, d2] }
  | _ => none }
def clientDeafRow : OpenClaim := { program := "ythnefnknoahbkaa", sum := "46e986c8d50f59b3c88ba0855d3867ae0d1bf7d9803bec53ad6fc226b87d9d89", func := "quaestor/quaestorlaw18.ClientDeaf", spec := "clientDeaf", unfollowed := true, recurses := true, plainKeys := false, apart := false }
def ClientDeafSaid : Prop := clientDeafRow.holds Try.pinned (OpenSpec.ofChange clientDeafSpec)

/-- ITS FALSE NEIGHBOUR: 'it returns false'. Refute it at one input. -/
def clientDeafWrong : ChangeSpec := { name := "clientDeaf", fn := fun _ => fun
  | [d1, d2] => { results := [.lit (.bool false)], args := [d1, d2] }
  | _ => none }
def ClientDeafWrongFalsely : Prop := clientDeafRow.holds Try.pinned (OpenSpec.ofChange clientDeafWrong)

/-- 'quaestorlaw18.ClientNone': WHATEVER THE INPUT: true; the input reads as it did. -/
def clientNoneSpec : ChangeSpec := { name := "clientNone", fn := fun _ => fun
  | [d1, d2] => { results := [.lit (.bool true)], args := [d1, d2] }
  | _ => none }
def clientNoneRow : OpenClaim := { program := "ythnefnknoahbkaa", sum := "46e986c8d50f59b3c88ba0855d3867ae0d1bf7d9803bec53ad6fc226b87d9d89", func := "quaestor/quaestorlaw18.ClientNone", spec := "clientNone", unfollowed := true, recurses := true, plainKeys := false, apart := false }
def ClientNoneSaid : Prop := clientNoneRow.holds Try.pinned (OpenSpec.ofChange clientNoneSpec)

/-- ITS FALSE NEIGHBOUR: 'it returns false'. Refute it at one input. -/
def clientNoneWrong : ChangeSpec := { name := "clientNone", fn := fun _ => fun
  | [d1, d2] => { results := [.lit (.bool false)], args := [d1, d2] }
  | _ => none }
def ClientNoneWrongFalsely : Prop := clientNoneRow.holds Try.pinned (OpenSpec.ofChange clientNoneWrong)

/- THE SECOND FORM. 'bulk': how many values and letters a reading holds, each counted each time it is reached (what is shared counts as often as it is met; a slice's spare places count too). A statement '..UptoSaid' is the law's where the arguments, and the package variables that the reading takes, are together of bulk at most 1048576: NARROWER than '..Said'. Prove '..Said' where nothing that the law and all that it calls make is longer than what came in: it says more and counts as full. Else prove '..UptoSaid'. A law counts once. -/
mutual
def uptoBulk {H : Type} : DataW H → Nat
  | .lit (.string bytes) => bytes.length + 1
  | .lit _ => 1
  | .nil => 1
  | .ptr d => uptoBulk d + 1
  | .slice elems spare => uptoBulkAll elems + uptoBulkAll spare + 1
  | .agg parts => uptoBulkAll parts + 1
  | .iface _ d => uptoBulk d + 1
  | .map entries => uptoBulkEntries entries + 1
  | .held _ => 1
def uptoBulkAll {H : Type} : List (DataW H) → Nat
  | [] => 0
  | d :: r => uptoBulk d + uptoBulkAll r
def uptoBulkEntries {H : Type} : List (Lit × DataW H) → Nat
  | [] => 0
  | x :: r => uptoBulkEntry x + uptoBulkEntries r
def uptoBulkEntry {H : Type} : Lit × DataW H → Nat
  | (.string bytes, d) => bytes.length + uptoBulk d + 1
  | (_, d) => uptoBulk d + 1
 end
def uptoSmall : (H : Type) → List (DataW H) → Bool := fun _ ds => decide (uptoBulkAll ds ≤ 1048576)
def OpenSpec.upto (s : _root_.Go.ChangeSpec) : _root_.Go.OpenSpec := { _root_.Go.OpenSpec.ofChange s with cond := some uptoSmall }

/-- 'quaestorlaw18.ClientPlays', WHERE WHAT IT READS IS OF BULK AT MOST 1048576: true; the input reads as it did. -/
def clientPlaysUptoRow : OpenClaim := { program := "ythnefnknoahbkaa", sum := "46e986c8d50f59b3c88ba0855d3867ae0d1bf7d9803bec53ad6fc226b87d9d89", func := "quaestor/quaestorlaw18.ClientPlays", spec := "clientPlays", unfollowed := true, recurses := true, plainKeys := false, apart := false, narrowed := true }
def ClientPlaysUptoSaid : Prop := clientPlaysUptoRow.holds Try.pinned (OpenSpec.upto clientPlaysSpec)

/-- 'quaestorlaw18.ClientOne', WHERE WHAT IT READS IS OF BULK AT MOST 1048576: true; the input reads as it did. -/
def clientOneUptoRow : OpenClaim := { program := "ythnefnknoahbkaa", sum := "46e986c8d50f59b3c88ba0855d3867ae0d1bf7d9803bec53ad6fc226b87d9d89", func := "quaestor/quaestorlaw18.ClientOne", spec := "clientOne", unfollowed := true, recurses := true, plainKeys := false, apart := false, narrowed := true }
def ClientOneUptoSaid : Prop := clientOneUptoRow.holds Try.pinned (OpenSpec.upto clientOneSpec)

/-- 'quaestorlaw18.ClientDeaf', WHERE WHAT IT READS IS OF BULK AT MOST 1048576: true; the input reads as it did. -/
def clientDeafUptoRow : OpenClaim := { program := "ythnefnknoahbkaa", sum := "46e986c8d50f59b3c88ba0855d3867ae0d1bf7d9803bec53ad6fc226b87d9d89", func := "quaestor/quaestorlaw18.ClientDeaf", spec := "clientDeaf", unfollowed := true, recurses := true, plainKeys := false, apart := false, narrowed := true }
def ClientDeafUptoSaid : Prop := clientDeafUptoRow.holds Try.pinned (OpenSpec.upto clientDeafSpec)

/-- 'quaestorlaw18.ClientNone', WHERE WHAT IT READS IS OF BULK AT MOST 1048576: true; the input reads as it did. -/
def clientNoneUptoRow : OpenClaim := { program := "ythnefnknoahbkaa", sum := "46e986c8d50f59b3c88ba0855d3867ae0d1bf7d9803bec53ad6fc226b87d9d89", func := "quaestor/quaestorlaw18.ClientNone", spec := "clientNone", unfollowed := true, recurses := true, plainKeys := false, apart := false, narrowed := true }
def ClientNoneUptoSaid : Prop := clientNoneUptoRow.holds Try.pinned (OpenSpec.upto clientNoneSpec)

end Rows
end Go.Proofs.Ythnefnknoahbkaa
