/-
  No cell of these rows narrows 'for every input' (looked for: loops, veiled, ifaces, maps, wideKeys, modest, calm, conditions, laid).
  DERIVED. THE GIVEN ROWS OF THIS SEAT. 6 by the template 'for every input the law returns true; each argument reads behind the call as it read before'; 0 by the template 'total and deterministic' (their statements: YtdgjpmhpjhdkmaaTotals.lean).
  GIVEN WITH THE SEED: the statements are not yours to turn. If you find one false, say at which input.
  Laid BY PROGRAM, IN A SANDBOX (cutbox-rows.mjs): the forced cells as the released guide's own fill.sh prints them over the translation 0c373c638f41a197… (all of the seat's roots in one cut). By AI agents, Wed Nov 11 2026. No macro, syntax, notation, axiom, sorry.
-/
import Derived.Test.YtdgjpmhpjhdkmaaChecked
import GoSem.Claim
import GoSem.ClaimJoined
import GoSem.ClaimMapViews
import Derived.JoinedTies
import Derived.KernelRfl
namespace Go.Proofs.Ytdgjpmhpjhdkmaa
/- THE CELL 'sum', in the pinned program and in every row, IS THE sha256 OF THE DUMP (.gsa) THAT YtdgjpmhpjhdkmaaProg.lean LOADS. Nothing in Lean hashes anything: it is a label: what it is worth is what the hold of that sum in a sandbox is worth. -/
noncomputable def Try.pinned : Pinned := { name := "ytdgjpmhpjhdkmaa", sum := "0c373c638f41a197be588315fa499fc63980129c1d9341aaba59f263313a36e4", checked := Try.checked }
namespace Rows
def none {H : Type} : Left H := { results := [], args := [] }

/-- 'quaestorlaw02.TermOf': WHATEVER THE INPUT: true; the input reads as it did. -/
def termOfSpec : ChangeSpec := { name := "termOf", fn := fun _ => fun
  | [d1, d2] => { results := [.lit (.bool true)], args := [d1, d2] }
  | _ => none }
def termOfRow : OpenClaim := { program := "ytdgjpmhpjhdkmaa", sum := "0c373c638f41a197be588315fa499fc63980129c1d9341aaba59f263313a36e4", func := "quaestor/quaestorlaw02.TermOf", spec := "termOf", unfollowed := true, recurses := true, apart := false }
def TermOfSaid : Prop := termOfRow.holds Try.pinned (OpenSpec.ofChange termOfSpec)

/-- ITS FALSE NEIGHBOUR: 'it returns false'. Refute it at one input. -/
def termOfWrong : ChangeSpec := { name := "termOf", fn := fun _ => fun
  | [d1, d2] => { results := [.lit (.bool false)], args := [d1, d2] }
  | _ => none }
def TermOfWrongFalsely : Prop := termOfRow.holds Try.pinned (OpenSpec.ofChange termOfWrong)

/-- 'quaestorlaw02.TermOpens': WHATEVER THE INPUT: true; the input reads as it did. -/
def termOpensSpec : ChangeSpec := { name := "termOpens", fn := fun _ => fun
  | [d] => { results := [.lit (.bool true)], args := [d] }
  | _ => none }
def termOpensRow : OpenClaim := { program := "ytdgjpmhpjhdkmaa", sum := "0c373c638f41a197be588315fa499fc63980129c1d9341aaba59f263313a36e4", func := "quaestor/quaestorlaw02.TermOpens", spec := "termOpens", unfollowed := true, recurses := true, apart := false }
def TermOpensSaid : Prop := termOpensRow.holds Try.pinned (OpenSpec.ofChange termOpensSpec)

/-- ITS FALSE NEIGHBOUR: 'it returns false'. Refute it at one input. -/
def termOpensWrong : ChangeSpec := { name := "termOpens", fn := fun _ => fun
  | [d] => { results := [.lit (.bool false)], args := [d] }
  | _ => none }
def TermOpensWrongFalsely : Prop := termOpensRow.holds Try.pinned (OpenSpec.ofChange termOpensWrong)

/-- 'quaestorlaw02.TermBack': WHATEVER THE INPUT: true; the input reads as it did. -/
def termBackSpec : ChangeSpec := { name := "termBack", fn := fun _ => fun
  | [d1, d2, d3] => { results := [.lit (.bool true)], args := [d1, d2, d3] }
  | _ => none }
def termBackRow : OpenClaim := { program := "ytdgjpmhpjhdkmaa", sum := "0c373c638f41a197be588315fa499fc63980129c1d9341aaba59f263313a36e4", func := "quaestor/quaestorlaw02.TermBack", spec := "termBack", unfollowed := true, recurses := true, apart := false }
def TermBackSaid : Prop := termBackRow.holds Try.pinned (OpenSpec.ofChange termBackSpec)

/-- ITS FALSE NEIGHBOUR: 'it returns false'. Refute it at one input. -/
def termBackWrong : ChangeSpec := { name := "termBack", fn := fun _ => fun
  | [d1, d2, d3] => { results := [.lit (.bool false)], args := [d1, d2, d3] }
  | _ => none }
def TermBackWrongFalsely : Prop := termBackRow.holds Try.pinned (OpenSpec.ofChange termBackWrong)

/-- 'quaestorlaw02.TermApart': WHATEVER THE INPUT: true; the input reads as it did. -/
def termApartSpec : ChangeSpec := { name := "termApart", fn := fun _ => fun
  | [d1, d2, d3] => { results := [.lit (.bool true)], args := [d1, d2, d3] }
  | _ => none }
def termApartRow : OpenClaim := { program := "ytdgjpmhpjhdkmaa", sum := "0c373c638f41a197be588315fa499fc63980129c1d9341aaba59f263313a36e4", func := "quaestor/quaestorlaw02.TermApart", spec := "termApart", unfollowed := true, recurses := true, apart := false }
def TermApartSaid : Prop := termApartRow.holds Try.pinned (OpenSpec.ofChange termApartSpec)

/-- ITS FALSE NEIGHBOUR: 'it returns false'. Refute it at one input. -/
def termApartWrong : ChangeSpec := { name := "termApart", fn := fun _ => fun
  | [d1, d2, d3] => { results := [.lit (.bool false)], args := [d1, d2, d3] }
  | _ => none }
def TermApartWrongFalsely : Prop := termApartRow.holds Try.pinned (OpenSpec.ofChange termApartWrong)

/-- 'quaestorlaw02.TermPairs': WHATEVER THE INPUT: true; the input reads as it did. -/
def termPairsSpec : ChangeSpec := { name := "termPairs", fn := fun _ => fun
  | [d1, d2, d3] => { results := [.lit (.bool true)], args := [d1, d2, d3] }
  | _ => none }
def termPairsRow : OpenClaim := { program := "ytdgjpmhpjhdkmaa", sum := "0c373c638f41a197be588315fa499fc63980129c1d9341aaba59f263313a36e4", func := "quaestor/quaestorlaw02.TermPairs", spec := "termPairs", unfollowed := true, recurses := true, apart := false }
def TermPairsSaid : Prop := termPairsRow.holds Try.pinned (OpenSpec.ofChange termPairsSpec)

/-- ITS FALSE NEIGHBOUR: 'it returns false'. Refute it at one input. -/
def termPairsWrong : ChangeSpec := { name := "termPairs", fn := fun _ => fun
  | [d1, d2, d3] => { results := [.lit (.bool false)], args := [d1, d2, d3] }
  | _ => none }
def TermPairsWrongFalsely : Prop := termPairsRow.holds Try.pinned (OpenSpec.ofChange termPairsWrong)

/-- 'quaestorlaw02.TermNests': WHATEVER THE INPUT: true; the input reads as it did. -/
def termNestsSpec : ChangeSpec := { name := "termNests", fn := fun _ => fun
  | [d1, d2, d3] => { results := [.lit (.bool true)], args := [d1, d2, d3] }
  | _ => none }
def termNestsRow : OpenClaim := { program := "ytdgjpmhpjhdkmaa", sum := "0c373c638f41a197be588315fa499fc63980129c1d9341aaba59f263313a36e4", func := "quaestor/quaestorlaw02.TermNests", spec := "termNests", unfollowed := true, recurses := true, apart := false }
def TermNestsSaid : Prop := termNestsRow.holds Try.pinned (OpenSpec.ofChange termNestsSpec)

/-- ITS FALSE NEIGHBOUR: 'it returns false'. Refute it at one input. -/
def termNestsWrong : ChangeSpec := { name := "termNests", fn := fun _ => fun
  | [d1, d2, d3] => { results := [.lit (.bool false)], args := [d1, d2, d3] }
  | _ => none }
def TermNestsWrongFalsely : Prop := termNestsRow.holds Try.pinned (OpenSpec.ofChange termNestsWrong)

/- THE SECOND FORM. 'bulk': how many values and letters a reading holds, each counted each time it is reached (what is shared counts as often as it is met; a slice's spare places count too). A statement '..UptoSaid' is the law's where the arguments, and the package variables that the reading takes, are together of bulk at most 1048576: NARROWER than '..Said'. Prove '..Said' where nothing that the law and all that it calls make is longer than what came in: it says more and counts as full. Else prove '..UptoSaid'. A law counts once. -/
mutual
def uptoBulk {H : Type} : DataW H → Nat
  | .lit (.string bytes) => bytes.length + 1
  | .lit _ => 1
  | .nil => 1
  | .ptr d => uptoBulk d + 1
  | .slice elems spare => uptoBulkAll elems + uptoBulkAll spare + 1
  | .agg parts => uptoBulkAll parts + 1
  | .iface _ d => uptoBulk d + 1
  | .map entries => uptoBulkEntries entries + 1
  | .held _ => 1
def uptoBulkAll {H : Type} : List (DataW H) → Nat
  | [] => 0
  | d :: r => uptoBulk d + uptoBulkAll r
def uptoBulkEntries {H : Type} : List (Lit × DataW H) → Nat
  | [] => 0
  | x :: r => uptoBulkEntry x + uptoBulkEntries r
def uptoBulkEntry {H : Type} : Lit × DataW H → Nat
  | (.string bytes, d) => bytes.length + uptoBulk d + 1
  | (_, d) => uptoBulk d + 1
 end
def uptoSmall : (H : Type) → List (DataW H) → Bool := fun _ ds => decide (uptoBulkAll ds ≤ 1048576)
def OpenSpec.upto (s : _root_.Go.ChangeSpec) : _root_.Go.OpenSpec := { _root_.Go.OpenSpec.ofChange s with cond := some uptoSmall }

/-- 'quaestorlaw02.TermOf', WHERE WHAT IT READS IS OF BULK AT MOST 1048576: true; the input reads as it did. -/
def termOfUptoRow : OpenClaim := { program := "ytdgjpmhpjhdkmaa", sum := "0c373c638f41a197be588315fa499fc63980129c1d9341aaba59f263313a36e4", func := "quaestor/quaestorlaw02.TermOf", spec := "termOf", unfollowed := true, recurses := true, apart := false, narrowed := true }
def TermOfUptoSaid : Prop := termOfUptoRow.holds Try.pinned (OpenSpec.upto termOfSpec)

/-- 'quaestorlaw02.TermOpens', WHERE WHAT IT READS IS OF BULK AT MOST 1048576: true; the input reads as it did. -/
def termOpensUptoRow : OpenClaim := { program := "ytdgjpmhpjhdkmaa", sum := "0c373c638f41a197be588315fa499fc63980129c1d9341aaba59f263313a36e4", func := "quaestor/quaestorlaw02.TermOpens", spec := "termOpens", unfollowed := true, recurses := true, apart := false, narrowed := true }
def TermOpensUptoSaid : Prop := termOpensUptoRow.holds Try.pinned (OpenSpec.upto termOpensSpec)

/-- 'quaestorlaw02.TermBack', WHERE WHAT IT READS IS OF BULK AT MOST 1048576: true; the input reads as it did. -/
def termBackUptoRow : OpenClaim := { program := "ytdgjpmhpjhdkmaa", sum := "0c373c638f41a197be588315fa499fc63980129c1d9341aaba59f263313a36e4", func := "quaestor/quaestorlaw02.TermBack", spec := "termBack", unfollowed := true, recurses := true, apart := false, narrowed := true }
def TermBackUptoSaid : Prop := termBackUptoRow.holds Try.pinned (OpenSpec.upto termBackSpec)

/-- 'quaestorlaw02.TermApart', WHERE WHAT IT READS IS OF BULK AT MOST 1048576: true; the input reads as it did. -/
def termApartUptoRow : OpenClaim := { program := "ytdgjpmhpjhdkmaa", sum := "0c373c638f41a197be588315fa499fc63980129c1d9341aaba59f263313a36e4", func := "quaestor/quaestorlaw02.TermApart", spec := "termApart", unfollowed := true, recurses := true, apart := false, narrowed := true }
def TermApartUptoSaid : Prop := termApartUptoRow.holds Try.pinned (OpenSpec.upto termApartSpec)

/-- 'quaestorlaw02.TermPairs', WHERE WHAT IT READS IS OF BULK AT MOST 1048576: true; the input reads as it did. -/
def termPairsUptoRow : OpenClaim := { program := "ytdgjpmhpjhdkmaa", sum := "0c373c638f41a197be588315fa499fc63980129c1d9341aaba59f263313a36e4", func := "quaestor/quaestorlaw02.TermPairs", spec := "termPairs", unfollowed := true, recurses := true, apart := false, narrowed := true }
def TermPairsUptoSaid : Prop := termPairsUptoRow.holds Try.pinned (OpenSpec.upto termPairsSpec)

/-- 'quaestorlaw02.TermNests', WHERE WHAT IT READS IS OF BULK AT MOST 1048576: true; the input reads as it did. -/
def termNestsUptoRow : OpenClaim := { program := "ytdgjpmhpjhdkmaa", sum := "0c373c638f41a197be588315fa499fc63980129c1d9341aaba59f263313a36e4", func := "quaestor/quaestorlaw02.TermNests", spec := "termNests", unfollowed := true, recurses := true, apart := false, narrowed := true }
def TermNestsUptoSaid : Prop := termNestsUptoRow.holds Try.pinned (OpenSpec.upto termNestsSpec)

end Rows
end Go.Proofs.Ytdgjpmhpjhdkmaa
