/- The law TermOpens holds: whatever the input, the call returns true and the input reads as it did. No conditions. -/
import Derived.Test.YtdgjpmhpjhdkmaaRows
import Derived.Test.YtdgjpmhpjhdkmaaC02n15
import Derived.Test.YtdgjpmhpjhdkmaaQ16
import Derived.WalkKit
import Derived.ProofKit
import Derived.OpenShut
import Derived.ShutString
import Derived.ChangeOld
import Derived.Below
import Derived.SizedLaws
namespace Go.Proofs.Ytdgjpmhpjhdkmaa.termOpens
open Go Go.ChangeShapes Go.WideShapes Go.ChangeAt Go.RowKit
open Go.ChangeMaps (open_string shut_string)
set_option linter.unusedVariables false
theorem own : ownKnob Try.prog.godebug = none := by kernel_rfl
theorem laidOut : laidOutB Try.prog = true := by kernel_rfl
set_option maxRecDepth 100000 in
theorem lifted (os : Os) (started : os.Started) (H : Type) (enc : TypeId × Value → H) :
    ReturnsInHanded {} Try.checked os 4 .any (Rows.termOpensSpec.pre6 enc Try.prog Try.f4 Rows.termOpensRow.domain false) (Rows.termOpensSpec.post enc Try.prog Try.f4 false true false false) := by
  refine returnsInHanded_of_change_sized (C := Try.checked) own started (by kernel_rfl) Try.func4
    (ChangeSpec.witness6 (enc := enc) (C := Try.checked) false ⟨#[], #[.string ByteArray.empty], []⟩ 8 (by kernel_rfl) (by kernel_rfl) (by kernel_rfl) (by kernel_rfl)) ?_
  intro W base args ds gs before hval0 hW hcnd hsz0 _
  have hval : ∀ (j : Nat) t v, Try.f4.params[j]? = some t → args[j]? = some v → Value.okWide Try.prog W .any base t v := hval0
  have hW' := hW
  obtain ⟨p, q, hA0, hV, rfl, hfz, hnd⟩ := hW
  have hA : DataW.TrodAll enc Try.prog W 0 (fun _ => true) true Try.f4.params.toList args.toList ds p := hA0
  rw [Try.params4] at hA hval
  obtain ⟨v0, vs0, d0, ds0, p0, q0, hargs, rfl, rfl, h0, r0⟩ := trodAll_cons hA
  obtain ⟨rfl, rfl, rfl⟩ := trodAll_nil r0
  obtain rfl : args = #[v0] := by cases args; simp_all
  obtain ⟨rfl, rfl⟩ := trodVars_none hV
  have k0 := h0
  have lt0 : ∀ x ∈ p0, x.block < W.heap.size := by obtain ⟨m, hm⟩ := k0; exact DataW.trod_lt m _ _ _ hm
  obtain ⟨s0, rfl, rfl, rfl, _⟩ := open_string Try.underlying25 (hval 0 25 v0 rfl rfl) h0
  obtain ⟨fuel0, hf0⟩ := k0
  obtain ⟨x0, ox0, cx0⟩ := (Q.rd_str Try.underlying25) H enc W 0 _ _ fuel0 _ _ hf0
  replace k0 : DataW.Trod enc Try.prog W 0 (fun _ => true) true 25 (.string s0) _ _ := ⟨fuel0, hf0⟩
  refine (Q.lawN (Q.law_TermOpens x0) W (vs := [.string s0]) rfl (fun i av h => ?_)).mono fun e W' ⟨he, bel⟩ => ?_
  · rcases i with _ | i
    · cases h; exact Q.arg_one cx0 rfl rfl
    · cases h
  subst he
  exact ⟨_, rfl, _, _, _, [], _, [], hW', trodAll_mk1 (shut_bool Try.underlying4 _), (trodAll_cons_mk (Below.trod laidOut (by kernel_rfl) (of_decide_eq_true (by kernel_rfl)) k0 bel lt0) trodAll_mk0), rfl, bel.frame _, fun h => by cases h⟩
theorem over : Rows.termOpensRow.holds Try.pinned (OpenSpec.ofChange Rows.termOpensSpec) :=
  OpenClaim.holds_of_wide 4 Try.f4 rfl rfl rfl rfl rfl rfl rfl ⟨rfl, rfl, rfl, rfl, rfl⟩ rfl rfl rfl rfl rfl (by kernel_rfl) Try.func4 (by kernel_rfl)
    (of_decide_eq_true (by kernel_rfl)) (by unfold Func.isWrapper; first | (rw [if_pos (by decide +kernel)]; kernel_rfl) | (rw [if_neg (by decide +kernel)]; exact ⟨rfl, rfl⟩))
    (fun os started H enc _ => lifted os started H enc)
theorem proved : Rows.TermOpensSaid := over
end Go.Proofs.Ytdgjpmhpjhdkmaa.termOpens
namespace Go.Proofs.Ytdgjpmhpjhdkmaa
theorem termOpens_holds : Rows.TermOpensSaid := termOpens.proved
end Go.Proofs.Ytdgjpmhpjhdkmaa
#print axioms Go.Proofs.Ytdgjpmhpjhdkmaa.termOpens_holds
