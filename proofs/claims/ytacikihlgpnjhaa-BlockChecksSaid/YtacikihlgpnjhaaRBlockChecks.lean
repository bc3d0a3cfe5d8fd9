/- The law BlockChecks holds: whatever the input, the call returns true and the input reads as it did. No conditions. -/
import Derived.Test.YtacikihlgpnjhaaRows
import Derived.Test.YtacikihlgpnjhaaC10n14
import Derived.Test.YtacikihlgpnjhaaQ16
import Derived.WalkKit
import Derived.ProofKit
import Derived.OpenShut
import Derived.ShutString
import Derived.ChangeOld
import Derived.Below
import Derived.SizedLaws
namespace Go.Proofs.Ytacikihlgpnjhaa.blockChecks
open Go Go.ChangeShapes Go.WideShapes Go.ChangeAt Go.RowKit
open Go.ChangeMaps (open_string shut_string)
set_option linter.unusedVariables false
theorem own : ownKnob Try.prog.godebug = none := by kernel_rfl
theorem laidOut : laidOutB Try.prog = true := by kernel_rfl
set_option maxRecDepth 100000 in
theorem lifted (os : Os) (started : os.Started) (H : Type) (enc : TypeId × Value → H) :
    ReturnsInHanded {} Try.checked os 3 .any (Rows.blockChecksSpec.pre6 enc Try.prog Try.f3 Rows.blockChecksRow.domain false) (Rows.blockChecksSpec.post enc Try.prog Try.f3 false true false false) := by
  refine returnsInHanded_of_change_sized (C := Try.checked) own started (by kernel_rfl) Try.func3
    (ChangeSpec.witness6 (enc := enc) (C := Try.checked) false ⟨#[], #[.agg #[.int .i64 0, .string ByteArray.empty, .slice none 0 0, .slice none 0 0]], []⟩ 8 (by kernel_rfl) (by kernel_rfl) (by kernel_rfl) (by kernel_rfl)) ?_
  intro W base args ds gs before hval0 hW hcnd hsz0 _
  have hval : ∀ (j : Nat) t v, Try.f3.params[j]? = some t → args[j]? = some v → Value.okWide Try.prog W .any base t v := hval0
  have hW' := hW
  obtain ⟨p, q, hA0, hV, rfl, hfz, hnd⟩ := hW
  have hA : DataW.TrodAll enc Try.prog W 0 (fun _ => true) true Try.f3.params.toList args.toList ds p := hA0
  rw [Try.params3] at hA hval
  obtain ⟨v0, vs0, d0, ds0, p0, q0, hargs, rfl, rfl, h0, r0⟩ := trodAll_cons hA
  obtain ⟨rfl, rfl, rfl⟩ := trodAll_nil r0
  obtain rfl : args = #[v0] := by cases args; simp_all
  obtain ⟨rfl, rfl⟩ := trodVars_none hV
  have k0 := h0
  have lt0 : ∀ x ∈ p0, x.block < W.heap.size := by obtain ⟨m, hm⟩ := k0; exact DataW.trod_lt m _ _ _ hm
  obtain ⟨c0, rfl, _⟩ : ∃ cs, v0 = .agg cs ∧ True := by have z := hval 0 26 v0 rfl rfl; unfold Value.okWide at z; rw [Try.underlying26] at z; obtain ⟨cs, e, _⟩ := z; exact ⟨cs, e, trivial⟩
  obtain ⟨fuel0, hf0⟩ := k0
  obtain ⟨x0, ox0, cx0⟩ := Q.rd_api_Block H enc W 0 _ _ fuel0 _ _ hf0
  replace k0 : DataW.Trod enc Try.prog W 0 (fun _ => true) true 26 (.agg c0) _ _ := ⟨fuel0, hf0⟩
  refine (Q.lawN (Q.law_BlockChecks x0 (by have h := ox0.2.2.1.1; simp only [maxLen] at h; omega) (by have h := ox0.2.2.2.1; simp only [maxLen] at h; omega)) W (vs := [.agg c0]) rfl (fun i av h => ?_)).mono fun e W' ⟨he, bel⟩ => ?_
  · rcases i with _ | i
    · cases h; exact Q.arg_agg cx0 rfl
    · cases h
  subst he
  exact ⟨_, rfl, _, _, _, [], _, [], hW', trodAll_mk1 (shut_bool Try.underlying4 _), (trodAll_cons_mk (Below.trod laidOut (by kernel_rfl) (of_decide_eq_true (by kernel_rfl)) k0 bel lt0) trodAll_mk0), rfl, bel.frame _, fun h => by cases h⟩
theorem over : Rows.blockChecksRow.holds Try.pinned (OpenSpec.ofChange Rows.blockChecksSpec) :=
  OpenClaim.holds_of_wide 3 Try.f3 rfl rfl rfl rfl rfl rfl rfl ⟨rfl, rfl, rfl, rfl, rfl⟩ rfl rfl rfl rfl rfl (by kernel_rfl) Try.func3 (by kernel_rfl)
    (of_decide_eq_true (by kernel_rfl)) (by unfold Func.isWrapper; first | (rw [if_pos (by decide +kernel)]; kernel_rfl) | (rw [if_neg (by decide +kernel)]; exact ⟨rfl, rfl⟩))
    (fun os started H enc _ => lifted os started H enc)
theorem proved : Rows.BlockChecksSaid := over
end Go.Proofs.Ytacikihlgpnjhaa.blockChecks
namespace Go.Proofs.Ytacikihlgpnjhaa
theorem blockChecks_holds : Rows.BlockChecksSaid := blockChecks.proved
end Go.Proofs.Ytacikihlgpnjhaa
#print axioms Go.Proofs.Ytacikihlgpnjhaa.blockChecks_holds
