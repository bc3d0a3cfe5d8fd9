/- The law MerkleProves holds: whatever the input, the call returns true and the input reads as it did. No conditions. -/
import Derived.Test.YtcpdbbabbnbghaaRows
import Derived.Test.YtcpdbbabbnbghaaC09n13
import Derived.Test.YtcpdbbabbnbghaaQ16
import Derived.WalkKit
import Derived.ProofKit
import Derived.OpenShut
import Derived.ShutString
import Derived.ChangeOld
import Derived.Below
import Derived.SizedLaws
namespace Go.Proofs.Ytcpdbbabbnbghaa.merkleProves
open Go Go.ChangeShapes Go.WideShapes Go.ChangeAt Go.RowKit
open Go.ChangeMaps (open_string shut_string)
set_option linter.unusedVariables false
theorem own : ownKnob Try.prog.godebug = none := by kernel_rfl
theorem laidOut : laidOutB Try.prog = true := by kernel_rfl
set_option maxRecDepth 100000 in
theorem lifted (os : Os) (started : os.Started) (H : Type) (enc : TypeId × Value → H) :
    ReturnsInHanded {} Try.checked os 6 .any (Rows.merkleProvesSpec.pre6 enc Try.prog Try.f6 Rows.merkleProvesRow.domain false) (Rows.merkleProvesSpec.post enc Try.prog Try.f6 false true false false) := by
  refine returnsInHanded_of_change_sized (C := Try.checked) own started (by kernel_rfl) Try.func6
    (ChangeSpec.witness6 (enc := enc) (C := Try.checked) false ⟨#[], #[.slice none 0 0], []⟩ 8 (by kernel_rfl) (by kernel_rfl) (by kernel_rfl) (by kernel_rfl)) ?_
  intro W base args ds gs before hval0 hW hcnd hsz0 _
  have hval : ∀ (j : Nat) t v, Try.f6.params[j]? = some t → args[j]? = some v → Value.okWide Try.prog W .any base t v := hval0
  have hW' := hW
  obtain ⟨p, q, hA0, hV, rfl, hfz, hnd⟩ := hW
  have hA : DataW.TrodAll enc Try.prog W 0 (fun _ => true) true Try.f6.params.toList args.toList ds p := hA0
  rw [Try.params6] at hA hval
  obtain ⟨v0, vs0, d0, ds0, p0, q0, hargs, rfl, rfl, h0, r0⟩ := trodAll_cons hA
  obtain ⟨rfl, rfl, rfl⟩ := trodAll_nil r0
  obtain rfl : args = #[v0] := by cases args; simp_all
  obtain ⟨rfl, rfl⟩ := trodVars_none hV
  have k0 := h0
  have lt0 : ∀ x ∈ p0, x.block < W.heap.size := by obtain ⟨m, hm⟩ := k0; exact DataW.trod_lt m _ _ _ hm
  obtain ⟨a0, len0, cap0, rfl⟩ := okWide_slice Try.underlying22 (hval 0 22 v0 rfl rfl)
  obtain ⟨fuel0, hf0⟩ := k0
  obtain ⟨x0, ox0, cx0⟩ := (Q.rd_slice Try.underlying22 (by kernel_rfl) (by decide) (Q.rd_slice Try.underlying33 (by kernel_rfl) (by decide) (Q.rd_u8 Try.underlying5))) H enc W 0 _ _ fuel0 _ _ hf0
  replace k0 : DataW.Trod enc Try.prog W 0 (fun _ => true) true 22 (.slice a0 len0 cap0) _ _ := ⟨fuel0, hf0⟩
  refine (Q.lawN (Q.law_MerkleProves x0 (by have h := ox0.1; simp only [maxLen] at h; omega)) W (vs := [.slice a0 len0 cap0]) rfl (fun i av h => ?_)).mono fun e W' ⟨he, bel⟩ => ?_
  · rcases i with _ | i
    · cases h; exact Q.arg_one cx0 rfl rfl
    · cases h
  subst he
  exact ⟨_, rfl, _, _, _, [], _, [], hW', trodAll_mk1 (shut_bool Try.underlying4 _), (trodAll_cons_mk (Below.trod laidOut (by kernel_rfl) (of_decide_eq_true (by kernel_rfl)) k0 bel lt0) trodAll_mk0), rfl, bel.frame _, fun h => by cases h⟩
theorem over : Rows.merkleProvesRow.holds Try.pinned (OpenSpec.ofChange Rows.merkleProvesSpec) :=
  OpenClaim.holds_of_wide 6 Try.f6 rfl rfl rfl rfl rfl rfl rfl ⟨rfl, rfl, rfl, rfl, rfl⟩ rfl rfl rfl rfl rfl (by kernel_rfl) Try.func6 (by kernel_rfl)
    (of_decide_eq_true (by kernel_rfl)) (by unfold Func.isWrapper; first | (rw [if_pos (by decide +kernel)]; kernel_rfl) | (rw [if_neg (by decide +kernel)]; exact ⟨rfl, rfl⟩))
    (fun os started H enc _ => lifted os started H enc)
theorem proved : Rows.MerkleProvesSaid := over
end Go.Proofs.Ytcpdbbabbnbghaa.merkleProves
namespace Go.Proofs.Ytcpdbbabbnbghaa
theorem merkleProves_holds : Rows.MerkleProvesSaid := merkleProves.proved
end Go.Proofs.Ytcpdbbabbnbghaa
#print axioms Go.Proofs.Ytcpdbbabbnbghaa.merkleProves_holds
