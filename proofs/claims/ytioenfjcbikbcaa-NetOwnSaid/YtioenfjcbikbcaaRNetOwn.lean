/- The law NetOwn holds: whatever the input, the call returns true and the input reads as it did. No conditions. -/
import Derived.Test.YtioenfjcbikbcaaRows
import Derived.Test.YtioenfjcbikbcaaC20n6
import Derived.Test.YtioenfjcbikbcaaQc
import Derived.WalkKit
import Derived.ProofKit
import Derived.OpenShut
import Derived.ShutString
import Derived.ChangeOld
import Derived.Below
import Derived.SizedLaws
namespace Go.Proofs.Ytioenfjcbikbcaa.netOwn
open Go Go.ChangeShapes Go.WideShapes Go.ChangeAt Go.RowKit
open Go.ChangeMaps (open_string shut_string)
set_option linter.unusedVariables false
theorem own : ownKnob Try.prog.godebug = none := by kernel_rfl
theorem laidOut : laidOutB Try.prog = true := by kernel_rfl
set_option maxRecDepth 100000 in
theorem lifted (os : Os) (started : os.Started) (H : Type) (enc : TypeId × Value → H) :
    ReturnsInHanded {} Try.checked os 7 .any (Rows.netOwnSpec.pre6 enc Try.prog Try.f7 Rows.netOwnRow.domain false) (Rows.netOwnSpec.post enc Try.prog Try.f7 false true false false) := by
  refine returnsInHanded_of_change_sized (C := Try.checked) own started (by kernel_rfl) Try.func7
    (ChangeSpec.witness6 (enc := enc) (C := Try.checked) false ⟨#[], #[.slice none 0 0, .agg #[.int .i64 0, .slice none 0 0]], []⟩ 8 (by kernel_rfl) (by kernel_rfl) (by kernel_rfl) (by kernel_rfl)) ?_
  intro W base args ds gs before hval0 hW hcnd hsz0 _
  have hval : ∀ (j : Nat) t v, Try.f7.params[j]? = some t → args[j]? = some v → Value.okWide Try.prog W .any base t v := hval0
  have hW' := hW
  obtain ⟨p, q, hA0, hV, rfl, hfz, hnd⟩ := hW
  have hA : DataW.TrodAll enc Try.prog W 0 (fun _ => true) true Try.f7.params.toList args.toList ds p := hA0
  rw [Try.params7] at hA hval
  obtain ⟨v0, vs0, d0, ds0, p0, q0, hargs, rfl, rfl, h0, r0⟩ := trodAll_cons hA
  obtain ⟨v1, vs1, d1, ds1, p1, q1, rfl, rfl, rfl, h1, r1⟩ := trodAll_cons r0
  obtain ⟨rfl, rfl, rfl⟩ := trodAll_nil r1
  obtain rfl : args = #[v0, v1] := by cases args; simp_all
  obtain ⟨rfl, rfl⟩ := trodVars_none hV
  have k0 := h0
  have lt0 : ∀ x ∈ p0, x.block < W.heap.size := by obtain ⟨m, hm⟩ := k0; exact DataW.trod_lt m _ _ _ hm
  obtain ⟨a0, len0, cap0, rfl⟩ := okWide_slice Try.underlying22 (hval 0 22 v0 rfl rfl)
  obtain ⟨fuel0, hf0⟩ := k0
  obtain ⟨x0, ox0, cx0⟩ := (Q.rd_slice Try.underlying22 (by kernel_rfl) (by decide) Q.rd_quaestorlaw20_Act) H enc W 0 _ _ fuel0 _ _ hf0
  replace k0 : DataW.Trod enc Try.prog W 0 (fun _ => true) true 22 (.slice a0 len0 cap0) _ _ := ⟨fuel0, hf0⟩
  have k1 := h1
  have lt1 : ∀ x ∈ p1, x.block < W.heap.size := by obtain ⟨m, hm⟩ := k1; exact DataW.trod_lt m _ _ _ hm
  obtain ⟨c1, rfl, _⟩ : ∃ cs, v1 = .agg cs ∧ True := by have z := hval 1 29 v1 rfl rfl; unfold Value.okWide at z; rw [Try.underlying29] at z; obtain ⟨cs, e, _⟩ := z; exact ⟨cs, e, trivial⟩
  obtain ⟨fuel1, hf1⟩ := k1
  obtain ⟨x1, ox1, cx1⟩ := Q.rd_api_Envelope H enc W 0 _ _ fuel1 _ _ hf1
  replace k1 : DataW.Trod enc Try.prog W 0 (fun _ => true) true 29 (.agg c1) _ _ := ⟨fuel1, hf1⟩
  refine (Q.lawN (Q.law_NetOwn x0 x1 (by have h := ox0.1; simp only [maxLen] at h; omega)) W (vs := [.slice a0 len0 cap0, .agg c1]) rfl (fun i av h => ?_)).mono fun e W' ⟨he, bel⟩ => ?_
  · rcases i with _ | _ | i
    · cases h; exact Q.arg_one cx0 rfl rfl
    · cases h; exact Q.arg_agg cx1 rfl
    · cases h
  subst he
  exact ⟨_, rfl, _, _, _, [], _, [], hW', trodAll_mk1 (shut_bool Try.underlying4 _), (trodAll_cons_mk (Below.trod laidOut (by kernel_rfl) (of_decide_eq_true (by kernel_rfl)) k0 bel lt0) (trodAll_cons_mk (Below.trod laidOut (by kernel_rfl) (of_decide_eq_true (by kernel_rfl)) k1 bel lt1) trodAll_mk0)), rfl, bel.frame _, fun h => by cases h⟩
theorem over : Rows.netOwnRow.holds Try.pinned (OpenSpec.ofChange Rows.netOwnSpec) :=
  OpenClaim.holds_of_wide 7 Try.f7 rfl rfl rfl rfl rfl rfl rfl ⟨rfl, rfl, rfl, rfl, rfl⟩ rfl rfl rfl rfl rfl (by kernel_rfl) Try.func7 (by kernel_rfl)
    (of_decide_eq_true (by kernel_rfl)) (by unfold Func.isWrapper; first | (rw [if_pos (by decide +kernel)]; kernel_rfl) | (rw [if_neg (by decide +kernel)]; exact ⟨rfl, rfl⟩))
    (fun os started H enc _ => lifted os started H enc)
theorem proved : Rows.NetOwnSaid := over
end Go.Proofs.Ytioenfjcbikbcaa.netOwn
namespace Go.Proofs.Ytioenfjcbikbcaa
theorem netOwn_holds : Rows.NetOwnSaid := netOwn.proved
end Go.Proofs.Ytioenfjcbikbcaa
#print axioms Go.Proofs.Ytioenfjcbikbcaa.netOwn_holds
