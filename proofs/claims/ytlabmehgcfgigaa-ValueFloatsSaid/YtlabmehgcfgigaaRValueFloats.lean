import Derived.Test.YtlabmehgcfgigaaRows
import Derived.Test.YtlabmehgcfgigaaC04n34
import Derived.Test.YtlabmehgcfgigaaQc
import Derived.WalkKit
import Derived.ProofKit
import Derived.OpenShut
import Derived.ShutString
import Derived.ChangeOld
import Derived.Below
import Derived.SizedLaws
import Derived.Laws.Cover2
namespace Go.Proofs.Ytlabmehgcfgigaa.valueFloats
open Go Go.ChangeShapes Go.WideShapes Go.ChangeAt Go.RowKit
open Go.ChangeMaps (open_string shut_string)
set_option linter.unusedVariables false
theorem own : ownKnob Try.prog.godebug = none := by kernel_rfl
theorem laidOut : laidOutB Try.prog = true := by kernel_rfl
set_option maxRecDepth 100000 in
theorem lifted (os : Os) (started : os.Started) (H : Type) (enc : TypeId × Value → H) :
    ReturnsInHanded {} Try.checked os 8 .any (Rows.valueFloatsSpec.pre6 enc Try.prog Try.f8 Rows.valueFloatsRow.domain false) (Rows.valueFloatsSpec.post enc Try.prog Try.f8 false true false false) := by
  refine returnsInHanded_of_change_sized (C := Try.checked) own started (by kernel_rfl) Try.func8
    (ChangeSpec.witness6 (enc := enc) (C := Try.checked) false ⟨#[], #[.float .f64 0, .float .f64 0], []⟩ 8 (by kernel_rfl) (by kernel_rfl) (by kernel_rfl) (by kernel_rfl)) ?_
  intro W base args ds gs before hval0 hW hcnd hsz0 _
  have hval : ∀ (j : Nat) t v, Try.f8.params[j]? = some t → args[j]? = some v → Value.okWide Try.prog W .any base t v := hval0
  have hW' := hW
  obtain ⟨p, q, hA0, hV, rfl, hfz, hnd⟩ := hW
  have hA : DataW.TrodAll enc Try.prog W 0 (fun _ => true) true Try.f8.params.toList args.toList ds p := hA0
  rw [Try.params8] at hA hval
  obtain ⟨v0, vs0, d0, ds0, p0, q0, hargs, rfl, rfl, h0, r0⟩ := trodAll_cons hA
  obtain ⟨v1, vs1, d1, ds1, p1, q1, rfl, rfl, rfl, h1, r1⟩ := trodAll_cons r0
  obtain ⟨rfl, rfl, rfl⟩ := trodAll_nil r1
  obtain rfl : args = #[v0, v1] := by cases args; simp_all
  obtain ⟨rfl, rfl⟩ := trodVars_none hV
  have k0 := h0
  have lt0 : ∀ x ∈ p0, x.block < W.heap.size := by obtain ⟨m, hm⟩ := k0; exact DataW.trod_lt m _ _ _ hm
  obtain ⟨n0, rfl, rfl, rfl, _⟩ := open_float Try.underlying22 (hval 0 22 v0 rfl rfl) h0
  obtain ⟨fuel0, hf0⟩ := k0
  obtain ⟨x0, ox0, cx0⟩ := (Q.rd_f64 Try.underlying22) H enc W 0 _ _ fuel0 _ _ hf0
  replace k0 : DataW.Trod enc Try.prog W 0 (fun _ => true) true 22 (.float .f64 n0) _ _ := ⟨fuel0, hf0⟩
  have k1 := h1
  have lt1 : ∀ x ∈ p1, x.block < W.heap.size := by obtain ⟨m, hm⟩ := k1; exact DataW.trod_lt m _ _ _ hm
  obtain ⟨n1, rfl, rfl, rfl, _⟩ := open_float Try.underlying22 (hval 1 22 v1 rfl rfl) h1
  obtain ⟨fuel1, hf1⟩ := k1
  obtain ⟨x1, ox1, cx1⟩ := (Q.rd_f64 Try.underlying22) H enc W 0 _ _ fuel1 _ _ hf1
  replace k1 : DataW.Trod enc Try.prog W 0 (fun _ => true) true 22 (.float .f64 n1) _ _ := ⟨fuel1, hf1⟩
  refine (Q.lawN (Q.law_ValueFloats x0 x1 ox0 ox1) W (vs := [.float .f64 n0, .float .f64 n1]) rfl (fun i av h => ?_)).mono fun e W' ⟨he, bel⟩ => ?_
  · rcases i with _ | _ | i
    · cases h; exact Q.arg_one cx0 rfl rfl
    · cases h; exact Q.arg_one cx1 rfl rfl
    · cases h
  subst he
  exact ⟨_, rfl, _, _, _, [], _, [], hW', trodAll_mk1 (shut_bool Try.underlying4 _), (trodAll_cons_mk (Below.trod laidOut (by kernel_rfl) (of_decide_eq_true (by kernel_rfl)) k0 bel lt0) (trodAll_cons_mk (Below.trod laidOut (by kernel_rfl) (of_decide_eq_true (by kernel_rfl)) k1 bel lt1) trodAll_mk0)), rfl, bel.frame _, fun h => by cases h⟩
theorem over : Rows.valueFloatsRow.holds Try.pinned (OpenSpec.ofChange Rows.valueFloatsSpec) :=
  OpenClaim.holds_of_wide 8 Try.f8 rfl rfl rfl rfl rfl rfl rfl ⟨rfl, rfl, rfl, rfl, rfl⟩ rfl rfl rfl rfl rfl (by kernel_rfl) Try.func8 (by kernel_rfl)
    (of_decide_eq_true (by kernel_rfl)) (by unfold Func.isWrapper; first | (rw [if_pos (by decide +kernel)]; kernel_rfl) | (rw [if_neg (by decide +kernel)]; exact ⟨rfl, rfl⟩))
    (fun os started H enc _ => lifted os started H enc)
theorem proved : Rows.ValueFloatsSaid := over
end Go.Proofs.Ytlabmehgcfgigaa.valueFloats
namespace Go.Proofs.Ytlabmehgcfgigaa
theorem valueFloats_holds : Rows.ValueFloatsSaid := valueFloats.proved
end Go.Proofs.Ytlabmehgcfgigaa
#print axioms Go.Proofs.Ytlabmehgcfgigaa.valueFloats_holds
