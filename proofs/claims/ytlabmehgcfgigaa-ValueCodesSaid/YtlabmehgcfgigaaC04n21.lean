import Derived.Test.YtlabmehgcfgigaaC04n20
namespace Go.Proofs.Ytlabmehgcfgigaa.Q
open Go Go.RowKit
set_option linter.unusedVariables false
set_option linter.unusedSimpArgs false
set_option maxRecDepth 100000
set_option maxHeartbeats 4000000
-- quaestor/quaestorref04.Truth
theorem ref04_Truth (x : Bool) : Holds Try.prog 68 ⟨[dv (.bool x)], [], .tv (.agg [.d (.val (.int .i64 2)), .d (.val (.int .i64 0)), .d (.val (.bool x)), .d (.val (strV [])), .d (.val (.float .f64 0))]), []⟩ := by
  refine Holds.of Try.func68 rfl (N := 5) Try.ntmps68 rfl fun w0 B0 S0 U0 => ?_
  show T _ (mkBase 5 0 w0 S0 U0 B0) ⟨[dv (.bool x)], []⟩ _ _
  refine T.seq ?_
  refine xR [] (by kernel_rfl) (by kernel_rfl) ?_
  refine nT ?_
  refine T.seq ?_
  refine xR [] (by kernel_rfl) (by kernel_rfl) ?_
  refine nT ?_
  refine T.ret ?_
  exact tE (.inl rfl) [.c 2 0 24 0 24 [.d (.val (.int .i64 2)), .d (.val (.int .i64 0)), .d (.val (.bool x)), .d (.val (strV [])), .d (.val (.float .f64 0))] (.agg [.d (.val (.int .i64 2)), .d (.val (.int .i64 0)), .d (.val (.bool x)), .d (.val (strV [])), .d (.val (.float .f64 0))])] ⟨⟨rfl, rfl, by kernel_rfl, by kernel_rfl, .inl ⟨5, wide_24, rfl, Nat.le_of_ble_eq_true rfl⟩⟩, trivial⟩ [] rfl rfl rfl rfl rfl rfl trivial
end Go.Proofs.Ytlabmehgcfgigaa.Q
