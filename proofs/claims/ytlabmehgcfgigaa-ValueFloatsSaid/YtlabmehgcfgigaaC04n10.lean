import Derived.Test.YtlabmehgcfgigaaC04n9
namespace Go.Proofs.Ytlabmehgcfgigaa.Q
open Go Go.RowKit
set_option linter.unusedVariables false
set_option linter.unusedSimpArgs false
set_option maxRecDepth 100000
set_option maxHeartbeats 4000000
abbrev Z23 := (numV 9221120237041090561)
abbrev Z24 : AV := .tv (.agg [dI Z23.f_Kind, dI Z23.f_Int, dB Z23.f_Bool, dS Z23.f_Text, .d (.val (.float .f64 Z23.f_Num))])
abbrev Z25 : AV := .tv (.agg [dI 4, dI 0, dB false, dS [], .d (.val (.float .f64 9223372036854775808))])
abbrev Z26 : AV := .tv (.agg [dI (numV 0).f_Kind, dI (numV 0).f_Int, dB (numV 0).f_Bool, dS (numV 0).f_Text, .d (.val (.float .f64 (numV 0).f_Num))])
theorem law_awake : Holds Try.prog 17 ⟨[], [], vB true, []⟩ := by
 refine Holds.of Try.func17 rfl (N := 67) Try.ntmps17 rfl fun w0 B0 S0 U0 => ?_
 show T _ (mkBase 67 0 w0 S0 U0 B0) ⟨[], []⟩ _ _
 refine sR [] ?_
 refine sR [hR 0 rfl rfl (rCa (ref04_NaN  ) Try.func49 [] [] 0 0),
   hR 1 rfl rfl (rCa (ref04_Num 9221120237041090561 ) Try.func30 [] [(.tmp 10, dv (.float .f64 9221120237041090561))] 0 0)] ?_
 refine sR [hR 0 rfl rfl (rCa (ref04_Num 0 ) Try.func30 [] [(.const (.float .f64 0), dv (.float .f64 0))] 0 0),
   hR 1 rfl rfl (rCa (law_negative  ) Try.func50 [] [] 0 0)] ?_
 refine sR [hR 2 rfl rfl (rCa (value_Equal (numV 9221120237041090561) (numV 9221120237041090561) ) Try.func26 [] [(.tmp 16, Z24), (.tmp 17, Z24)] 0 0)] ?_
 refine sR [hR 2 rfl rfl (rCa (value_Equal (api_Value.mk 4 0 false [] 9223372036854775808) (numV 0) ) Try.func26 [] [(.tmp 22, Z25), (.tmp 23, Z26)] 0 0)] ?_
 refine sR [hR 0 rfl rfl (rCa (ref04_Int 1 ) Try.func19 [] [(.const (.int .i64 1), vI 1)] 0 0),
   hR 1 rfl rfl (rCa (ref04_Int 0 ) Try.func19 [] [(.const (.int .i64 0), vI 0)] 0 0),
   hR 2 rfl rfl (rCa (value_ReckonI 7 (intV 1) (intV 0) (by (intro h9; exact absurd h9.2 (by decide))) (by decide) (by decide)) Try.func20 [] [(.const (.int .i64 7), vI 7), (.tmp 28, .tv (.agg [dI (intV 1).f_Kind, dI (intV 1).f_Int, dB (intV 1).f_Bool, dS (intV 1).f_Text, .d (.val (.float .f64 (intV 1).f_Num))])), (.tmp 29, .tv (.agg [dI (intV 0).f_Kind, dI (intV 0).f_Int, dB (intV 0).f_Bool, dS (intV 0).f_Text, .d (.val (.float .f64 (intV 0).f_Num))]))] 0 0)] ?_
 by_cases hq1 : (eqV (numV 9221120237041090561) (numV 9221120237041090561)) = true
 ·exact absurd hq1 (by decide +kernel)
 replace hq1 := Bool.eq_false_iff.2 hq1
 by_cases hq2 : (eqE (numV 9221120237041090561) (numV 9221120237041090561)) = 0
 ·by_cases hq3 : sameV (numV 9221120237041090561) (numV 9221120237041090561)
  ·by_cases hq4 : (eqV (api_Value.mk 4 0 false [] 9223372036854775808) (numV 0)) = true
   ·by_cases hq5 : (eqE (api_Value.mk 4 0 false [] 9223372036854775808) (numV 0)) = 0
    ·by_cases hq6 : sameV (api_Value.mk 4 0 false [] 9223372036854775808) (numV 0)
     ·exact absurd hq6 (by decide +kernel)
     by_cases hq7 : (orderV (api_Value.mk 4 0 false [] 9223372036854775808) (numV 0)) = (-1)
     ·refine sR [hY 3 (cn hq1),
        hY 4 (cn hq1),
        hP 5 (cn hq1),
        hY 7 (dT hq2),
        hY 8 (dT hq2),
        hS 9 (oY rfl rfl rfl rfl (lt_of rfl) (dT hq2) (rCa (value_Same (numV 9221120237041090561) (numV 9221120237041090561) ) Try.func15 [] [(.tmp 40, Z24), (.tmp 41, Z24)] 0 0)),
        hP 10 (dT hq2),
        hY 12 (dT hq3),
        hP 13 (dT hq3),
        hY 15 hq4,
        hY 16 hq4,
        hP 17 hq4,
        hY 19 (dT hq5),
        hY 20 (dT hq5),
        hS 21 (oY rfl rfl rfl rfl (lt_of rfl) (dT hq5) (rCa (value_Same (api_Value.mk 4 0 false [] 9223372036854775808) (numV 0) ) Try.func15 [] [(.tmp 52, Z25), (.tmp 53, Z26)] 0 0)),
        hY 22 (dT hq5),
        hP 23 (dT hq5),
        hY 25 (cn (dF hq6)),
        hY 26 (cn (dF hq6)),
        hS 27 (oY rfl rfl rfl rfl (lt_of rfl) (cn (dF hq6)) (rCa (value_Order (api_Value.mk 4 0 false [] 9223372036854775808) (numV 0) (by (simp [maxLen, -List.getD_eq_getElem?_getD] <;> omega)) (by decide)) Try.func13 [] [(.tmp 58, Z25), (.tmp 59, Z26)] 0 0)),
        hY 28 (cn (dF hq6)),
        hP 29 (cn (dF hq6)),
        hY 31 (dT hq7),
        hY 32 (dT hq7),
        hP 33 (dT hq7)] ?_
      refine T.ret ?_
      exact eRt 0 (.one (dB (decide ((reckE 7 (intV 1) (intV 0)) = 42)))) [] (cB (by rfl)) trivial
     exact absurd hq7 (by decide +kernel)
    exact absurd hq5 (by decide +kernel)
   replace hq4 := Bool.eq_false_iff.2 hq4
   exact absurd hq4 (by decide +kernel)
  exact absurd hq3 (by decide +kernel)
 exact absurd hq2 (by decide +kernel)
end Go.Proofs.Ytlabmehgcfgigaa.Q
