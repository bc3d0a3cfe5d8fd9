import Derived.Test.YtlabmehgcfgigaaC04n9
namespace Go.Proofs.Ytlabmehgcfgigaa.Q
open Go Go.RowKit
set_option linter.unusedVariables false
set_option linter.unusedSimpArgs false
set_option maxRecDepth 100000
set_option maxHeartbeats 4000000
-- quaestor/quaestorlaw04.awake
theorem law_awake : Holds Try.prog 17 ⟨[], [], dv (.bool true), []⟩ := by
  refine Holds.of Try.func17 rfl (N := 67) Try.ntmps17 rfl fun w0 B0 S0 U0 => ?_
  show T _ (mkBase 67 0 w0 S0 U0 B0) ⟨[], []⟩ _ _
  refine T.seq ?_
  refine xR [] (by kernel_rfl) (by kernel_rfl) ?_
  refine nT ?_
  refine T.seq ?_
  refine xR [hR 0 rfl rfl (r_call (ref04_NaN  ) Try.func49 rfl (by decide) [] [] (l := []) [] rfl 0 0 rfl rfl rfl rfl rfl rfl rfl rfl rfl trivial rfl (fun b hb => by cases hb) (.inl rfl) (lt_of rfl) trivial),
    hR 1 rfl rfl (r_call (ref04_Num 9221120237041090561 ) Try.func30 rfl (by decide) [] [] (l := [(.tmp 10, dv (.float .f64 9221120237041090561))]) [] rfl 0 0 rfl rfl rfl rfl rfl rfl rfl rfl rfl ⟨.inl ⟨rfl, rfl⟩, trivial⟩ rfl (fun b hb => by cases hb) (.inl rfl) (lt_of rfl) trivial)] (by kernel_rfl) (by kernel_rfl) ?_
  refine nT ?_
  refine T.seq ?_
  refine xR [hR 0 rfl rfl (r_call (ref04_Num 0 ) Try.func30 rfl (by decide) [] [] (l := [(.const (.float .f64 0), dv (.float .f64 0))]) [] rfl 0 0 rfl rfl rfl rfl rfl rfl rfl rfl rfl ⟨.inl ⟨rfl, rfl⟩, trivial⟩ rfl (fun b hb => by cases hb) (.inl rfl) (lt_of rfl) ⟨rfl, trivial⟩),
    hR 1 rfl rfl (r_call (law_negative  ) Try.func50 rfl (by decide) [] [] (l := []) [] rfl 0 0 rfl rfl rfl rfl rfl rfl rfl rfl rfl trivial rfl (fun b hb => by cases hb) (.inl rfl) (lt_of rfl) trivial)] (by kernel_rfl) (by kernel_rfl) ?_
  refine nT ?_
  refine T.seq ?_
  refine xR [hR 2 rfl rfl (r_call (value_Equal (numV 9221120237041090561) (numV 9221120237041090561) ) Try.func26 rfl (by decide) [] [] (l := [(.tmp 16, .tv (.agg [.d (.val (.int .i64 (numV 9221120237041090561).f_Kind)), .d (.val (.int .i64 (numV 9221120237041090561).f_Int)), .d (.val (.bool (numV 9221120237041090561).f_Bool)), .d (.val (strV (numV 9221120237041090561).f_Text)), .d (.val (.float .f64 (numV 9221120237041090561).f_Num))])), (.tmp 17, .tv (.agg [.d (.val (.int .i64 (numV 9221120237041090561).f_Kind)), .d (.val (.int .i64 (numV 9221120237041090561).f_Int)), .d (.val (.bool (numV 9221120237041090561).f_Bool)), .d (.val (strV (numV 9221120237041090561).f_Text)), .d (.val (.float .f64 (numV 9221120237041090561).f_Num))]))]) [] rfl 0 0 rfl rfl rfl rfl rfl rfl rfl rfl rfl ⟨⟨.inl ⟨rfl, rfl⟩, ⟨.inl ⟨rfl, rfl⟩, ⟨.inl ⟨rfl, rfl⟩, ⟨.inl ⟨rfl, rfl⟩, ⟨.inl ⟨rfl, rfl⟩, trivial⟩⟩⟩⟩⟩, ⟨⟨.inl ⟨rfl, rfl⟩, ⟨.inl ⟨rfl, rfl⟩, ⟨.inl ⟨rfl, rfl⟩, ⟨.inl ⟨rfl, rfl⟩, ⟨.inl ⟨rfl, rfl⟩, trivial⟩⟩⟩⟩⟩, trivial⟩⟩ rfl (fun b hb => by cases hb) (.inl rfl) (lt_of rfl) trivial)] (by kernel_rfl) (by kernel_rfl) ?_
  refine nT ?_
  refine T.seq ?_
  refine xR [hR 2 rfl rfl (r_call (value_Equal (api_Value.mk 4 0 false [] 9223372036854775808) (numV 0) ) Try.func26 rfl (by decide) [] [] (l := [(.tmp 22, .tv (.agg [.d (.val (.int .i64 4)), .d (.val (.int .i64 0)), .d (.val (.bool false)), .d (.val (strV [])), .d (.val (.float .f64 9223372036854775808))])), (.tmp 23, .tv (.agg [.d (.val (.int .i64 (numV 0).f_Kind)), .d (.val (.int .i64 (numV 0).f_Int)), .d (.val (.bool (numV 0).f_Bool)), .d (.val (strV (numV 0).f_Text)), .d (.val (.float .f64 (numV 0).f_Num))]))]) [] rfl 0 0 rfl rfl rfl rfl rfl rfl rfl rfl rfl ⟨⟨.inl ⟨rfl, rfl⟩, ⟨.inl ⟨rfl, rfl⟩, ⟨.inl ⟨rfl, rfl⟩, ⟨.inl ⟨rfl, rfl⟩, ⟨.inl ⟨rfl, rfl⟩, trivial⟩⟩⟩⟩⟩, ⟨⟨.inl ⟨rfl, rfl⟩, ⟨.inl ⟨rfl, rfl⟩, ⟨.inl ⟨rfl, rfl⟩, ⟨.inl ⟨rfl, rfl⟩, ⟨.inl ⟨rfl, rfl⟩, trivial⟩⟩⟩⟩⟩, trivial⟩⟩ rfl (fun b hb => by cases hb) (.inl rfl) (lt_of rfl) trivial)] (by kernel_rfl) (by kernel_rfl) ?_
  refine nT ?_
  refine T.seq ?_
  refine xR [hR 0 rfl rfl (r_call (ref04_Int 1 ) Try.func19 rfl (by decide) [] [] (l := [(.const (.int .i64 1), dv (.int .i64 1))]) [] rfl 0 0 rfl rfl rfl rfl rfl rfl rfl rfl rfl ⟨.inl ⟨rfl, rfl⟩, trivial⟩ rfl (fun b hb => by cases hb) (.inl rfl) (lt_of rfl) ⟨rfl, trivial⟩),
    hR 1 rfl rfl (r_call (ref04_Int 0 ) Try.func19 rfl (by decide) [] [] (l := [(.const (.int .i64 0), dv (.int .i64 0))]) [] rfl 0 0 rfl rfl rfl rfl rfl rfl rfl rfl rfl ⟨.inl ⟨rfl, rfl⟩, trivial⟩ rfl (fun b hb => by cases hb) (.inl rfl) (lt_of rfl) ⟨rfl, trivial⟩),
    hR 2 rfl rfl (r_call (value_ReckonI 7 (intV 1) (intV 0) (by (intro h9; exact absurd h9.2 (by decide))) (by decide) (by decide)) Try.func20 rfl (by decide) [] [] (l := [(.const (.int .i64 7), dv (.int .i64 7)), (.tmp 28, .tv (.agg [.d (.val (.int .i64 (intV 1).f_Kind)), .d (.val (.int .i64 (intV 1).f_Int)), .d (.val (.bool (intV 1).f_Bool)), .d (.val (strV (intV 1).f_Text)), .d (.val (.float .f64 (intV 1).f_Num))])), (.tmp 29, .tv (.agg [.d (.val (.int .i64 (intV 0).f_Kind)), .d (.val (.int .i64 (intV 0).f_Int)), .d (.val (.bool (intV 0).f_Bool)), .d (.val (strV (intV 0).f_Text)), .d (.val (.float .f64 (intV 0).f_Num))]))]) [] rfl 0 0 rfl rfl rfl rfl rfl rfl rfl rfl rfl ⟨.inl ⟨rfl, rfl⟩, ⟨⟨.inl ⟨rfl, rfl⟩, ⟨.inl ⟨rfl, rfl⟩, ⟨.inl ⟨rfl, rfl⟩, ⟨.inl ⟨rfl, rfl⟩, ⟨.inl ⟨rfl, rfl⟩, trivial⟩⟩⟩⟩⟩, ⟨⟨.inl ⟨rfl, rfl⟩, ⟨.inl ⟨rfl, rfl⟩, ⟨.inl ⟨rfl, rfl⟩, ⟨.inl ⟨rfl, rfl⟩, ⟨.inl ⟨rfl, rfl⟩, trivial⟩⟩⟩⟩⟩, trivial⟩⟩⟩ rfl (fun b hb => by cases hb) (.inl rfl) (lt_of rfl) ⟨rfl, trivial⟩)] (by kernel_rfl) (by kernel_rfl) ?_
  refine nT ?_
  refine T.seq ?_
  by_cases hq1 : (eqV (numV 9221120237041090561) (numV 9221120237041090561)) = true
  · exact absurd hq1 (by decide +kernel)
  · replace hq1 := Bool.eq_false_iff.2 hq1
    by_cases hq2 : (eqE (numV 9221120237041090561) (numV 9221120237041090561)) = 0
    · by_cases hq3 : sameV (numV 9221120237041090561) (numV 9221120237041090561)
      · by_cases hq4 : (eqV (api_Value.mk 4 0 false [] 9223372036854775808) (numV 0)) = true
        · by_cases hq5 : (eqE (api_Value.mk 4 0 false [] 9223372036854775808) (numV 0)) = 0
          · by_cases hq6 : sameV (api_Value.mk 4 0 false [] 9223372036854775808) (numV 0)
            · exact absurd hq6 (by decide +kernel)
            · by_cases hq7 : (orderV (api_Value.mk 4 0 false [] 9223372036854775808) (numV 0)) = (-1)
              · refine xR [hY 3 (congrArg Bool.not hq1),
                  hY 4 (congrArg Bool.not hq1),
                  hP 5 (congrArg Bool.not hq1),
                  hY 7 (decide_eq_true hq2),
                  hY 8 (decide_eq_true hq2),
                  hS 9 (oY rfl rfl rfl rfl (lt_of rfl) (decide_eq_true hq2) (r_call (value_Same (numV 9221120237041090561) (numV 9221120237041090561) ) Try.func15 rfl (by decide) [] [] (l := [(.tmp 40, .tv (.agg [.d (.val (.int .i64 (numV 9221120237041090561).f_Kind)), .d (.val (.int .i64 (numV 9221120237041090561).f_Int)), .d (.val (.bool (numV 9221120237041090561).f_Bool)), .d (.val (strV (numV 9221120237041090561).f_Text)), .d (.val (.float .f64 (numV 9221120237041090561).f_Num))])), (.tmp 41, .tv (.agg [.d (.val (.int .i64 (numV 9221120237041090561).f_Kind)), .d (.val (.int .i64 (numV 9221120237041090561).f_Int)), .d (.val (.bool (numV 9221120237041090561).f_Bool)), .d (.val (strV (numV 9221120237041090561).f_Text)), .d (.val (.float .f64 (numV 9221120237041090561).f_Num))]))]) [] rfl 0 0 rfl rfl rfl rfl rfl rfl rfl rfl rfl ⟨⟨.inl ⟨rfl, rfl⟩, ⟨.inl ⟨rfl, rfl⟩, ⟨.inl ⟨rfl, rfl⟩, ⟨.inl ⟨rfl, rfl⟩, ⟨.inl ⟨rfl, rfl⟩, trivial⟩⟩⟩⟩⟩, ⟨⟨.inl ⟨rfl, rfl⟩, ⟨.inl ⟨rfl, rfl⟩, ⟨.inl ⟨rfl, rfl⟩, ⟨.inl ⟨rfl, rfl⟩, ⟨.inl ⟨rfl, rfl⟩, trivial⟩⟩⟩⟩⟩, trivial⟩⟩ rfl (fun b hb => by cases hb) (.inl rfl) (lt_of rfl) trivial)),
                  hP 10 (decide_eq_true hq2),
                  hY 12 (decide_eq_true hq3),
                  hP 13 (decide_eq_true hq3),
                  hY 15 hq4,
                  hY 16 hq4,
                  hP 17 hq4,
                  hY 19 (decide_eq_true hq5),
                  hY 20 (decide_eq_true hq5),
                  hS 21 (oY rfl rfl rfl rfl (lt_of rfl) (decide_eq_true hq5) (r_call (value_Same (api_Value.mk 4 0 false [] 9223372036854775808) (numV 0) ) Try.func15 rfl (by decide) [] [] (l := [(.tmp 52, .tv (.agg [.d (.val (.int .i64 4)), .d (.val (.int .i64 0)), .d (.val (.bool false)), .d (.val (strV [])), .d (.val (.float .f64 9223372036854775808))])), (.tmp 53, .tv (.agg [.d (.val (.int .i64 (numV 0).f_Kind)), .d (.val (.int .i64 (numV 0).f_Int)), .d (.val (.bool (numV 0).f_Bool)), .d (.val (strV (numV 0).f_Text)), .d (.val (.float .f64 (numV 0).f_Num))]))]) [] rfl 0 0 rfl rfl rfl rfl rfl rfl rfl rfl rfl ⟨⟨.inl ⟨rfl, rfl⟩, ⟨.inl ⟨rfl, rfl⟩, ⟨.inl ⟨rfl, rfl⟩, ⟨.inl ⟨rfl, rfl⟩, ⟨.inl ⟨rfl, rfl⟩, trivial⟩⟩⟩⟩⟩, ⟨⟨.inl ⟨rfl, rfl⟩, ⟨.inl ⟨rfl, rfl⟩, ⟨.inl ⟨rfl, rfl⟩, ⟨.inl ⟨rfl, rfl⟩, ⟨.inl ⟨rfl, rfl⟩, trivial⟩⟩⟩⟩⟩, trivial⟩⟩ rfl (fun b hb => by cases hb) (.inl rfl) (lt_of rfl) trivial)),
                  hY 22 (decide_eq_true hq5),
                  hP 23 (decide_eq_true hq5),
                  hY 25 (congrArg Bool.not (decide_eq_false hq6)),
                  hY 26 (congrArg Bool.not (decide_eq_false hq6)),
                  hS 27 (oY rfl rfl rfl rfl (lt_of rfl) (congrArg Bool.not (decide_eq_false hq6)) (r_call (value_Order (api_Value.mk 4 0 false [] 9223372036854775808) (numV 0) (by (simp [maxLen, -List.getD_eq_getElem?_getD] <;> omega)) (by decide)) Try.func13 rfl (by decide) [] [] (l := [(.tmp 58, .tv (.agg [.d (.val (.int .i64 4)), .d (.val (.int .i64 0)), .d (.val (.bool false)), .d (.val (strV [])), .d (.val (.float .f64 9223372036854775808))])), (.tmp 59, .tv (.agg [.d (.val (.int .i64 (numV 0).f_Kind)), .d (.val (.int .i64 (numV 0).f_Int)), .d (.val (.bool (numV 0).f_Bool)), .d (.val (strV (numV 0).f_Text)), .d (.val (.float .f64 (numV 0).f_Num))]))]) [] rfl 0 0 rfl rfl rfl rfl rfl rfl rfl rfl rfl ⟨⟨.inl ⟨rfl, rfl⟩, ⟨.inl ⟨rfl, rfl⟩, ⟨.inl ⟨rfl, rfl⟩, ⟨.inl ⟨rfl, rfl⟩, ⟨.inl ⟨rfl, rfl⟩, trivial⟩⟩⟩⟩⟩, ⟨⟨.inl ⟨rfl, rfl⟩, ⟨.inl ⟨rfl, rfl⟩, ⟨.inl ⟨rfl, rfl⟩, ⟨.inl ⟨rfl, rfl⟩, ⟨.inl ⟨rfl, rfl⟩, trivial⟩⟩⟩⟩⟩, trivial⟩⟩ rfl (fun b hb => by cases hb) (.inl rfl) (lt_of rfl) trivial)),
                  hY 28 (congrArg Bool.not (decide_eq_false hq6)),
                  hP 29 (congrArg Bool.not (decide_eq_false hq6)),
                  hY 31 (decide_eq_true hq7),
                  hY 32 (decide_eq_true hq7),
                  hP 33 (decide_eq_true hq7)] (by kernel_rfl) (by kernel_rfl) ?_
                refine nT ?_
                refine T.ret ?_
                exact tE (.inl rfl) [.t 0 (.one (.d (.val (.bool (decide ((reckE 7 (intV 1) (intV 0)) = 42))))))] ⟨⟨rfl, by kernel_rfl⟩, trivial⟩ [] (by have e1 : (true : Bool) = (decide ((reckE 7 (intV 1) (intV 0)) = 42)) := (by rfl); have hE := congrArg (fun (q1 : Bool) => (dv (.bool q1) : AV)) e1; exact hE) rfl rfl rfl rfl rfl trivial
              · exact absurd hq7 (by decide +kernel)
          · exact absurd hq5 (by decide +kernel)
        · replace hq4 := Bool.eq_false_iff.2 hq4
          exact absurd hq4 (by decide +kernel)
      · exact absurd hq3 (by decide +kernel)
    · exact absurd hq2 (by decide +kernel)
end Go.Proofs.Ytlabmehgcfgigaa.Q
