import Derived.Test.YtlabmehgcfgigaaC04n13
namespace Go.Proofs.Ytlabmehgcfgigaa.Q
open Go Go.RowKit
set_option linter.unusedVariables false
set_option linter.unusedSimpArgs false
set_option maxRecDepth 100000
set_option maxHeartbeats 4000000
-- quaestor/quaestorlaw04.ValueInts
theorem law_ValueInts (x : Int) (y : Int) (hx : inR x) (hy : inR y) : Holds Try.prog 5 ⟨[dv (.int .i64 x), dv (.int .i64 y)], [], dv (.bool true), []⟩ := by
  refine Holds.of Try.func5 rfl (N := 138) Try.ntmps5 rfl fun w0 B0 S0 U0 => ?_
  show T _ (mkBase 138 0 w0 S0 U0 B0) ⟨[dv (.int .i64 x), dv (.int .i64 y)], []⟩ _ _
  have hx9 := intV_range hx
  have hy9 := intV_range hy
  refine T.seq ?_
  refine xR [] (by kernel_rfl) (by kernel_rfl) ?_
  refine nT ?_
  refine T.seq ?_
  refine xR [hR 1 rfl rfl (r_call (ref04_Int x ) Try.func19 rfl (by decide) [] [] (l := [(.tmp 19, dv (.int .i64 x))]) [] rfl 0 0 rfl rfl rfl rfl rfl rfl rfl rfl rfl ⟨.inl ⟨rfl, rfl⟩, trivial⟩ rfl (fun b hb => by cases hb) (.inl rfl) (lt_of rfl) trivial),
    hR 3 rfl rfl (r_call (ref04_Int y ) Try.func19 rfl (by decide) [] [] (l := [(.tmp 21, dv (.int .i64 y))]) [] rfl 0 0 rfl rfl rfl rfl rfl rfl rfl rfl rfl ⟨.inl ⟨rfl, rfl⟩, trivial⟩ rfl (fun b hb => by cases hb) (.inl rfl) (lt_of rfl) trivial)] (by kernel_rfl) (by kernel_rfl) ?_
  refine nT ?_
  refine T.seq ?_
  refine xR [hR 2 rfl rfl (r_call (value_ReckonI 4 (intV x) (intV y) (by exact intV_kind _ _) (by assumption) (by assumption)) Try.func20 rfl (by decide) [] [] (l := [(.const (.int .i64 4), dv (.int .i64 4)), (.tmp 24, .tv (.agg [.d (.val (.int .i64 (intV x).f_Kind)), .d (.val (.int .i64 (intV x).f_Int)), .d (.val (.bool (intV x).f_Bool)), .d (.val (strV (intV x).f_Text)), .d (.val (.float .f64 (intV x).f_Num))])), (.tmp 25, .tv (.agg [.d (.val (.int .i64 (intV y).f_Kind)), .d (.val (.int .i64 (intV y).f_Int)), .d (.val (.bool (intV y).f_Bool)), .d (.val (strV (intV y).f_Text)), .d (.val (.float .f64 (intV y).f_Num))]))]) [] rfl 0 0 rfl rfl rfl rfl rfl rfl rfl rfl rfl ⟨.inl ⟨rfl, rfl⟩, ⟨⟨.inl ⟨rfl, rfl⟩, ⟨.inl ⟨rfl, rfl⟩, ⟨.inl ⟨rfl, rfl⟩, ⟨.inl ⟨rfl, rfl⟩, ⟨.inl ⟨rfl, rfl⟩, trivial⟩⟩⟩⟩⟩, ⟨⟨.inl ⟨rfl, rfl⟩, ⟨.inl ⟨rfl, rfl⟩, ⟨.inl ⟨rfl, rfl⟩, ⟨.inl ⟨rfl, rfl⟩, ⟨.inl ⟨rfl, rfl⟩, trivial⟩⟩⟩⟩⟩, trivial⟩⟩⟩ rfl (fun b hb => by cases hb) (.inl rfl) (lt_of rfl) ⟨rfl, trivial⟩)] (by kernel_rfl) (by kernel_rfl) ?_
  refine nT ?_
  refine T.seq ?_
  refine T.seq ?_
  refine xR [] (by kernel_rfl) (by kernel_rfl) ?_
  refine nT ?_
  by_cases hq1 : (reckE 4 (intV x) (intV y)) = 0
  · have va := vi_add hx hq1
    refine T.condT (by kernel_rfl) (decide_eq_true hq1) ?_
    refine T.seq ?_
    refine xR [hR 2 rfl rfl (r_call (value_ReckonI 5 (reckV 4 (intV x) (intV y)) (intV y) (by exact reckV_kind _ _ _ _) (by exact reckV_range (by assumption) (by assumption)) (by assumption)) Try.func20 rfl (by decide) [] [] (l := [(.const (.int .i64 5), dv (.int .i64 5)), (.tmp 32, .tv (.agg [.d (.val (.int .i64 (reckV 4 (intV x) (intV y)).f_Kind)), .d (.val (.int .i64 (reckV 4 (intV x) (intV y)).f_Int)), .d (.val (.bool (reckV 4 (intV x) (intV y)).f_Bool)), .d (.val (strV (reckV 4 (intV x) (intV y)).f_Text)), .d (.val (.float .f64 (reckV 4 (intV x) (intV y)).f_Num))])), (.tmp 33, .tv (.agg [.d (.val (.int .i64 (intV y).f_Kind)), .d (.val (.int .i64 (intV y).f_Int)), .d (.val (.bool (intV y).f_Bool)), .d (.val (strV (intV y).f_Text)), .d (.val (.float .f64 (intV y).f_Num))]))]) [] rfl 0 0 rfl rfl rfl rfl rfl rfl rfl rfl rfl ⟨.inl ⟨rfl, rfl⟩, ⟨⟨.inl ⟨rfl, rfl⟩, ⟨.inl ⟨rfl, rfl⟩, ⟨.inl ⟨rfl, rfl⟩, ⟨.inl ⟨rfl, rfl⟩, ⟨.inl ⟨rfl, rfl⟩, trivial⟩⟩⟩⟩⟩, ⟨⟨.inl ⟨rfl, rfl⟩, ⟨.inl ⟨rfl, rfl⟩, ⟨.inl ⟨rfl, rfl⟩, ⟨.inl ⟨rfl, rfl⟩, ⟨.inl ⟨rfl, rfl⟩, trivial⟩⟩⟩⟩⟩, trivial⟩⟩⟩ rfl (fun b hb => by cases hb) (.inl rfl) (lt_of rfl) ⟨rfl, trivial⟩)] (by kernel_rfl) (by kernel_rfl) ?_
    refine nT ?_
    refine T.seq ?_
    by_cases hq2 : (reckE 5 (reckV 4 (intV x) (intV y)) (intV y)) ≠ 0
    · exact absurd va.1 hq2
    · by_cases hq3 : (reckV 5 (reckV 4 (intV x) (intV y)) (intV y)).f_Int ≠ x
      · exact absurd va.2.1 hq3
      · refine xR [hY 3 (decide_eq_false hq2),
          hY 4 (decide_eq_false hq2),
          hY 5 (decide_eq_false hq2),
          hY 6 (decide_eq_false hq2),
          hP 7 (decide_eq_false hq2),
          hY 9 (decide_eq_false hq3),
          hY 10 (decide_eq_false hq3),
          hY 11 (decide_eq_false hq3),
          hY 12 (decide_eq_false hq3),
          hY 13 (decide_eq_false hq3),
          hY 14 (decide_eq_false hq3),
          hY 15 (decide_eq_false hq3),
          hP 16 (decide_eq_false hq3)] (by kernel_rfl) (by kernel_rfl) ?_
        refine nT ?_
        by_cases hq4 : (decide (y ≥ 0)) ≠ (decide ((reckV 4 (intV x) (intV y)).f_Int ≥ x))
        · exact absurd (decide_eq_decide.2 va.2.2) hq4
        · refine T.condF (by kernel_rfl) (decide_eq_false hq4) ?_
          refine T.skip ?_
          refine nT ?_
          refine T.seq ?_
          refine xR [hR 2 rfl rfl (r_call (value_ReckonI 6 (intV x) (intV y) (by exact intV_kind _ _) (by assumption) (by assumption)) Try.func20 rfl (by decide) [] [] (l := [(.const (.int .i64 6), dv (.int .i64 6)), (.tmp 55, .tv (.agg [.d (.val (.int .i64 (intV x).f_Kind)), .d (.val (.int .i64 (intV x).f_Int)), .d (.val (.bool (intV x).f_Bool)), .d (.val (strV (intV x).f_Text)), .d (.val (.float .f64 (intV x).f_Num))])), (.tmp 56, .tv (.agg [.d (.val (.int .i64 (intV y).f_Kind)), .d (.val (.int .i64 (intV y).f_Int)), .d (.val (.bool (intV y).f_Bool)), .d (.val (strV (intV y).f_Text)), .d (.val (.float .f64 (intV y).f_Num))]))]) [] rfl 0 0 rfl rfl rfl rfl rfl rfl rfl rfl rfl ⟨.inl ⟨rfl, rfl⟩, ⟨⟨.inl ⟨rfl, rfl⟩, ⟨.inl ⟨rfl, rfl⟩, ⟨.inl ⟨rfl, rfl⟩, ⟨.inl ⟨rfl, rfl⟩, ⟨.inl ⟨rfl, rfl⟩, trivial⟩⟩⟩⟩⟩, ⟨⟨.inl ⟨rfl, rfl⟩, ⟨.inl ⟨rfl, rfl⟩, ⟨.inl ⟨rfl, rfl⟩, ⟨.inl ⟨rfl, rfl⟩, ⟨.inl ⟨rfl, rfl⟩, trivial⟩⟩⟩⟩⟩, trivial⟩⟩⟩ rfl (fun b hb => by cases hb) (.inl rfl) (lt_of rfl) ⟨rfl, trivial⟩)] (by kernel_rfl) (by kernel_rfl) ?_
          refine nT ?_
          refine T.seq ?_
          refine T.seq ?_
          by_cases hq5 : (reckE 6 (intV x) (intV y)) = 0
          · refine xR [hY 3 (decide_eq_true hq5),
              hY 4 (decide_eq_true hq5),
              hP 5 (decide_eq_true hq5)] (by kernel_rfl) (by kernel_rfl) ?_
            refine nT ?_
            by_cases hq6 : y ≠ 0
            · have vm := vi_mul hx (by assumption) hq6
              refine T.condT (by kernel_rfl) (decide_eq_true hq6) ?_
              refine T.seq ?_
              refine xR [hR 2 rfl rfl (r_call (value_ReckonI 7 (reckV 6 (intV x) (intV y)) (intV y) (by exact reckV_kind _ _ _ _) (by exact reckV_range (by assumption) (by assumption)) (by assumption)) Try.func20 rfl (by decide) [] [] (l := [(.const (.int .i64 7), dv (.int .i64 7)), (.tmp 67, .tv (.agg [.d (.val (.int .i64 (reckV 6 (intV x) (intV y)).f_Kind)), .d (.val (.int .i64 (reckV 6 (intV x) (intV y)).f_Int)), .d (.val (.bool (reckV 6 (intV x) (intV y)).f_Bool)), .d (.val (strV (reckV 6 (intV x) (intV y)).f_Text)), .d (.val (.float .f64 (reckV 6 (intV x) (intV y)).f_Num))])), (.tmp 68, .tv (.agg [.d (.val (.int .i64 (intV y).f_Kind)), .d (.val (.int .i64 (intV y).f_Int)), .d (.val (.bool (intV y).f_Bool)), .d (.val (strV (intV y).f_Text)), .d (.val (.float .f64 (intV y).f_Num))]))]) [] rfl 0 0 rfl rfl rfl rfl rfl rfl rfl rfl rfl ⟨.inl ⟨rfl, rfl⟩, ⟨⟨.inl ⟨rfl, rfl⟩, ⟨.inl ⟨rfl, rfl⟩, ⟨.inl ⟨rfl, rfl⟩, ⟨.inl ⟨rfl, rfl⟩, ⟨.inl ⟨rfl, rfl⟩, trivial⟩⟩⟩⟩⟩, ⟨⟨.inl ⟨rfl, rfl⟩, ⟨.inl ⟨rfl, rfl⟩, ⟨.inl ⟨rfl, rfl⟩, ⟨.inl ⟨rfl, rfl⟩, ⟨.inl ⟨rfl, rfl⟩, trivial⟩⟩⟩⟩⟩, trivial⟩⟩⟩ rfl (fun b hb => by cases hb) (.inl rfl) (lt_of rfl) ⟨rfl, trivial⟩)] (by kernel_rfl) (by kernel_rfl) ?_
              refine nT ?_
              refine T.seq ?_
              by_cases hq7 : (reckE 7 (reckV 6 (intV x) (intV y)) (intV y)) ≠ 0
              · exact absurd vm.1 hq7
              · refine xR [hY 3 (decide_eq_false hq7),
                  hY 4 (decide_eq_false hq7),
                  hY 5 (decide_eq_false hq7),
                  hY 6 (decide_eq_false hq7),
                  hP 7 (decide_eq_false hq7)] (by kernel_rfl) (by kernel_rfl) ?_
                refine nT ?_
                by_cases hq8 : (reckV 7 (reckV 6 (intV x) (intV y)) (intV y)).f_Int ≠ x
                · exact absurd vm.2 hq8
                · refine T.condF (by kernel_rfl) (decide_eq_false hq8) ?_
                  refine T.skip ?_
                  refine nT ?_
                  refine T.seq ?_
                  refine xR [hR 2 rfl rfl (r_call (value_ReckonI 7 (intV x) (intV y) (by exact intV_kind _ _) (by assumption) (by assumption)) Try.func20 rfl (by decide) [] [] (l := [(.const (.int .i64 7), dv (.int .i64 7)), (.tmp 81, .tv (.agg [.d (.val (.int .i64 (intV x).f_Kind)), .d (.val (.int .i64 (intV x).f_Int)), .d (.val (.bool (intV x).f_Bool)), .d (.val (strV (intV x).f_Text)), .d (.val (.float .f64 (intV x).f_Num))])), (.tmp 82, .tv (.agg [.d (.val (.int .i64 (intV y).f_Kind)), .d (.val (.int .i64 (intV y).f_Int)), .d (.val (.bool (intV y).f_Bool)), .d (.val (strV (intV y).f_Text)), .d (.val (.float .f64 (intV y).f_Num))]))]) [] rfl 0 0 rfl rfl rfl rfl rfl rfl rfl rfl rfl ⟨.inl ⟨rfl, rfl⟩, ⟨⟨.inl ⟨rfl, rfl⟩, ⟨.inl ⟨rfl, rfl⟩, ⟨.inl ⟨rfl, rfl⟩, ⟨.inl ⟨rfl, rfl⟩, ⟨.inl ⟨rfl, rfl⟩, trivial⟩⟩⟩⟩⟩, ⟨⟨.inl ⟨rfl, rfl⟩, ⟨.inl ⟨rfl, rfl⟩, ⟨.inl ⟨rfl, rfl⟩, ⟨.inl ⟨rfl, rfl⟩, ⟨.inl ⟨rfl, rfl⟩, trivial⟩⟩⟩⟩⟩, trivial⟩⟩⟩ rfl (fun b hb => by cases hb) (.inl rfl) (lt_of rfl) ⟨rfl, trivial⟩)] (by kernel_rfl) (by kernel_rfl) ?_
                  refine nT ?_
                  refine T.seq ?_
                  refine T.seq ?_
                  refine xR [] (by kernel_rfl) (by kernel_rfl) ?_
                  refine nT ?_
                  by_cases hq9 : y = 0
                  · refine T.condT (by kernel_rfl) (decide_eq_true hq9) ?_
                    refine T.seq ?_
                    by_cases hq10 : (reckE 7 (intV x) (intV y)) = 42
                    · refine xR [hS 3 (oY rfl rfl rfl rfl (lt_of rfl) (decide_eq_true hq10) (r_call (law_awake  ) Try.func17 rfl (by decide) [] [] (l := []) [] rfl 0 0 rfl rfl rfl rfl rfl rfl rfl rfl rfl trivial rfl (fun b hb => by cases hb) (.inl rfl) (lt_of rfl) trivial)),
                        hP 4 (decide_eq_true hq10)] (by kernel_rfl) (by kernel_rfl) ?_
                      refine nT ?_
                      refine T.ret ?_
                      refine rT ?_
                      exact tE (.inl rfl) [.t 4 (.one (.d (.val (.bool true))))] ⟨⟨rfl, by kernel_rfl⟩, trivial⟩ [] rfl rfl rfl rfl rfl rfl trivial
                    · exact absurd (reck7_zero (by assumption)) hq10
                  · refine T.condF (by kernel_rfl) (decide_eq_false hq9) ?_
                    refine T.skip ?_
                    refine nT ?_
                    refine T.seq ?_
                    refine T.seq ?_
                    refine xR [] (by kernel_rfl) (by kernel_rfl) ?_
                    refine nT ?_
                    by_cases hq11 : (reckE 7 (intV x) (intV y)) ≠ 0
                    · have vn := reck7_no hx (by assumption) hq11
                      refine T.condT (by kernel_rfl) (decide_eq_true hq11) ?_
                      refine T.seq ?_
                      by_cases hq12 : (reckE 7 (intV x) (intV y)) = 41
                      · by_cases hq13 : y = (-1)
                        · refine xR [hY 3 (decide_eq_true hq12),
                            hY 4 (decide_eq_true hq12),
                            hP 5 (decide_eq_true hq12),
                            hS 7 (oY rfl rfl rfl rfl (lt_of rfl) (decide_eq_true hq13) (r_call (law_awake  ) Try.func17 rfl (by decide) [] [] (l := []) [] rfl 0 0 rfl rfl rfl rfl rfl rfl rfl rfl rfl trivial rfl (fun b hb => by cases hb) (.inl rfl) (lt_of rfl) trivial)),
                            hP 8 (decide_eq_true hq13)] (by kernel_rfl) (by kernel_rfl) ?_
                          refine nT ?_
                          refine T.ret ?_
                          refine rT ?_
                          exact tE (.inl rfl) [.t 4 (.one (.d (.val (.bool true))))] ⟨⟨rfl, by kernel_rfl⟩, trivial⟩ [] rfl rfl rfl rfl rfl rfl trivial
                        · exact absurd vn.2 hq13
                      · exact absurd vn.1 hq12
                    · have vd := vi_div hx (by assumption) hq11
                      refine T.condF (by kernel_rfl) (decide_eq_false hq11) ?_
                      refine T.skip ?_
                      refine nT ?_
                      refine T.seq ?_
                      refine xR [hR 2 rfl rfl (r_call (value_ReckonI 6 (reckV 7 (intV x) (intV y)) (intV y) (by exact reckV_kind _ _ _ _) (by exact reckV_range (by assumption) (by assumption)) (by assumption)) Try.func20 rfl (by decide) [] [] (l := [(.const (.int .i64 6), dv (.int .i64 6)), (.tmp 105, .tv (.agg [.d (.val (.int .i64 (reckV 7 (intV x) (intV y)).f_Kind)), .d (.val (.int .i64 (reckV 7 (intV x) (intV y)).f_Int)), .d (.val (.bool (reckV 7 (intV x) (intV y)).f_Bool)), .d (.val (strV (reckV 7 (intV x) (intV y)).f_Text)), .d (.val (.float .f64 (reckV 7 (intV x) (intV y)).f_Num))])), (.tmp 106, .tv (.agg [.d (.val (.int .i64 (intV y).f_Kind)), .d (.val (.int .i64 (intV y).f_Int)), .d (.val (.bool (intV y).f_Bool)), .d (.val (strV (intV y).f_Text)), .d (.val (.float .f64 (intV y).f_Num))]))]) [] rfl 0 0 rfl rfl rfl rfl rfl rfl rfl rfl rfl ⟨.inl ⟨rfl, rfl⟩, ⟨⟨.inl ⟨rfl, rfl⟩, ⟨.inl ⟨rfl, rfl⟩, ⟨.inl ⟨rfl, rfl⟩, ⟨.inl ⟨rfl, rfl⟩, ⟨.inl ⟨rfl, rfl⟩, trivial⟩⟩⟩⟩⟩, ⟨⟨.inl ⟨rfl, rfl⟩, ⟨.inl ⟨rfl, rfl⟩, ⟨.inl ⟨rfl, rfl⟩, ⟨.inl ⟨rfl, rfl⟩, ⟨.inl ⟨rfl, rfl⟩, trivial⟩⟩⟩⟩⟩, trivial⟩⟩⟩ rfl (fun b hb => by cases hb) (.inl rfl) (lt_of rfl) ⟨rfl, trivial⟩)] (by kernel_rfl) (by kernel_rfl) ?_
                      refine nT ?_
                      refine T.seq ?_
                      refine xR [hR 2 rfl rfl (r_call (value_ReckonI 5 (intV x) (reckV 6 (reckV 7 (intV x) (intV y)) (intV y)) (by exact intV_kind _ _) (by assumption) (by exact reckV_range (by exact reckV_range (by assumption) (by assumption)) (by assumption))) Try.func20 rfl (by decide) [] [] (l := [(.const (.int .i64 5), dv (.int .i64 5)), (.tmp 111, .tv (.agg [.d (.val (.int .i64 (intV x).f_Kind)), .d (.val (.int .i64 (intV x).f_Int)), .d (.val (.bool (intV x).f_Bool)), .d (.val (strV (intV x).f_Text)), .d (.val (.float .f64 (intV x).f_Num))])), (.tmp 112, .tv (.agg [.d (.val (.int .i64 (reckV 6 (reckV 7 (intV x) (intV y)) (intV y)).f_Kind)), .d (.val (.int .i64 (reckV 6 (reckV 7 (intV x) (intV y)) (intV y)).f_Int)), .d (.val (.bool (reckV 6 (reckV 7 (intV x) (intV y)) (intV y)).f_Bool)), .d (.val (strV (reckV 6 (reckV 7 (intV x) (intV y)) (intV y)).f_Text)), .d (.val (.float .f64 (reckV 6 (reckV 7 (intV x) (intV y)) (intV y)).f_Num))]))]) [] rfl 0 0 rfl rfl rfl rfl rfl rfl rfl rfl rfl ⟨.inl ⟨rfl, rfl⟩, ⟨⟨.inl ⟨rfl, rfl⟩, ⟨.inl ⟨rfl, rfl⟩, ⟨.inl ⟨rfl, rfl⟩, ⟨.inl ⟨rfl, rfl⟩, ⟨.inl ⟨rfl, rfl⟩, trivial⟩⟩⟩⟩⟩, ⟨⟨.inl ⟨rfl, rfl⟩, ⟨.inl ⟨rfl, rfl⟩, ⟨.inl ⟨rfl, rfl⟩, ⟨.inl ⟨rfl, rfl⟩, ⟨.inl ⟨rfl, rfl⟩, trivial⟩⟩⟩⟩⟩, trivial⟩⟩⟩ rfl (fun b hb => by cases hb) (.inl rfl) (lt_of rfl) ⟨rfl, trivial⟩)] (by kernel_rfl) (by kernel_rfl) ?_
                      refine nT ?_
                      refine T.seq ?_
                      by_cases hq14 : (reckE 6 (reckV 7 (intV x) (intV y)) (intV y)) = 0
                      · by_cases hq15 : (reckE 5 (intV x) (reckV 6 (reckV 7 (intV x) (intV y)) (intV y))) = 0
                        · by_cases hq16 : (reckV 5 (intV x) (reckV 6 (reckV 7 (intV x) (intV y)) (intV y))).f_Int = 0
                          · refine xR [hY 3 (decide_eq_true hq14),
                              hY 4 (decide_eq_true hq14),
                              hP 5 (decide_eq_true hq14),
                              hY 7 (decide_eq_true hq15),
                              hY 8 (decide_eq_true hq15),
                              hY 9 (decide_eq_true hq15),
                              hY 10 (decide_eq_true hq15),
                              hN 11 false (decide_eq_true hq16),
                              hN 12 false (decide_eq_true hq16),
                              hN 13 false (decide_eq_true hq16),
                              hN 14 false (decide_eq_true hq16),
                              hN 15 false (decide_eq_true hq16),
                              hN 16 false (decide_eq_true hq16),
                              hS 17 (oY rfl rfl rfl rfl (lt_of rfl) (decide_eq_true hq15) (r_pickT (b := (decide ((reckV 5 (intV x) (reckV 6 (reckV 7 (intV x) (intV y)) (intV y))).f_Int = 0))) (av := dv (.bool true)) (lt_of rfl) ⟨rfl, trivial⟩ (decide_eq_true hq16))),
                              hP 18 (decide_eq_true hq15),
                              hS 20 (oY (b := true) rfl rfl rfl rfl (lt_of rfl) rfl (r_call (law_awake  ) Try.func17 rfl (by decide) [] [] (l := []) [] rfl 0 0 rfl rfl rfl rfl rfl rfl rfl rfl rfl trivial rfl (fun b hb => by cases hb) (.inl rfl) (lt_of rfl) trivial)),
                              hP 21 (b := true) (w := true) rfl] (by kernel_rfl) (by kernel_rfl) ?_
                            refine nT ?_
                            refine T.ret ?_
                            exact tE (.inl rfl) [.t 4 (.one (.d (.val (.bool true))))] ⟨⟨rfl, by kernel_rfl⟩, trivial⟩ [] rfl rfl rfl rfl rfl rfl trivial
                          · by_cases hq17 : (decide ((reckV 5 (intV x) (reckV 6 (reckV 7 (intV x) (intV y)) (intV y))).f_Int < 0)) = (decide (x < 0))
                            · refine xR [hY 3 (decide_eq_true hq14),
                                hY 4 (decide_eq_true hq14),
                                hP 5 (decide_eq_true hq14),
                                hY 7 (decide_eq_true hq15),
                                hY 8 (decide_eq_true hq15),
                                hY 9 (decide_eq_true hq15),
                                hY 10 (decide_eq_true hq15),
                                hY 11 (decide_eq_false hq16),
                                hY 12 (decide_eq_false hq16),
                                hY 13 (decide_eq_false hq16),
                                hY 14 (decide_eq_false hq16),
                                hY 15 (decide_eq_false hq16),
                                hY 16 (decide_eq_false hq16),
                                hS 17 (oY rfl rfl rfl rfl (lt_of rfl) (decide_eq_true hq15) (r_pickF (b := (decide ((reckV 5 (intV x) (reckV 6 (reckV 7 (intV x) (intV y)) (intV y))).f_Int = 0))) (av := dv (.bool (decide ((decide ((reckV 5 (intV x) (reckV 6 (reckV 7 (intV x) (intV y)) (intV y))).f_Int < 0)) = (decide (x < 0)))))) (lt_of rfl) trivial (decide_eq_false hq16))),
                                hP 18 (decide_eq_true hq15),
                                hS 20 (oY rfl rfl rfl rfl (lt_of rfl) (decide_eq_true hq17) (r_call (law_awake  ) Try.func17 rfl (by decide) [] [] (l := []) [] rfl 0 0 rfl rfl rfl rfl rfl rfl rfl rfl rfl trivial rfl (fun b hb => by cases hb) (.inl rfl) (lt_of rfl) trivial)),
                                hP 21 (decide_eq_true hq17)] (by kernel_rfl) (by kernel_rfl) ?_
                              refine nT ?_
                              refine T.ret ?_
                              exact tE (.inl rfl) [.t 4 (.one (.d (.val (.bool true))))] ⟨⟨rfl, by kernel_rfl⟩, trivial⟩ [] rfl rfl rfl rfl rfl rfl trivial
                            · exact absurd (decide_eq_decide.2 (vd.2.2.resolve_left (by assumption))) hq17
                        · exact absurd vd.2.1 hq15
                      · exact absurd vd.1 hq14
            · refine T.condF (by kernel_rfl) (decide_eq_false hq6) ?_
              refine T.skip ?_
              refine nT ?_
              refine T.seq ?_
              refine xR [hR 2 rfl rfl (r_call (value_ReckonI 7 (intV x) (intV y) (by exact intV_kind _ _) (by assumption) (by assumption)) Try.func20 rfl (by decide) [] [] (l := [(.const (.int .i64 7), dv (.int .i64 7)), (.tmp 81, .tv (.agg [.d (.val (.int .i64 (intV x).f_Kind)), .d (.val (.int .i64 (intV x).f_Int)), .d (.val (.bool (intV x).f_Bool)), .d (.val (strV (intV x).f_Text)), .d (.val (.float .f64 (intV x).f_Num))])), (.tmp 82, .tv (.agg [.d (.val (.int .i64 (intV y).f_Kind)), .d (.val (.int .i64 (intV y).f_Int)), .d (.val (.bool (intV y).f_Bool)), .d (.val (strV (intV y).f_Text)), .d (.val (.float .f64 (intV y).f_Num))]))]) [] rfl 0 0 rfl rfl rfl rfl rfl rfl rfl rfl rfl ⟨.inl ⟨rfl, rfl⟩, ⟨⟨.inl ⟨rfl, rfl⟩, ⟨.inl ⟨rfl, rfl⟩, ⟨.inl ⟨rfl, rfl⟩, ⟨.inl ⟨rfl, rfl⟩, ⟨.inl ⟨rfl, rfl⟩, trivial⟩⟩⟩⟩⟩, ⟨⟨.inl ⟨rfl, rfl⟩, ⟨.inl ⟨rfl, rfl⟩, ⟨.inl ⟨rfl, rfl⟩, ⟨.inl ⟨rfl, rfl⟩, ⟨.inl ⟨rfl, rfl⟩, trivial⟩⟩⟩⟩⟩, trivial⟩⟩⟩ rfl (fun b hb => by cases hb) (.inl rfl) (lt_of rfl) ⟨rfl, trivial⟩)] (by kernel_rfl) (by kernel_rfl) ?_
              refine nT ?_
              refine T.seq ?_
              refine T.seq ?_
              refine xR [] (by kernel_rfl) (by kernel_rfl) ?_
              refine nT ?_
              by_cases hq18 : y = 0
              · refine T.condT (by kernel_rfl) (decide_eq_true hq18) ?_
                refine T.seq ?_
                by_cases hq19 : (reckE 7 (intV x) (intV y)) = 42
                · refine xR [hS 3 (oY rfl rfl rfl rfl (lt_of rfl) (decide_eq_true hq19) (r_call (law_awake  ) Try.func17 rfl (by decide) [] [] (l := []) [] rfl 0 0 rfl rfl rfl rfl rfl rfl rfl rfl rfl trivial rfl (fun b hb => by cases hb) (.inl rfl) (lt_of rfl) trivial)),
                    hP 4 (decide_eq_true hq19)] (by kernel_rfl) (by kernel_rfl) ?_
                  refine nT ?_
                  refine T.ret ?_
                  refine rT ?_
                  exact tE (.inl rfl) [.t 4 (.one (.d (.val (.bool true))))] ⟨⟨rfl, by kernel_rfl⟩, trivial⟩ [] rfl rfl rfl rfl rfl rfl trivial
                · exact absurd (reck7_zero (by assumption)) hq19
              · refine T.condF (by kernel_rfl) (decide_eq_false hq18) ?_
                refine T.skip ?_
                refine nT ?_
                refine T.seq ?_
                refine T.seq ?_
                refine xR [] (by kernel_rfl) (by kernel_rfl) ?_
                refine nT ?_
                by_cases hq20 : (reckE 7 (intV x) (intV y)) ≠ 0
                · have vn := reck7_no hx (by assumption) hq20
                  refine T.condT (by kernel_rfl) (decide_eq_true hq20) ?_
                  refine T.seq ?_
                  by_cases hq21 : (reckE 7 (intV x) (intV y)) = 41
                  · by_cases hq22 : y = (-1)
                    · refine xR [hY 3 (decide_eq_true hq21),
                        hY 4 (decide_eq_true hq21),
                        hP 5 (decide_eq_true hq21),
                        hS 7 (oY rfl rfl rfl rfl (lt_of rfl) (decide_eq_true hq22) (r_call (law_awake  ) Try.func17 rfl (by decide) [] [] (l := []) [] rfl 0 0 rfl rfl rfl rfl rfl rfl rfl rfl rfl trivial rfl (fun b hb => by cases hb) (.inl rfl) (lt_of rfl) trivial)),
                        hP 8 (decide_eq_true hq22)] (by kernel_rfl) (by kernel_rfl) ?_
                      refine nT ?_
                      refine T.ret ?_
                      refine rT ?_
                      exact tE (.inl rfl) [.t 4 (.one (.d (.val (.bool true))))] ⟨⟨rfl, by kernel_rfl⟩, trivial⟩ [] rfl rfl rfl rfl rfl rfl trivial
                    · exact absurd vn.2 hq22
                  · exact absurd vn.1 hq21
                · have vd := vi_div hx (by assumption) hq20
                  refine T.condF (by kernel_rfl) (decide_eq_false hq20) ?_
                  refine T.skip ?_
                  refine nT ?_
                  refine T.seq ?_
                  refine xR [hR 2 rfl rfl (r_call (value_ReckonI 6 (reckV 7 (intV x) (intV y)) (intV y) (by exact reckV_kind _ _ _ _) (by exact reckV_range (by assumption) (by assumption)) (by assumption)) Try.func20 rfl (by decide) [] [] (l := [(.const (.int .i64 6), dv (.int .i64 6)), (.tmp 105, .tv (.agg [.d (.val (.int .i64 (reckV 7 (intV x) (intV y)).f_Kind)), .d (.val (.int .i64 (reckV 7 (intV x) (intV y)).f_Int)), .d (.val (.bool (reckV 7 (intV x) (intV y)).f_Bool)), .d (.val (strV (reckV 7 (intV x) (intV y)).f_Text)), .d (.val (.float .f64 (reckV 7 (intV x) (intV y)).f_Num))])), (.tmp 106, .tv (.agg [.d (.val (.int .i64 (intV y).f_Kind)), .d (.val (.int .i64 (intV y).f_Int)), .d (.val (.bool (intV y).f_Bool)), .d (.val (strV (intV y).f_Text)), .d (.val (.float .f64 (intV y).f_Num))]))]) [] rfl 0 0 rfl rfl rfl rfl rfl rfl rfl rfl rfl ⟨.inl ⟨rfl, rfl⟩, ⟨⟨.inl ⟨rfl, rfl⟩, ⟨.inl ⟨rfl, rfl⟩, ⟨.inl ⟨rfl, rfl⟩, ⟨.inl ⟨rfl, rfl⟩, ⟨.inl ⟨rfl, rfl⟩, trivial⟩⟩⟩⟩⟩, ⟨⟨.inl ⟨rfl, rfl⟩, ⟨.inl ⟨rfl, rfl⟩, ⟨.inl ⟨rfl, rfl⟩, ⟨.inl ⟨rfl, rfl⟩, ⟨.inl ⟨rfl, rfl⟩, trivial⟩⟩⟩⟩⟩, trivial⟩⟩⟩ rfl (fun b hb => by cases hb) (.inl rfl) (lt_of rfl) ⟨rfl, trivial⟩)] (by kernel_rfl) (by kernel_rfl) ?_
                  refine nT ?_
                  refine T.seq ?_
                  refine xR [hR 2 rfl rfl (r_call (value_ReckonI 5 (intV x) (reckV 6 (reckV 7 (intV x) (intV y)) (intV y)) (by exact intV_kind _ _) (by assumption) (by exact reckV_range (by exact reckV_range (by assumption) (by assumption)) (by assumption))) Try.func20 rfl (by decide) [] [] (l := [(.const (.int .i64 5), dv (.int .i64 5)), (.tmp 111, .tv (.agg [.d (.val (.int .i64 (intV x).f_Kind)), .d (.val (.int .i64 (intV x).f_Int)), .d (.val (.bool (intV x).f_Bool)), .d (.val (strV (intV x).f_Text)), .d (.val (.float .f64 (intV x).f_Num))])), (.tmp 112, .tv (.agg [.d (.val (.int .i64 (reckV 6 (reckV 7 (intV x) (intV y)) (intV y)).f_Kind)), .d (.val (.int .i64 (reckV 6 (reckV 7 (intV x) (intV y)) (intV y)).f_Int)), .d (.val (.bool (reckV 6 (reckV 7 (intV x) (intV y)) (intV y)).f_Bool)), .d (.val (strV (reckV 6 (reckV 7 (intV x) (intV y)) (intV y)).f_Text)), .d (.val (.float .f64 (reckV 6 (reckV 7 (intV x) (intV y)) (intV y)).f_Num))]))]) [] rfl 0 0 rfl rfl rfl rfl rfl rfl rfl rfl rfl ⟨.inl ⟨rfl, rfl⟩, ⟨⟨.inl ⟨rfl, rfl⟩, ⟨.inl ⟨rfl, rfl⟩, ⟨.inl ⟨rfl, rfl⟩, ⟨.inl ⟨rfl, rfl⟩, ⟨.inl ⟨rfl, rfl⟩, trivial⟩⟩⟩⟩⟩, ⟨⟨.inl ⟨rfl, rfl⟩, ⟨.inl ⟨rfl, rfl⟩, ⟨.inl ⟨rfl, rfl⟩, ⟨.inl ⟨rfl, rfl⟩, ⟨.inl ⟨rfl, rfl⟩, trivial⟩⟩⟩⟩⟩, trivial⟩⟩⟩ rfl (fun b hb => by cases hb) (.inl rfl) (lt_of rfl) ⟨rfl, trivial⟩)] (by kernel_rfl) (by kernel_rfl) ?_
                  refine nT ?_
                  refine T.seq ?_
                  by_cases hq23 : (reckE 6 (reckV 7 (intV x) (intV y)) (intV y)) = 0
                  · by_cases hq24 : (reckE 5 (intV x) (reckV 6 (reckV 7 (intV x) (intV y)) (intV y))) = 0
                    · by_cases hq25 : (reckV 5 (intV x) (reckV 6 (reckV 7 (intV x) (intV y)) (intV y))).f_Int = 0
                      · refine xR [hY 3 (decide_eq_true hq23),
                          hY 4 (decide_eq_true hq23),
                          hP 5 (decide_eq_true hq23),
                          hY 7 (decide_eq_true hq24),
                          hY 8 (decide_eq_true hq24),
                          hY 9 (decide_eq_true hq24),
                          hY 10 (decide_eq_true hq24),
                          hN 11 false (decide_eq_true hq25),
                          hN 12 false (decide_eq_true hq25),
                          hN 13 false (decide_eq_true hq25),
                          hN 14 false (decide_eq_true hq25),
                          hN 15 false (decide_eq_true hq25),
                          hN 16 false (decide_eq_true hq25),
                          hS 17 (oY rfl rfl rfl rfl (lt_of rfl) (decide_eq_true hq24) (r_pickT (b := (decide ((reckV 5 (intV x) (reckV 6 (reckV 7 (intV x) (intV y)) (intV y))).f_Int = 0))) (av := dv (.bool true)) (lt_of rfl) ⟨rfl, trivial⟩ (decide_eq_true hq25))),
                          hP 18 (decide_eq_true hq24),
                          hS 20 (oY (b := true) rfl rfl rfl rfl (lt_of rfl) rfl (r_call (law_awake  ) Try.func17 rfl (by decide) [] [] (l := []) [] rfl 0 0 rfl rfl rfl rfl rfl rfl rfl rfl rfl trivial rfl (fun b hb => by cases hb) (.inl rfl) (lt_of rfl) trivial)),
                          hP 21 (b := true) (w := true) rfl] (by kernel_rfl) (by kernel_rfl) ?_
                        refine nT ?_
                        refine T.ret ?_
                        exact tE (.inl rfl) [.t 4 (.one (.d (.val (.bool true))))] ⟨⟨rfl, by kernel_rfl⟩, trivial⟩ [] rfl rfl rfl rfl rfl rfl trivial
                      · by_cases hq26 : (decide ((reckV 5 (intV x) (reckV 6 (reckV 7 (intV x) (intV y)) (intV y))).f_Int < 0)) = (decide (x < 0))
                        · refine xR [hY 3 (decide_eq_true hq23),
                            hY 4 (decide_eq_true hq23),
                            hP 5 (decide_eq_true hq23),
                            hY 7 (decide_eq_true hq24),
                            hY 8 (decide_eq_true hq24),
                            hY 9 (decide_eq_true hq24),
                            hY 10 (decide_eq_true hq24),
                            hY 11 (decide_eq_false hq25),
                            hY 12 (decide_eq_false hq25),
                            hY 13 (decide_eq_false hq25),
                            hY 14 (decide_eq_false hq25),
                            hY 15 (decide_eq_false hq25),
                            hY 16 (decide_eq_false hq25),
                            hS 17 (oY rfl rfl rfl rfl (lt_of rfl) (decide_eq_true hq24) (r_pickF (b := (decide ((reckV 5 (intV x) (reckV 6 (reckV 7 (intV x) (intV y)) (intV y))).f_Int = 0))) (av := dv (.bool (decide ((decide ((reckV 5 (intV x) (reckV 6 (reckV 7 (intV x) (intV y)) (intV y))).f_Int < 0)) = (decide (x < 0)))))) (lt_of rfl) trivial (decide_eq_false hq25))),
                            hP 18 (decide_eq_true hq24),
                            hS 20 (oY rfl rfl rfl rfl (lt_of rfl) (decide_eq_true hq26) (r_call (law_awake  ) Try.func17 rfl (by decide) [] [] (l := []) [] rfl 0 0 rfl rfl rfl rfl rfl rfl rfl rfl rfl trivial rfl (fun b hb => by cases hb) (.inl rfl) (lt_of rfl) trivial)),
                            hP 21 (decide_eq_true hq26)] (by kernel_rfl) (by kernel_rfl) ?_
                          refine nT ?_
                          refine T.ret ?_
                          exact tE (.inl rfl) [.t 4 (.one (.d (.val (.bool true))))] ⟨⟨rfl, by kernel_rfl⟩, trivial⟩ [] rfl rfl rfl rfl rfl rfl trivial
                        · exact absurd (decide_eq_decide.2 (vd.2.2.resolve_left (by assumption))) hq26
                    · exact absurd vd.2.1 hq24
                  · exact absurd vd.1 hq23
          · refine xR [hN 3 true (decide_eq_false hq5),
              hN 4 true (decide_eq_false hq5),
              hP 5 (decide_eq_false hq5)] (by kernel_rfl) (by kernel_rfl) ?_
            refine nT ?_
            refine T.condF (b := false) (by kernel_rfl) rfl ?_
            refine T.skip ?_
            refine nT ?_
            refine T.seq ?_
            refine xR [hR 2 rfl rfl (r_call (value_ReckonI 7 (intV x) (intV y) (by exact intV_kind _ _) (by assumption) (by assumption)) Try.func20 rfl (by decide) [] [] (l := [(.const (.int .i64 7), dv (.int .i64 7)), (.tmp 81, .tv (.agg [.d (.val (.int .i64 (intV x).f_Kind)), .d (.val (.int .i64 (intV x).f_Int)), .d (.val (.bool (intV x).f_Bool)), .d (.val (strV (intV x).f_Text)), .d (.val (.float .f64 (intV x).f_Num))])), (.tmp 82, .tv (.agg [.d (.val (.int .i64 (intV y).f_Kind)), .d (.val (.int .i64 (intV y).f_Int)), .d (.val (.bool (intV y).f_Bool)), .d (.val (strV (intV y).f_Text)), .d (.val (.float .f64 (intV y).f_Num))]))]) [] rfl 0 0 rfl rfl rfl rfl rfl rfl rfl rfl rfl ⟨.inl ⟨rfl, rfl⟩, ⟨⟨.inl ⟨rfl, rfl⟩, ⟨.inl ⟨rfl, rfl⟩, ⟨.inl ⟨rfl, rfl⟩, ⟨.inl ⟨rfl, rfl⟩, ⟨.inl ⟨rfl, rfl⟩, trivial⟩⟩⟩⟩⟩, ⟨⟨.inl ⟨rfl, rfl⟩, ⟨.inl ⟨rfl, rfl⟩, ⟨.inl ⟨rfl, rfl⟩, ⟨.inl ⟨rfl, rfl⟩, ⟨.inl ⟨rfl, rfl⟩, trivial⟩⟩⟩⟩⟩, trivial⟩⟩⟩ rfl (fun b hb => by cases hb) (.inl rfl) (lt_of rfl) ⟨rfl, trivial⟩)] (by kernel_rfl) (by kernel_rfl) ?_
            refine nT ?_
            refine T.seq ?_
            refine T.seq ?_
            refine xR [] (by kernel_rfl) (by kernel_rfl) ?_
            refine nT ?_
            by_cases hq27 : y = 0
            · refine T.condT (by kernel_rfl) (decide_eq_true hq27) ?_
              refine T.seq ?_
              by_cases hq28 : (reckE 7 (intV x) (intV y)) = 42
              · refine xR [hS 3 (oY rfl rfl rfl rfl (lt_of rfl) (decide_eq_true hq28) (r_call (law_awake  ) Try.func17 rfl (by decide) [] [] (l := []) [] rfl 0 0 rfl rfl rfl rfl rfl rfl rfl rfl rfl trivial rfl (fun b hb => by cases hb) (.inl rfl) (lt_of rfl) trivial)),
                  hP 4 (decide_eq_true hq28)] (by kernel_rfl) (by kernel_rfl) ?_
                refine nT ?_
                refine T.ret ?_
                refine rT ?_
                exact tE (.inl rfl) [.t 4 (.one (.d (.val (.bool true))))] ⟨⟨rfl, by kernel_rfl⟩, trivial⟩ [] rfl rfl rfl rfl rfl rfl trivial
              · exact absurd (reck7_zero (by assumption)) hq28
            · refine T.condF (by kernel_rfl) (decide_eq_false hq27) ?_
              refine T.skip ?_
              refine nT ?_
              refine T.seq ?_
              refine T.seq ?_
              refine xR [] (by kernel_rfl) (by kernel_rfl) ?_
              refine nT ?_
              by_cases hq29 : (reckE 7 (intV x) (intV y)) ≠ 0
              · have vn := reck7_no hx (by assumption) hq29
                refine T.condT (by kernel_rfl) (decide_eq_true hq29) ?_
                refine T.seq ?_
                by_cases hq30 : (reckE 7 (intV x) (intV y)) = 41
                · by_cases hq31 : y = (-1)
                  · refine xR [hY 3 (decide_eq_true hq30),
                      hY 4 (decide_eq_true hq30),
                      hP 5 (decide_eq_true hq30),
                      hS 7 (oY rfl rfl rfl rfl (lt_of rfl) (decide_eq_true hq31) (r_call (law_awake  ) Try.func17 rfl (by decide) [] [] (l := []) [] rfl 0 0 rfl rfl rfl rfl rfl rfl rfl rfl rfl trivial rfl (fun b hb => by cases hb) (.inl rfl) (lt_of rfl) trivial)),
                      hP 8 (decide_eq_true hq31)] (by kernel_rfl) (by kernel_rfl) ?_
                    refine nT ?_
                    refine T.ret ?_
                    refine rT ?_
                    exact tE (.inl rfl) [.t 4 (.one (.d (.val (.bool true))))] ⟨⟨rfl, by kernel_rfl⟩, trivial⟩ [] rfl rfl rfl rfl rfl rfl trivial
                  · exact absurd vn.2 hq31
                · exact absurd vn.1 hq30
              · have vd := vi_div hx (by assumption) hq29
                refine T.condF (by kernel_rfl) (decide_eq_false hq29) ?_
                refine T.skip ?_
                refine nT ?_
                refine T.seq ?_
                refine xR [hR 2 rfl rfl (r_call (value_ReckonI 6 (reckV 7 (intV x) (intV y)) (intV y) (by exact reckV_kind _ _ _ _) (by exact reckV_range (by assumption) (by assumption)) (by assumption)) Try.func20 rfl (by decide) [] [] (l := [(.const (.int .i64 6), dv (.int .i64 6)), (.tmp 105, .tv (.agg [.d (.val (.int .i64 (reckV 7 (intV x) (intV y)).f_Kind)), .d (.val (.int .i64 (reckV 7 (intV x) (intV y)).f_Int)), .d (.val (.bool (reckV 7 (intV x) (intV y)).f_Bool)), .d (.val (strV (reckV 7 (intV x) (intV y)).f_Text)), .d (.val (.float .f64 (reckV 7 (intV x) (intV y)).f_Num))])), (.tmp 106, .tv (.agg [.d (.val (.int .i64 (intV y).f_Kind)), .d (.val (.int .i64 (intV y).f_Int)), .d (.val (.bool (intV y).f_Bool)), .d (.val (strV (intV y).f_Text)), .d (.val (.float .f64 (intV y).f_Num))]))]) [] rfl 0 0 rfl rfl rfl rfl rfl rfl rfl rfl rfl ⟨.inl ⟨rfl, rfl⟩, ⟨⟨.inl ⟨rfl, rfl⟩, ⟨.inl ⟨rfl, rfl⟩, ⟨.inl ⟨rfl, rfl⟩, ⟨.inl ⟨rfl, rfl⟩, ⟨.inl ⟨rfl, rfl⟩, trivial⟩⟩⟩⟩⟩, ⟨⟨.inl ⟨rfl, rfl⟩, ⟨.inl ⟨rfl, rfl⟩, ⟨.inl ⟨rfl, rfl⟩, ⟨.inl ⟨rfl, rfl⟩, ⟨.inl ⟨rfl, rfl⟩, trivial⟩⟩⟩⟩⟩, trivial⟩⟩⟩ rfl (fun b hb => by cases hb) (.inl rfl) (lt_of rfl) ⟨rfl, trivial⟩)] (by kernel_rfl) (by kernel_rfl) ?_
                refine nT ?_
                refine T.seq ?_
                refine xR [hR 2 rfl rfl (r_call (value_ReckonI 5 (intV x) (reckV 6 (reckV 7 (intV x) (intV y)) (intV y)) (by exact intV_kind _ _) (by assumption) (by exact reckV_range (by exact reckV_range (by assumption) (by assumption)) (by assumption))) Try.func20 rfl (by decide) [] [] (l := [(.const (.int .i64 5), dv (.int .i64 5)), (.tmp 111, .tv (.agg [.d (.val (.int .i64 (intV x).f_Kind)), .d (.val (.int .i64 (intV x).f_Int)), .d (.val (.bool (intV x).f_Bool)), .d (.val (strV (intV x).f_Text)), .d (.val (.float .f64 (intV x).f_Num))])), (.tmp 112, .tv (.agg [.d (.val (.int .i64 (reckV 6 (reckV 7 (intV x) (intV y)) (intV y)).f_Kind)), .d (.val (.int .i64 (reckV 6 (reckV 7 (intV x) (intV y)) (intV y)).f_Int)), .d (.val (.bool (reckV 6 (reckV 7 (intV x) (intV y)) (intV y)).f_Bool)), .d (.val (strV (reckV 6 (reckV 7 (intV x) (intV y)) (intV y)).f_Text)), .d (.val (.float .f64 (reckV 6 (reckV 7 (intV x) (intV y)) (intV y)).f_Num))]))]) [] rfl 0 0 rfl rfl rfl rfl rfl rfl rfl rfl rfl ⟨.inl ⟨rfl, rfl⟩, ⟨⟨.inl ⟨rfl, rfl⟩, ⟨.inl ⟨rfl, rfl⟩, ⟨.inl ⟨rfl, rfl⟩, ⟨.inl ⟨rfl, rfl⟩, ⟨.inl ⟨rfl, rfl⟩, trivial⟩⟩⟩⟩⟩, ⟨⟨.inl ⟨rfl, rfl⟩, ⟨.inl ⟨rfl, rfl⟩, ⟨.inl ⟨rfl, rfl⟩, ⟨.inl ⟨rfl, rfl⟩, ⟨.inl ⟨rfl, rfl⟩, trivial⟩⟩⟩⟩⟩, trivial⟩⟩⟩ rfl (fun b hb => by cases hb) (.inl rfl) (lt_of rfl) ⟨rfl, trivial⟩)] (by kernel_rfl) (by kernel_rfl) ?_
                refine nT ?_
                refine T.seq ?_
                by_cases hq32 : (reckE 6 (reckV 7 (intV x) (intV y)) (intV y)) = 0
                · by_cases hq33 : (reckE 5 (intV x) (reckV 6 (reckV 7 (intV x) (intV y)) (intV y))) = 0
                  · by_cases hq34 : (reckV 5 (intV x) (reckV 6 (reckV 7 (intV x) (intV y)) (intV y))).f_Int = 0
                    · refine xR [hY 3 (decide_eq_true hq32),
                        hY 4 (decide_eq_true hq32),
                        hP 5 (decide_eq_true hq32),
                        hY 7 (decide_eq_true hq33),
                        hY 8 (decide_eq_true hq33),
                        hY 9 (decide_eq_true hq33),
                        hY 10 (decide_eq_true hq33),
                        hN 11 false (decide_eq_true hq34),
                        hN 12 false (decide_eq_true hq34),
                        hN 13 false (decide_eq_true hq34),
                        hN 14 false (decide_eq_true hq34),
                        hN 15 false (decide_eq_true hq34),
                        hN 16 false (decide_eq_true hq34),
                        hS 17 (oY rfl rfl rfl rfl (lt_of rfl) (decide_eq_true hq33) (r_pickT (b := (decide ((reckV 5 (intV x) (reckV 6 (reckV 7 (intV x) (intV y)) (intV y))).f_Int = 0))) (av := dv (.bool true)) (lt_of rfl) ⟨rfl, trivial⟩ (decide_eq_true hq34))),
                        hP 18 (decide_eq_true hq33),
                        hS 20 (oY (b := true) rfl rfl rfl rfl (lt_of rfl) rfl (r_call (law_awake  ) Try.func17 rfl (by decide) [] [] (l := []) [] rfl 0 0 rfl rfl rfl rfl rfl rfl rfl rfl rfl trivial rfl (fun b hb => by cases hb) (.inl rfl) (lt_of rfl) trivial)),
                        hP 21 (b := true) (w := true) rfl] (by kernel_rfl) (by kernel_rfl) ?_
                      refine nT ?_
                      refine T.ret ?_
                      exact tE (.inl rfl) [.t 4 (.one (.d (.val (.bool true))))] ⟨⟨rfl, by kernel_rfl⟩, trivial⟩ [] rfl rfl rfl rfl rfl rfl trivial
                    · by_cases hq35 : (decide ((reckV 5 (intV x) (reckV 6 (reckV 7 (intV x) (intV y)) (intV y))).f_Int < 0)) = (decide (x < 0))
                      · refine xR [hY 3 (decide_eq_true hq32),
                          hY 4 (decide_eq_true hq32),
                          hP 5 (decide_eq_true hq32),
                          hY 7 (decide_eq_true hq33),
                          hY 8 (decide_eq_true hq33),
                          hY 9 (decide_eq_true hq33),
                          hY 10 (decide_eq_true hq33),
                          hY 11 (decide_eq_false hq34),
                          hY 12 (decide_eq_false hq34),
                          hY 13 (decide_eq_false hq34),
                          hY 14 (decide_eq_false hq34),
                          hY 15 (decide_eq_false hq34),
                          hY 16 (decide_eq_false hq34),
                          hS 17 (oY rfl rfl rfl rfl (lt_of rfl) (decide_eq_true hq33) (r_pickF (b := (decide ((reckV 5 (intV x) (reckV 6 (reckV 7 (intV x) (intV y)) (intV y))).f_Int = 0))) (av := dv (.bool (decide ((decide ((reckV 5 (intV x) (reckV 6 (reckV 7 (intV x) (intV y)) (intV y))).f_Int < 0)) = (decide (x < 0)))))) (lt_of rfl) trivial (decide_eq_false hq34))),
                          hP 18 (decide_eq_true hq33),
                          hS 20 (oY rfl rfl rfl rfl (lt_of rfl) (decide_eq_true hq35) (r_call (law_awake  ) Try.func17 rfl (by decide) [] [] (l := []) [] rfl 0 0 rfl rfl rfl rfl rfl rfl rfl rfl rfl trivial rfl (fun b hb => by cases hb) (.inl rfl) (lt_of rfl) trivial)),
                          hP 21 (decide_eq_true hq35)] (by kernel_rfl) (by kernel_rfl) ?_
                        refine nT ?_
                        refine T.ret ?_
                        exact tE (.inl rfl) [.t 4 (.one (.d (.val (.bool true))))] ⟨⟨rfl, by kernel_rfl⟩, trivial⟩ [] rfl rfl rfl rfl rfl rfl trivial
                      · exact absurd (decide_eq_decide.2 (vd.2.2.resolve_left (by assumption))) hq35
                  · exact absurd vd.2.1 hq33
                · exact absurd vd.1 hq32
  · refine T.condF (by kernel_rfl) (decide_eq_false hq1) ?_
    refine T.skip ?_
    refine nT ?_
    refine T.seq ?_
    refine xR [hR 2 rfl rfl (r_call (value_ReckonI 6 (intV x) (intV y) (by exact intV_kind _ _) (by assumption) (by assumption)) Try.func20 rfl (by decide) [] [] (l := [(.const (.int .i64 6), dv (.int .i64 6)), (.tmp 55, .tv (.agg [.d (.val (.int .i64 (intV x).f_Kind)), .d (.val (.int .i64 (intV x).f_Int)), .d (.val (.bool (intV x).f_Bool)), .d (.val (strV (intV x).f_Text)), .d (.val (.float .f64 (intV x).f_Num))])), (.tmp 56, .tv (.agg [.d (.val (.int .i64 (intV y).f_Kind)), .d (.val (.int .i64 (intV y).f_Int)), .d (.val (.bool (intV y).f_Bool)), .d (.val (strV (intV y).f_Text)), .d (.val (.float .f64 (intV y).f_Num))]))]) [] rfl 0 0 rfl rfl rfl rfl rfl rfl rfl rfl rfl ⟨.inl ⟨rfl, rfl⟩, ⟨⟨.inl ⟨rfl, rfl⟩, ⟨.inl ⟨rfl, rfl⟩, ⟨.inl ⟨rfl, rfl⟩, ⟨.inl ⟨rfl, rfl⟩, ⟨.inl ⟨rfl, rfl⟩, trivial⟩⟩⟩⟩⟩, ⟨⟨.inl ⟨rfl, rfl⟩, ⟨.inl ⟨rfl, rfl⟩, ⟨.inl ⟨rfl, rfl⟩, ⟨.inl ⟨rfl, rfl⟩, ⟨.inl ⟨rfl, rfl⟩, trivial⟩⟩⟩⟩⟩, trivial⟩⟩⟩ rfl (fun b hb => by cases hb) (.inl rfl) (lt_of rfl) ⟨rfl, trivial⟩)] (by kernel_rfl) (by kernel_rfl) ?_
    refine nT ?_
    refine T.seq ?_
    refine T.seq ?_
    by_cases hq36 : (reckE 6 (intV x) (intV y)) = 0
    · refine xR [hY 3 (decide_eq_true hq36),
        hY 4 (decide_eq_true hq36),
        hP 5 (decide_eq_true hq36)] (by kernel_rfl) (by kernel_rfl) ?_
      refine nT ?_
      by_cases hq37 : y ≠ 0
      · have vm := vi_mul hx (by assumption) hq37
        refine T.condT (by kernel_rfl) (decide_eq_true hq37) ?_
        refine T.seq ?_
        refine xR [hR 2 rfl rfl (r_call (value_ReckonI 7 (reckV 6 (intV x) (intV y)) (intV y) (by exact reckV_kind _ _ _ _) (by exact reckV_range (by assumption) (by assumption)) (by assumption)) Try.func20 rfl (by decide) [] [] (l := [(.const (.int .i64 7), dv (.int .i64 7)), (.tmp 67, .tv (.agg [.d (.val (.int .i64 (reckV 6 (intV x) (intV y)).f_Kind)), .d (.val (.int .i64 (reckV 6 (intV x) (intV y)).f_Int)), .d (.val (.bool (reckV 6 (intV x) (intV y)).f_Bool)), .d (.val (strV (reckV 6 (intV x) (intV y)).f_Text)), .d (.val (.float .f64 (reckV 6 (intV x) (intV y)).f_Num))])), (.tmp 68, .tv (.agg [.d (.val (.int .i64 (intV y).f_Kind)), .d (.val (.int .i64 (intV y).f_Int)), .d (.val (.bool (intV y).f_Bool)), .d (.val (strV (intV y).f_Text)), .d (.val (.float .f64 (intV y).f_Num))]))]) [] rfl 0 0 rfl rfl rfl rfl rfl rfl rfl rfl rfl ⟨.inl ⟨rfl, rfl⟩, ⟨⟨.inl ⟨rfl, rfl⟩, ⟨.inl ⟨rfl, rfl⟩, ⟨.inl ⟨rfl, rfl⟩, ⟨.inl ⟨rfl, rfl⟩, ⟨.inl ⟨rfl, rfl⟩, trivial⟩⟩⟩⟩⟩, ⟨⟨.inl ⟨rfl, rfl⟩, ⟨.inl ⟨rfl, rfl⟩, ⟨.inl ⟨rfl, rfl⟩, ⟨.inl ⟨rfl, rfl⟩, ⟨.inl ⟨rfl, rfl⟩, trivial⟩⟩⟩⟩⟩, trivial⟩⟩⟩ rfl (fun b hb => by cases hb) (.inl rfl) (lt_of rfl) ⟨rfl, trivial⟩)] (by kernel_rfl) (by kernel_rfl) ?_
        refine nT ?_
        refine T.seq ?_
        by_cases hq38 : (reckE 7 (reckV 6 (intV x) (intV y)) (intV y)) ≠ 0
        · exact absurd vm.1 hq38
        · refine xR [hY 3 (decide_eq_false hq38),
            hY 4 (decide_eq_false hq38),
            hY 5 (decide_eq_false hq38),
            hY 6 (decide_eq_false hq38),
            hP 7 (decide_eq_false hq38)] (by kernel_rfl) (by kernel_rfl) ?_
          refine nT ?_
          by_cases hq39 : (reckV 7 (reckV 6 (intV x) (intV y)) (intV y)).f_Int ≠ x
          · exact absurd vm.2 hq39
          · refine T.condF (by kernel_rfl) (decide_eq_false hq39) ?_
            refine T.skip ?_
            refine nT ?_
            refine T.seq ?_
            refine xR [hR 2 rfl rfl (r_call (value_ReckonI 7 (intV x) (intV y) (by exact intV_kind _ _) (by assumption) (by assumption)) Try.func20 rfl (by decide) [] [] (l := [(.const (.int .i64 7), dv (.int .i64 7)), (.tmp 81, .tv (.agg [.d (.val (.int .i64 (intV x).f_Kind)), .d (.val (.int .i64 (intV x).f_Int)), .d (.val (.bool (intV x).f_Bool)), .d (.val (strV (intV x).f_Text)), .d (.val (.float .f64 (intV x).f_Num))])), (.tmp 82, .tv (.agg [.d (.val (.int .i64 (intV y).f_Kind)), .d (.val (.int .i64 (intV y).f_Int)), .d (.val (.bool (intV y).f_Bool)), .d (.val (strV (intV y).f_Text)), .d (.val (.float .f64 (intV y).f_Num))]))]) [] rfl 0 0 rfl rfl rfl rfl rfl rfl rfl rfl rfl ⟨.inl ⟨rfl, rfl⟩, ⟨⟨.inl ⟨rfl, rfl⟩, ⟨.inl ⟨rfl, rfl⟩, ⟨.inl ⟨rfl, rfl⟩, ⟨.inl ⟨rfl, rfl⟩, ⟨.inl ⟨rfl, rfl⟩, trivial⟩⟩⟩⟩⟩, ⟨⟨.inl ⟨rfl, rfl⟩, ⟨.inl ⟨rfl, rfl⟩, ⟨.inl ⟨rfl, rfl⟩, ⟨.inl ⟨rfl, rfl⟩, ⟨.inl ⟨rfl, rfl⟩, trivial⟩⟩⟩⟩⟩, trivial⟩⟩⟩ rfl (fun b hb => by cases hb) (.inl rfl) (lt_of rfl) ⟨rfl, trivial⟩)] (by kernel_rfl) (by kernel_rfl) ?_
            refine nT ?_
            refine T.seq ?_
            refine T.seq ?_
            refine xR [] (by kernel_rfl) (by kernel_rfl) ?_
            refine nT ?_
            by_cases hq40 : y = 0
            · refine T.condT (by kernel_rfl) (decide_eq_true hq40) ?_
              refine T.seq ?_
              by_cases hq41 : (reckE 7 (intV x) (intV y)) = 42
              · refine xR [hS 3 (oY rfl rfl rfl rfl (lt_of rfl) (decide_eq_true hq41) (r_call (law_awake  ) Try.func17 rfl (by decide) [] [] (l := []) [] rfl 0 0 rfl rfl rfl rfl rfl rfl rfl rfl rfl trivial rfl (fun b hb => by cases hb) (.inl rfl) (lt_of rfl) trivial)),
                  hP 4 (decide_eq_true hq41)] (by kernel_rfl) (by kernel_rfl) ?_
                refine nT ?_
                refine T.ret ?_
                refine rT ?_
                exact tE (.inl rfl) [.t 4 (.one (.d (.val (.bool true))))] ⟨⟨rfl, by kernel_rfl⟩, trivial⟩ [] rfl rfl rfl rfl rfl rfl trivial
              · exact absurd (reck7_zero (by assumption)) hq41
            · refine T.condF (by kernel_rfl) (decide_eq_false hq40) ?_
              refine T.skip ?_
              refine nT ?_
              refine T.seq ?_
              refine T.seq ?_
              refine xR [] (by kernel_rfl) (by kernel_rfl) ?_
              refine nT ?_
              by_cases hq42 : (reckE 7 (intV x) (intV y)) ≠ 0
              · have vn := reck7_no hx (by assumption) hq42
                refine T.condT (by kernel_rfl) (decide_eq_true hq42) ?_
                refine T.seq ?_
                by_cases hq43 : (reckE 7 (intV x) (intV y)) = 41
                · by_cases hq44 : y = (-1)
                  · refine xR [hY 3 (decide_eq_true hq43),
                      hY 4 (decide_eq_true hq43),
                      hP 5 (decide_eq_true hq43),
                      hS 7 (oY rfl rfl rfl rfl (lt_of rfl) (decide_eq_true hq44) (r_call (law_awake  ) Try.func17 rfl (by decide) [] [] (l := []) [] rfl 0 0 rfl rfl rfl rfl rfl rfl rfl rfl rfl trivial rfl (fun b hb => by cases hb) (.inl rfl) (lt_of rfl) trivial)),
                      hP 8 (decide_eq_true hq44)] (by kernel_rfl) (by kernel_rfl) ?_
                    refine nT ?_
                    refine T.ret ?_
                    refine rT ?_
                    exact tE (.inl rfl) [.t 4 (.one (.d (.val (.bool true))))] ⟨⟨rfl, by kernel_rfl⟩, trivial⟩ [] rfl rfl rfl rfl rfl rfl trivial
                  · exact absurd vn.2 hq44
                · exact absurd vn.1 hq43
              · have vd := vi_div hx (by assumption) hq42
                refine T.condF (by kernel_rfl) (decide_eq_false hq42) ?_
                refine T.skip ?_
                refine nT ?_
                refine T.seq ?_
                refine xR [hR 2 rfl rfl (r_call (value_ReckonI 6 (reckV 7 (intV x) (intV y)) (intV y) (by exact reckV_kind _ _ _ _) (by exact reckV_range (by assumption) (by assumption)) (by assumption)) Try.func20 rfl (by decide) [] [] (l := [(.const (.int .i64 6), dv (.int .i64 6)), (.tmp 105, .tv (.agg [.d (.val (.int .i64 (reckV 7 (intV x) (intV y)).f_Kind)), .d (.val (.int .i64 (reckV 7 (intV x) (intV y)).f_Int)), .d (.val (.bool (reckV 7 (intV x) (intV y)).f_Bool)), .d (.val (strV (reckV 7 (intV x) (intV y)).f_Text)), .d (.val (.float .f64 (reckV 7 (intV x) (intV y)).f_Num))])), (.tmp 106, .tv (.agg [.d (.val (.int .i64 (intV y).f_Kind)), .d (.val (.int .i64 (intV y).f_Int)), .d (.val (.bool (intV y).f_Bool)), .d (.val (strV (intV y).f_Text)), .d (.val (.float .f64 (intV y).f_Num))]))]) [] rfl 0 0 rfl rfl rfl rfl rfl rfl rfl rfl rfl ⟨.inl ⟨rfl, rfl⟩, ⟨⟨.inl ⟨rfl, rfl⟩, ⟨.inl ⟨rfl, rfl⟩, ⟨.inl ⟨rfl, rfl⟩, ⟨.inl ⟨rfl, rfl⟩, ⟨.inl ⟨rfl, rfl⟩, trivial⟩⟩⟩⟩⟩, ⟨⟨.inl ⟨rfl, rfl⟩, ⟨.inl ⟨rfl, rfl⟩, ⟨.inl ⟨rfl, rfl⟩, ⟨.inl ⟨rfl, rfl⟩, ⟨.inl ⟨rfl, rfl⟩, trivial⟩⟩⟩⟩⟩, trivial⟩⟩⟩ rfl (fun b hb => by cases hb) (.inl rfl) (lt_of rfl) ⟨rfl, trivial⟩)] (by kernel_rfl) (by kernel_rfl) ?_
                refine nT ?_
                refine T.seq ?_
                refine xR [hR 2 rfl rfl (r_call (value_ReckonI 5 (intV x) (reckV 6 (reckV 7 (intV x) (intV y)) (intV y)) (by exact intV_kind _ _) (by assumption) (by exact reckV_range (by exact reckV_range (by assumption) (by assumption)) (by assumption))) Try.func20 rfl (by decide) [] [] (l := [(.const (.int .i64 5), dv (.int .i64 5)), (.tmp 111, .tv (.agg [.d (.val (.int .i64 (intV x).f_Kind)), .d (.val (.int .i64 (intV x).f_Int)), .d (.val (.bool (intV x).f_Bool)), .d (.val (strV (intV x).f_Text)), .d (.val (.float .f64 (intV x).f_Num))])), (.tmp 112, .tv (.agg [.d (.val (.int .i64 (reckV 6 (reckV 7 (intV x) (intV y)) (intV y)).f_Kind)), .d (.val (.int .i64 (reckV 6 (reckV 7 (intV x) (intV y)) (intV y)).f_Int)), .d (.val (.bool (reckV 6 (reckV 7 (intV x) (intV y)) (intV y)).f_Bool)), .d (.val (strV (reckV 6 (reckV 7 (intV x) (intV y)) (intV y)).f_Text)), .d (.val (.float .f64 (reckV 6 (reckV 7 (intV x) (intV y)) (intV y)).f_Num))]))]) [] rfl 0 0 rfl rfl rfl rfl rfl rfl rfl rfl rfl ⟨.inl ⟨rfl, rfl⟩, ⟨⟨.inl ⟨rfl, rfl⟩, ⟨.inl ⟨rfl, rfl⟩, ⟨.inl ⟨rfl, rfl⟩, ⟨.inl ⟨rfl, rfl⟩, ⟨.inl ⟨rfl, rfl⟩, trivial⟩⟩⟩⟩⟩, ⟨⟨.inl ⟨rfl, rfl⟩, ⟨.inl ⟨rfl, rfl⟩, ⟨.inl ⟨rfl, rfl⟩, ⟨.inl ⟨rfl, rfl⟩, ⟨.inl ⟨rfl, rfl⟩, trivial⟩⟩⟩⟩⟩, trivial⟩⟩⟩ rfl (fun b hb => by cases hb) (.inl rfl) (lt_of rfl) ⟨rfl, trivial⟩)] (by kernel_rfl) (by kernel_rfl) ?_
                refine nT ?_
                refine T.seq ?_
                by_cases hq45 : (reckE 6 (reckV 7 (intV x) (intV y)) (intV y)) = 0
                · by_cases hq46 : (reckE 5 (intV x) (reckV 6 (reckV 7 (intV x) (intV y)) (intV y))) = 0
                  · by_cases hq47 : (reckV 5 (intV x) (reckV 6 (reckV 7 (intV x) (intV y)) (intV y))).f_Int = 0
                    · refine xR [hY 3 (decide_eq_true hq45),
                        hY 4 (decide_eq_true hq45),
                        hP 5 (decide_eq_true hq45),
                        hY 7 (decide_eq_true hq46),
                        hY 8 (decide_eq_true hq46),
                        hY 9 (decide_eq_true hq46),
                        hY 10 (decide_eq_true hq46),
                        hN 11 false (decide_eq_true hq47),
                        hN 12 false (decide_eq_true hq47),
                        hN 13 false (decide_eq_true hq47),
                        hN 14 false (decide_eq_true hq47),
                        hN 15 false (decide_eq_true hq47),
                        hN 16 false (decide_eq_true hq47),
                        hS 17 (oY rfl rfl rfl rfl (lt_of rfl) (decide_eq_true hq46) (r_pickT (b := (decide ((reckV 5 (intV x) (reckV 6 (reckV 7 (intV x) (intV y)) (intV y))).f_Int = 0))) (av := dv (.bool true)) (lt_of rfl) ⟨rfl, trivial⟩ (decide_eq_true hq47))),
                        hP 18 (decide_eq_true hq46),
                        hS 20 (oY (b := true) rfl rfl rfl rfl (lt_of rfl) rfl (r_call (law_awake  ) Try.func17 rfl (by decide) [] [] (l := []) [] rfl 0 0 rfl rfl rfl rfl rfl rfl rfl rfl rfl trivial rfl (fun b hb => by cases hb) (.inl rfl) (lt_of rfl) trivial)),
                        hP 21 (b := true) (w := true) rfl] (by kernel_rfl) (by kernel_rfl) ?_
                      refine nT ?_
                      refine T.ret ?_
                      exact tE (.inl rfl) [.t 4 (.one (.d (.val (.bool true))))] ⟨⟨rfl, by kernel_rfl⟩, trivial⟩ [] rfl rfl rfl rfl rfl rfl trivial
                    · by_cases hq48 : (decide ((reckV 5 (intV x) (reckV 6 (reckV 7 (intV x) (intV y)) (intV y))).f_Int < 0)) = (decide (x < 0))
                      · refine xR [hY 3 (decide_eq_true hq45),
                          hY 4 (decide_eq_true hq45),
                          hP 5 (decide_eq_true hq45),
                          hY 7 (decide_eq_true hq46),
                          hY 8 (decide_eq_true hq46),
                          hY 9 (decide_eq_true hq46),
                          hY 10 (decide_eq_true hq46),
                          hY 11 (decide_eq_false hq47),
                          hY 12 (decide_eq_false hq47),
                          hY 13 (decide_eq_false hq47),
                          hY 14 (decide_eq_false hq47),
                          hY 15 (decide_eq_false hq47),
                          hY 16 (decide_eq_false hq47),
                          hS 17 (oY rfl rfl rfl rfl (lt_of rfl) (decide_eq_true hq46) (r_pickF (b := (decide ((reckV 5 (intV x) (reckV 6 (reckV 7 (intV x) (intV y)) (intV y))).f_Int = 0))) (av := dv (.bool (decide ((decide ((reckV 5 (intV x) (reckV 6 (reckV 7 (intV x) (intV y)) (intV y))).f_Int < 0)) = (decide (x < 0)))))) (lt_of rfl) trivial (decide_eq_false hq47))),
                          hP 18 (decide_eq_true hq46),
                          hS 20 (oY rfl rfl rfl rfl (lt_of rfl) (decide_eq_true hq48) (r_call (law_awake  ) Try.func17 rfl (by decide) [] [] (l := []) [] rfl 0 0 rfl rfl rfl rfl rfl rfl rfl rfl rfl trivial rfl (fun b hb => by cases hb) (.inl rfl) (lt_of rfl) trivial)),
                          hP 21 (decide_eq_true hq48)] (by kernel_rfl) (by kernel_rfl) ?_
                        refine nT ?_
                        refine T.ret ?_
                        exact tE (.inl rfl) [.t 4 (.one (.d (.val (.bool true))))] ⟨⟨rfl, by kernel_rfl⟩, trivial⟩ [] rfl rfl rfl rfl rfl rfl trivial
                      · exact absurd (decide_eq_decide.2 (vd.2.2.resolve_left (by assumption))) hq48
                  · exact absurd vd.2.1 hq46
                · exact absurd vd.1 hq45
      · refine T.condF (by kernel_rfl) (decide_eq_false hq37) ?_
        refine T.skip ?_
        refine nT ?_
        refine T.seq ?_
        refine xR [hR 2 rfl rfl (r_call (value_ReckonI 7 (intV x) (intV y) (by exact intV_kind _ _) (by assumption) (by assumption)) Try.func20 rfl (by decide) [] [] (l := [(.const (.int .i64 7), dv (.int .i64 7)), (.tmp 81, .tv (.agg [.d (.val (.int .i64 (intV x).f_Kind)), .d (.val (.int .i64 (intV x).f_Int)), .d (.val (.bool (intV x).f_Bool)), .d (.val (strV (intV x).f_Text)), .d (.val (.float .f64 (intV x).f_Num))])), (.tmp 82, .tv (.agg [.d (.val (.int .i64 (intV y).f_Kind)), .d (.val (.int .i64 (intV y).f_Int)), .d (.val (.bool (intV y).f_Bool)), .d (.val (strV (intV y).f_Text)), .d (.val (.float .f64 (intV y).f_Num))]))]) [] rfl 0 0 rfl rfl rfl rfl rfl rfl rfl rfl rfl ⟨.inl ⟨rfl, rfl⟩, ⟨⟨.inl ⟨rfl, rfl⟩, ⟨.inl ⟨rfl, rfl⟩, ⟨.inl ⟨rfl, rfl⟩, ⟨.inl ⟨rfl, rfl⟩, ⟨.inl ⟨rfl, rfl⟩, trivial⟩⟩⟩⟩⟩, ⟨⟨.inl ⟨rfl, rfl⟩, ⟨.inl ⟨rfl, rfl⟩, ⟨.inl ⟨rfl, rfl⟩, ⟨.inl ⟨rfl, rfl⟩, ⟨.inl ⟨rfl, rfl⟩, trivial⟩⟩⟩⟩⟩, trivial⟩⟩⟩ rfl (fun b hb => by cases hb) (.inl rfl) (lt_of rfl) ⟨rfl, trivial⟩)] (by kernel_rfl) (by kernel_rfl) ?_
        refine nT ?_
        refine T.seq ?_
        refine T.seq ?_
        refine xR [] (by kernel_rfl) (by kernel_rfl) ?_
        refine nT ?_
        by_cases hq49 : y = 0
        · refine T.condT (by kernel_rfl) (decide_eq_true hq49) ?_
          refine T.seq ?_
          by_cases hq50 : (reckE 7 (intV x) (intV y)) = 42
          · refine xR [hS 3 (oY rfl rfl rfl rfl (lt_of rfl) (decide_eq_true hq50) (r_call (law_awake  ) Try.func17 rfl (by decide) [] [] (l := []) [] rfl 0 0 rfl rfl rfl rfl rfl rfl rfl rfl rfl trivial rfl (fun b hb => by cases hb) (.inl rfl) (lt_of rfl) trivial)),
              hP 4 (decide_eq_true hq50)] (by kernel_rfl) (by kernel_rfl) ?_
            refine nT ?_
            refine T.ret ?_
            refine rT ?_
            exact tE (.inl rfl) [.t 4 (.one (.d (.val (.bool true))))] ⟨⟨rfl, by kernel_rfl⟩, trivial⟩ [] rfl rfl rfl rfl rfl rfl trivial
          · exact absurd (reck7_zero (by assumption)) hq50
        · refine T.condF (by kernel_rfl) (decide_eq_false hq49) ?_
          refine T.skip ?_
          refine nT ?_
          refine T.seq ?_
          refine T.seq ?_
          refine xR [] (by kernel_rfl) (by kernel_rfl) ?_
          refine nT ?_
          by_cases hq51 : (reckE 7 (intV x) (intV y)) ≠ 0
          · have vn := reck7_no hx (by assumption) hq51
            refine T.condT (by kernel_rfl) (decide_eq_true hq51) ?_
            refine T.seq ?_
            by_cases hq52 : (reckE 7 (intV x) (intV y)) = 41
            · by_cases hq53 : y = (-1)
              · refine xR [hY 3 (decide_eq_true hq52),
                  hY 4 (decide_eq_true hq52),
                  hP 5 (decide_eq_true hq52),
                  hS 7 (oY rfl rfl rfl rfl (lt_of rfl) (decide_eq_true hq53) (r_call (law_awake  ) Try.func17 rfl (by decide) [] [] (l := []) [] rfl 0 0 rfl rfl rfl rfl rfl rfl rfl rfl rfl trivial rfl (fun b hb => by cases hb) (.inl rfl) (lt_of rfl) trivial)),
                  hP 8 (decide_eq_true hq53)] (by kernel_rfl) (by kernel_rfl) ?_
                refine nT ?_
                refine T.ret ?_
                refine rT ?_
                exact tE (.inl rfl) [.t 4 (.one (.d (.val (.bool true))))] ⟨⟨rfl, by kernel_rfl⟩, trivial⟩ [] rfl rfl rfl rfl rfl rfl trivial
              · exact absurd vn.2 hq53
            · exact absurd vn.1 hq52
          · have vd := vi_div hx (by assumption) hq51
            refine T.condF (by kernel_rfl) (decide_eq_false hq51) ?_
            refine T.skip ?_
            refine nT ?_
            refine T.seq ?_
            refine xR [hR 2 rfl rfl (r_call (value_ReckonI 6 (reckV 7 (intV x) (intV y)) (intV y) (by exact reckV_kind _ _ _ _) (by exact reckV_range (by assumption) (by assumption)) (by assumption)) Try.func20 rfl (by decide) [] [] (l := [(.const (.int .i64 6), dv (.int .i64 6)), (.tmp 105, .tv (.agg [.d (.val (.int .i64 (reckV 7 (intV x) (intV y)).f_Kind)), .d (.val (.int .i64 (reckV 7 (intV x) (intV y)).f_Int)), .d (.val (.bool (reckV 7 (intV x) (intV y)).f_Bool)), .d (.val (strV (reckV 7 (intV x) (intV y)).f_Text)), .d (.val (.float .f64 (reckV 7 (intV x) (intV y)).f_Num))])), (.tmp 106, .tv (.agg [.d (.val (.int .i64 (intV y).f_Kind)), .d (.val (.int .i64 (intV y).f_Int)), .d (.val (.bool (intV y).f_Bool)), .d (.val (strV (intV y).f_Text)), .d (.val (.float .f64 (intV y).f_Num))]))]) [] rfl 0 0 rfl rfl rfl rfl rfl rfl rfl rfl rfl ⟨.inl ⟨rfl, rfl⟩, ⟨⟨.inl ⟨rfl, rfl⟩, ⟨.inl ⟨rfl, rfl⟩, ⟨.inl ⟨rfl, rfl⟩, ⟨.inl ⟨rfl, rfl⟩, ⟨.inl ⟨rfl, rfl⟩, trivial⟩⟩⟩⟩⟩, ⟨⟨.inl ⟨rfl, rfl⟩, ⟨.inl ⟨rfl, rfl⟩, ⟨.inl ⟨rfl, rfl⟩, ⟨.inl ⟨rfl, rfl⟩, ⟨.inl ⟨rfl, rfl⟩, trivial⟩⟩⟩⟩⟩, trivial⟩⟩⟩ rfl (fun b hb => by cases hb) (.inl rfl) (lt_of rfl) ⟨rfl, trivial⟩)] (by kernel_rfl) (by kernel_rfl) ?_
            refine nT ?_
            refine T.seq ?_
            refine xR [hR 2 rfl rfl (r_call (value_ReckonI 5 (intV x) (reckV 6 (reckV 7 (intV x) (intV y)) (intV y)) (by exact intV_kind _ _) (by assumption) (by exact reckV_range (by exact reckV_range (by assumption) (by assumption)) (by assumption))) Try.func20 rfl (by decide) [] [] (l := [(.const (.int .i64 5), dv (.int .i64 5)), (.tmp 111, .tv (.agg [.d (.val (.int .i64 (intV x).f_Kind)), .d (.val (.int .i64 (intV x).f_Int)), .d (.val (.bool (intV x).f_Bool)), .d (.val (strV (intV x).f_Text)), .d (.val (.float .f64 (intV x).f_Num))])), (.tmp 112, .tv (.agg [.d (.val (.int .i64 (reckV 6 (reckV 7 (intV x) (intV y)) (intV y)).f_Kind)), .d (.val (.int .i64 (reckV 6 (reckV 7 (intV x) (intV y)) (intV y)).f_Int)), .d (.val (.bool (reckV 6 (reckV 7 (intV x) (intV y)) (intV y)).f_Bool)), .d (.val (strV (reckV 6 (reckV 7 (intV x) (intV y)) (intV y)).f_Text)), .d (.val (.float .f64 (reckV 6 (reckV 7 (intV x) (intV y)) (intV y)).f_Num))]))]) [] rfl 0 0 rfl rfl rfl rfl rfl rfl rfl rfl rfl ⟨.inl ⟨rfl, rfl⟩, ⟨⟨.inl ⟨rfl, rfl⟩, ⟨.inl ⟨rfl, rfl⟩, ⟨.inl ⟨rfl, rfl⟩, ⟨.inl ⟨rfl, rfl⟩, ⟨.inl ⟨rfl, rfl⟩, trivial⟩⟩⟩⟩⟩, ⟨⟨.inl ⟨rfl, rfl⟩, ⟨.inl ⟨rfl, rfl⟩, ⟨.inl ⟨rfl, rfl⟩, ⟨.inl ⟨rfl, rfl⟩, ⟨.inl ⟨rfl, rfl⟩, trivial⟩⟩⟩⟩⟩, trivial⟩⟩⟩ rfl (fun b hb => by cases hb) (.inl rfl) (lt_of rfl) ⟨rfl, trivial⟩)] (by kernel_rfl) (by kernel_rfl) ?_
            refine nT ?_
            refine T.seq ?_
            by_cases hq54 : (reckE 6 (reckV 7 (intV x) (intV y)) (intV y)) = 0
            · by_cases hq55 : (reckE 5 (intV x) (reckV 6 (reckV 7 (intV x) (intV y)) (intV y))) = 0
              · by_cases hq56 : (reckV 5 (intV x) (reckV 6 (reckV 7 (intV x) (intV y)) (intV y))).f_Int = 0
                · refine xR [hY 3 (decide_eq_true hq54),
                    hY 4 (decide_eq_true hq54),
                    hP 5 (decide_eq_true hq54),
                    hY 7 (decide_eq_true hq55),
                    hY 8 (decide_eq_true hq55),
                    hY 9 (decide_eq_true hq55),
                    hY 10 (decide_eq_true hq55),
                    hN 11 false (decide_eq_true hq56),
                    hN 12 false (decide_eq_true hq56),
                    hN 13 false (decide_eq_true hq56),
                    hN 14 false (decide_eq_true hq56),
                    hN 15 false (decide_eq_true hq56),
                    hN 16 false (decide_eq_true hq56),
                    hS 17 (oY rfl rfl rfl rfl (lt_of rfl) (decide_eq_true hq55) (r_pickT (b := (decide ((reckV 5 (intV x) (reckV 6 (reckV 7 (intV x) (intV y)) (intV y))).f_Int = 0))) (av := dv (.bool true)) (lt_of rfl) ⟨rfl, trivial⟩ (decide_eq_true hq56))),
                    hP 18 (decide_eq_true hq55),
                    hS 20 (oY (b := true) rfl rfl rfl rfl (lt_of rfl) rfl (r_call (law_awake  ) Try.func17 rfl (by decide) [] [] (l := []) [] rfl 0 0 rfl rfl rfl rfl rfl rfl rfl rfl rfl trivial rfl (fun b hb => by cases hb) (.inl rfl) (lt_of rfl) trivial)),
                    hP 21 (b := true) (w := true) rfl] (by kernel_rfl) (by kernel_rfl) ?_
                  refine nT ?_
                  refine T.ret ?_
                  exact tE (.inl rfl) [.t 4 (.one (.d (.val (.bool true))))] ⟨⟨rfl, by kernel_rfl⟩, trivial⟩ [] rfl rfl rfl rfl rfl rfl trivial
                · by_cases hq57 : (decide ((reckV 5 (intV x) (reckV 6 (reckV 7 (intV x) (intV y)) (intV y))).f_Int < 0)) = (decide (x < 0))
                  · refine xR [hY 3 (decide_eq_true hq54),
                      hY 4 (decide_eq_true hq54),
                      hP 5 (decide_eq_true hq54),
                      hY 7 (decide_eq_true hq55),
                      hY 8 (decide_eq_true hq55),
                      hY 9 (decide_eq_true hq55),
                      hY 10 (decide_eq_true hq55),
                      hY 11 (decide_eq_false hq56),
                      hY 12 (decide_eq_false hq56),
                      hY 13 (decide_eq_false hq56),
                      hY 14 (decide_eq_false hq56),
                      hY 15 (decide_eq_false hq56),
                      hY 16 (decide_eq_false hq56),
                      hS 17 (oY rfl rfl rfl rfl (lt_of rfl) (decide_eq_true hq55) (r_pickF (b := (decide ((reckV 5 (intV x) (reckV 6 (reckV 7 (intV x) (intV y)) (intV y))).f_Int = 0))) (av := dv (.bool (decide ((decide ((reckV 5 (intV x) (reckV 6 (reckV 7 (intV x) (intV y)) (intV y))).f_Int < 0)) = (decide (x < 0)))))) (lt_of rfl) trivial (decide_eq_false hq56))),
                      hP 18 (decide_eq_true hq55),
                      hS 20 (oY rfl rfl rfl rfl (lt_of rfl) (decide_eq_true hq57) (r_call (law_awake  ) Try.func17 rfl (by decide) [] [] (l := []) [] rfl 0 0 rfl rfl rfl rfl rfl rfl rfl rfl rfl trivial rfl (fun b hb => by cases hb) (.inl rfl) (lt_of rfl) trivial)),
                      hP 21 (decide_eq_true hq57)] (by kernel_rfl) (by kernel_rfl) ?_
                    refine nT ?_
                    refine T.ret ?_
                    exact tE (.inl rfl) [.t 4 (.one (.d (.val (.bool true))))] ⟨⟨rfl, by kernel_rfl⟩, trivial⟩ [] rfl rfl rfl rfl rfl rfl trivial
                  · exact absurd (decide_eq_decide.2 (vd.2.2.resolve_left (by assumption))) hq57
              · exact absurd vd.2.1 hq55
            · exact absurd vd.1 hq54
    · refine xR [hN 3 true (decide_eq_false hq36),
        hN 4 true (decide_eq_false hq36),
        hP 5 (decide_eq_false hq36)] (by kernel_rfl) (by kernel_rfl) ?_
      refine nT ?_
      refine T.condF (b := false) (by kernel_rfl) rfl ?_
      refine T.skip ?_
      refine nT ?_
      refine T.seq ?_
      refine xR [hR 2 rfl rfl (r_call (value_ReckonI 7 (intV x) (intV y) (by exact intV_kind _ _) (by assumption) (by assumption)) Try.func20 rfl (by decide) [] [] (l := [(.const (.int .i64 7), dv (.int .i64 7)), (.tmp 81, .tv (.agg [.d (.val (.int .i64 (intV x).f_Kind)), .d (.val (.int .i64 (intV x).f_Int)), .d (.val (.bool (intV x).f_Bool)), .d (.val (strV (intV x).f_Text)), .d (.val (.float .f64 (intV x).f_Num))])), (.tmp 82, .tv (.agg [.d (.val (.int .i64 (intV y).f_Kind)), .d (.val (.int .i64 (intV y).f_Int)), .d (.val (.bool (intV y).f_Bool)), .d (.val (strV (intV y).f_Text)), .d (.val (.float .f64 (intV y).f_Num))]))]) [] rfl 0 0 rfl rfl rfl rfl rfl rfl rfl rfl rfl ⟨.inl ⟨rfl, rfl⟩, ⟨⟨.inl ⟨rfl, rfl⟩, ⟨.inl ⟨rfl, rfl⟩, ⟨.inl ⟨rfl, rfl⟩, ⟨.inl ⟨rfl, rfl⟩, ⟨.inl ⟨rfl, rfl⟩, trivial⟩⟩⟩⟩⟩, ⟨⟨.inl ⟨rfl, rfl⟩, ⟨.inl ⟨rfl, rfl⟩, ⟨.inl ⟨rfl, rfl⟩, ⟨.inl ⟨rfl, rfl⟩, ⟨.inl ⟨rfl, rfl⟩, trivial⟩⟩⟩⟩⟩, trivial⟩⟩⟩ rfl (fun b hb => by cases hb) (.inl rfl) (lt_of rfl) ⟨rfl, trivial⟩)] (by kernel_rfl) (by kernel_rfl) ?_
      refine nT ?_
      refine T.seq ?_
      refine T.seq ?_
      refine xR [] (by kernel_rfl) (by kernel_rfl) ?_
      refine nT ?_
      by_cases hq58 : y = 0
      · refine T.condT (by kernel_rfl) (decide_eq_true hq58) ?_
        refine T.seq ?_
        by_cases hq59 : (reckE 7 (intV x) (intV y)) = 42
        · refine xR [hS 3 (oY rfl rfl rfl rfl (lt_of rfl) (decide_eq_true hq59) (r_call (law_awake  ) Try.func17 rfl (by decide) [] [] (l := []) [] rfl 0 0 rfl rfl rfl rfl rfl rfl rfl rfl rfl trivial rfl (fun b hb => by cases hb) (.inl rfl) (lt_of rfl) trivial)),
            hP 4 (decide_eq_true hq59)] (by kernel_rfl) (by kernel_rfl) ?_
          refine nT ?_
          refine T.ret ?_
          refine rT ?_
          exact tE (.inl rfl) [.t 4 (.one (.d (.val (.bool true))))] ⟨⟨rfl, by kernel_rfl⟩, trivial⟩ [] rfl rfl rfl rfl rfl rfl trivial
        · exact absurd (reck7_zero (by assumption)) hq59
      · refine T.condF (by kernel_rfl) (decide_eq_false hq58) ?_
        refine T.skip ?_
        refine nT ?_
        refine T.seq ?_
        refine T.seq ?_
        refine xR [] (by kernel_rfl) (by kernel_rfl) ?_
        refine nT ?_
        by_cases hq60 : (reckE 7 (intV x) (intV y)) ≠ 0
        · have vn := reck7_no hx (by assumption) hq60
          refine T.condT (by kernel_rfl) (decide_eq_true hq60) ?_
          refine T.seq ?_
          by_cases hq61 : (reckE 7 (intV x) (intV y)) = 41
          · by_cases hq62 : y = (-1)
            · refine xR [hY 3 (decide_eq_true hq61),
                hY 4 (decide_eq_true hq61),
                hP 5 (decide_eq_true hq61),
                hS 7 (oY rfl rfl rfl rfl (lt_of rfl) (decide_eq_true hq62) (r_call (law_awake  ) Try.func17 rfl (by decide) [] [] (l := []) [] rfl 0 0 rfl rfl rfl rfl rfl rfl rfl rfl rfl trivial rfl (fun b hb => by cases hb) (.inl rfl) (lt_of rfl) trivial)),
                hP 8 (decide_eq_true hq62)] (by kernel_rfl) (by kernel_rfl) ?_
              refine nT ?_
              refine T.ret ?_
              refine rT ?_
              exact tE (.inl rfl) [.t 4 (.one (.d (.val (.bool true))))] ⟨⟨rfl, by kernel_rfl⟩, trivial⟩ [] rfl rfl rfl rfl rfl rfl trivial
            · exact absurd vn.2 hq62
          · exact absurd vn.1 hq61
        · have vd := vi_div hx (by assumption) hq60
          refine T.condF (by kernel_rfl) (decide_eq_false hq60) ?_
          refine T.skip ?_
          refine nT ?_
          refine T.seq ?_
          refine xR [hR 2 rfl rfl (r_call (value_ReckonI 6 (reckV 7 (intV x) (intV y)) (intV y) (by exact reckV_kind _ _ _ _) (by exact reckV_range (by assumption) (by assumption)) (by assumption)) Try.func20 rfl (by decide) [] [] (l := [(.const (.int .i64 6), dv (.int .i64 6)), (.tmp 105, .tv (.agg [.d (.val (.int .i64 (reckV 7 (intV x) (intV y)).f_Kind)), .d (.val (.int .i64 (reckV 7 (intV x) (intV y)).f_Int)), .d (.val (.bool (reckV 7 (intV x) (intV y)).f_Bool)), .d (.val (strV (reckV 7 (intV x) (intV y)).f_Text)), .d (.val (.float .f64 (reckV 7 (intV x) (intV y)).f_Num))])), (.tmp 106, .tv (.agg [.d (.val (.int .i64 (intV y).f_Kind)), .d (.val (.int .i64 (intV y).f_Int)), .d (.val (.bool (intV y).f_Bool)), .d (.val (strV (intV y).f_Text)), .d (.val (.float .f64 (intV y).f_Num))]))]) [] rfl 0 0 rfl rfl rfl rfl rfl rfl rfl rfl rfl ⟨.inl ⟨rfl, rfl⟩, ⟨⟨.inl ⟨rfl, rfl⟩, ⟨.inl ⟨rfl, rfl⟩, ⟨.inl ⟨rfl, rfl⟩, ⟨.inl ⟨rfl, rfl⟩, ⟨.inl ⟨rfl, rfl⟩, trivial⟩⟩⟩⟩⟩, ⟨⟨.inl ⟨rfl, rfl⟩, ⟨.inl ⟨rfl, rfl⟩, ⟨.inl ⟨rfl, rfl⟩, ⟨.inl ⟨rfl, rfl⟩, ⟨.inl ⟨rfl, rfl⟩, trivial⟩⟩⟩⟩⟩, trivial⟩⟩⟩ rfl (fun b hb => by cases hb) (.inl rfl) (lt_of rfl) ⟨rfl, trivial⟩)] (by kernel_rfl) (by kernel_rfl) ?_
          refine nT ?_
          refine T.seq ?_
          refine xR [hR 2 rfl rfl (r_call (value_ReckonI 5 (intV x) (reckV 6 (reckV 7 (intV x) (intV y)) (intV y)) (by exact intV_kind _ _) (by assumption) (by exact reckV_range (by exact reckV_range (by assumption) (by assumption)) (by assumption))) Try.func20 rfl (by decide) [] [] (l := [(.const (.int .i64 5), dv (.int .i64 5)), (.tmp 111, .tv (.agg [.d (.val (.int .i64 (intV x).f_Kind)), .d (.val (.int .i64 (intV x).f_Int)), .d (.val (.bool (intV x).f_Bool)), .d (.val (strV (intV x).f_Text)), .d (.val (.float .f64 (intV x).f_Num))])), (.tmp 112, .tv (.agg [.d (.val (.int .i64 (reckV 6 (reckV 7 (intV x) (intV y)) (intV y)).f_Kind)), .d (.val (.int .i64 (reckV 6 (reckV 7 (intV x) (intV y)) (intV y)).f_Int)), .d (.val (.bool (reckV 6 (reckV 7 (intV x) (intV y)) (intV y)).f_Bool)), .d (.val (strV (reckV 6 (reckV 7 (intV x) (intV y)) (intV y)).f_Text)), .d (.val (.float .f64 (reckV 6 (reckV 7 (intV x) (intV y)) (intV y)).f_Num))]))]) [] rfl 0 0 rfl rfl rfl rfl rfl rfl rfl rfl rfl ⟨.inl ⟨rfl, rfl⟩, ⟨⟨.inl ⟨rfl, rfl⟩, ⟨.inl ⟨rfl, rfl⟩, ⟨.inl ⟨rfl, rfl⟩, ⟨.inl ⟨rfl, rfl⟩, ⟨.inl ⟨rfl, rfl⟩, trivial⟩⟩⟩⟩⟩, ⟨⟨.inl ⟨rfl, rfl⟩, ⟨.inl ⟨rfl, rfl⟩, ⟨.inl ⟨rfl, rfl⟩, ⟨.inl ⟨rfl, rfl⟩, ⟨.inl ⟨rfl, rfl⟩, trivial⟩⟩⟩⟩⟩, trivial⟩⟩⟩ rfl (fun b hb => by cases hb) (.inl rfl) (lt_of rfl) ⟨rfl, trivial⟩)] (by kernel_rfl) (by kernel_rfl) ?_
          refine nT ?_
          refine T.seq ?_
          by_cases hq63 : (reckE 6 (reckV 7 (intV x) (intV y)) (intV y)) = 0
          · by_cases hq64 : (reckE 5 (intV x) (reckV 6 (reckV 7 (intV x) (intV y)) (intV y))) = 0
            · by_cases hq65 : (reckV 5 (intV x) (reckV 6 (reckV 7 (intV x) (intV y)) (intV y))).f_Int = 0
              · refine xR [hY 3 (decide_eq_true hq63),
                  hY 4 (decide_eq_true hq63),
                  hP 5 (decide_eq_true hq63),
                  hY 7 (decide_eq_true hq64),
                  hY 8 (decide_eq_true hq64),
                  hY 9 (decide_eq_true hq64),
                  hY 10 (decide_eq_true hq64),
                  hN 11 false (decide_eq_true hq65),
                  hN 12 false (decide_eq_true hq65),
                  hN 13 false (decide_eq_true hq65),
                  hN 14 false (decide_eq_true hq65),
                  hN 15 false (decide_eq_true hq65),
                  hN 16 false (decide_eq_true hq65),
                  hS 17 (oY rfl rfl rfl rfl (lt_of rfl) (decide_eq_true hq64) (r_pickT (b := (decide ((reckV 5 (intV x) (reckV 6 (reckV 7 (intV x) (intV y)) (intV y))).f_Int = 0))) (av := dv (.bool true)) (lt_of rfl) ⟨rfl, trivial⟩ (decide_eq_true hq65))),
                  hP 18 (decide_eq_true hq64),
                  hS 20 (oY (b := true) rfl rfl rfl rfl (lt_of rfl) rfl (r_call (law_awake  ) Try.func17 rfl (by decide) [] [] (l := []) [] rfl 0 0 rfl rfl rfl rfl rfl rfl rfl rfl rfl trivial rfl (fun b hb => by cases hb) (.inl rfl) (lt_of rfl) trivial)),
                  hP 21 (b := true) (w := true) rfl] (by kernel_rfl) (by kernel_rfl) ?_
                refine nT ?_
                refine T.ret ?_
                exact tE (.inl rfl) [.t 4 (.one (.d (.val (.bool true))))] ⟨⟨rfl, by kernel_rfl⟩, trivial⟩ [] rfl rfl rfl rfl rfl rfl trivial
              · by_cases hq66 : (decide ((reckV 5 (intV x) (reckV 6 (reckV 7 (intV x) (intV y)) (intV y))).f_Int < 0)) = (decide (x < 0))
                · refine xR [hY 3 (decide_eq_true hq63),
                    hY 4 (decide_eq_true hq63),
                    hP 5 (decide_eq_true hq63),
                    hY 7 (decide_eq_true hq64),
                    hY 8 (decide_eq_true hq64),
                    hY 9 (decide_eq_true hq64),
                    hY 10 (decide_eq_true hq64),
                    hY 11 (decide_eq_false hq65),
                    hY 12 (decide_eq_false hq65),
                    hY 13 (decide_eq_false hq65),
                    hY 14 (decide_eq_false hq65),
                    hY 15 (decide_eq_false hq65),
                    hY 16 (decide_eq_false hq65),
                    hS 17 (oY rfl rfl rfl rfl (lt_of rfl) (decide_eq_true hq64) (r_pickF (b := (decide ((reckV 5 (intV x) (reckV 6 (reckV 7 (intV x) (intV y)) (intV y))).f_Int = 0))) (av := dv (.bool (decide ((decide ((reckV 5 (intV x) (reckV 6 (reckV 7 (intV x) (intV y)) (intV y))).f_Int < 0)) = (decide (x < 0)))))) (lt_of rfl) trivial (decide_eq_false hq65))),
                    hP 18 (decide_eq_true hq64),
                    hS 20 (oY rfl rfl rfl rfl (lt_of rfl) (decide_eq_true hq66) (r_call (law_awake  ) Try.func17 rfl (by decide) [] [] (l := []) [] rfl 0 0 rfl rfl rfl rfl rfl rfl rfl rfl rfl trivial rfl (fun b hb => by cases hb) (.inl rfl) (lt_of rfl) trivial)),
                    hP 21 (decide_eq_true hq66)] (by kernel_rfl) (by kernel_rfl) ?_
                  refine nT ?_
                  refine T.ret ?_
                  exact tE (.inl rfl) [.t 4 (.one (.d (.val (.bool true))))] ⟨⟨rfl, by kernel_rfl⟩, trivial⟩ [] rfl rfl rfl rfl rfl rfl trivial
                · exact absurd (decide_eq_decide.2 (vd.2.2.resolve_left (by assumption))) hq66
            · exact absurd vd.2.1 hq64
          · exact absurd vd.1 hq63
end Go.Proofs.Ytlabmehgcfgigaa.Q
