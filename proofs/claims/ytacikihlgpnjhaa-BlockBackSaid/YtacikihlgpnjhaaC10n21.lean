import Derived.Test.YtacikihlgpnjhaaC10n20
namespace Go.Proofs.Ytacikihlgpnjhaa.Q
open Go Go.RowKit
set_option linter.unusedVariables false
set_option linter.unusedSimpArgs false
set_option maxRecDepth 100000
set_option maxHeartbeats 4000000
-- quaestor/quaestorlaw10.BlockBack
theorem law_BlockBack (b : api_Block) (tx : Bool) (nx : Bool) (x : List UInt8) (hq : b.f_Requests.length ≤ 9223372036854775807) (hr : b.f_Results.length ≤ 9223372036854775807) (hrg : rangeB b) : Holds Try.prog 7 ⟨[.tv (.agg [.d (.val (.int .i64 b.f_Height)), .d (.val (strV b.f_Prev)), .d (dsl false false (k_api_Envelope false) b.f_Requests), .d (dsl false false (k_api_Result false) b.f_Results)]), slV tx nx kU8 x], [], dv (.bool true), []⟩ := by
  refine Holds.of Try.func7 rfl (N := 55) Try.ntmps7 rfl fun w0 B0 S0 U0 => ?_
  show T _ (mkBase 55 0 w0 S0 U0 B0) ⟨[.tv (.agg [.d (.val (.int .i64 b.f_Height)), .d (.val (strV b.f_Prev)), .d (dsl false false (k_api_Envelope false) b.f_Requests), .d (dsl false false (k_api_Result false) b.f_Results)]), slV tx nx kU8 x], []⟩ _ _
  refine T.seq ?_
  refine xR [] (by kernel_rfl) (by kernel_rfl) ?_
  refine nT ?_
  refine T.seq ?_
  refine T.seq ?_
  by_cases hq1 : smallB b
  · have hfb := hq1.1; have hf1b := hfb.1.1; have hf2b := hfb.2.1; have hfhb := head_few hfb; have hg1b := hfhb.1; have hg2b := hfhb.2.1; have hg3b := hfhb.2.2; have hbk := back10 hfb hrg; have hfw := few_wide hfb; have hpl := put_len hfw
    refine xR [hR 1 rfl rfl (r_call (law_Few false b (by first | assumption | omega | (unfold maxLen; omega) | (simp [maxLen, -List.getD_eq_getElem?_getD] <;> omega) | decide) (by first | assumption | omega | (unfold maxLen; omega) | (simp [maxLen, -List.getD_eq_getElem?_getD] <;> omega) | decide)) Try.func8 rfl (by decide) [] [] (l := [(.tmp 9, .tv (.agg [.d (.val (.int .i64 b.f_Height)), .d (.val (strV b.f_Prev)), .d (dsl false false (k_api_Envelope false) b.f_Requests), .d (dsl false false (k_api_Result false) b.f_Results)]))]) [] rfl 0 0 rfl rfl rfl rfl rfl rfl rfl rfl rfl ⟨⟨.inl ⟨rfl, rfl⟩, ⟨.inl ⟨rfl, rfl⟩, ⟨.inl ⟨rfl, rfl⟩, ⟨.inl ⟨rfl, rfl⟩, trivial⟩⟩⟩⟩, trivial⟩ rfl (fun b hb => by cases hb) (.inl rfl) (lt_of rfl) trivial),
      hY 4 (congrArg Bool.not (decide_eq_true hq1)),
      hY 5 (congrArg Bool.not (decide_eq_true hq1)),
      hY 6 (congrArg Bool.not (decide_eq_true hq1)),
      hP 7 (congrArg Bool.not (decide_eq_true hq1))] (by kernel_rfl) (by kernel_rfl) ?_
    refine nT ?_
    by_cases hq2 : ((x.length : Nat) : Int) > 10000
    · refine T.condT (by kernel_rfl) (decide_eq_true hq2) ?_
      refine T.seq ?_
      refine xR [] (by kernel_rfl) (by kernel_rfl) ?_
      refine nT ?_
      refine T.ret ?_
      refine rT ?_
      exact tE (.inl rfl) [.t 4 (.one (.d (.val (.bool true))))] ⟨⟨rfl, by kernel_rfl⟩, trivial⟩ [] rfl rfl rfl rfl rfl rfl trivial
    · have hgw := get_wide (x := x) (by omega); have hpg := put_len hgw
      refine T.condF (by kernel_rfl) (decide_eq_false hq2) ?_
      refine T.skip ?_
      refine nT ?_
      refine T.seq ?_
      refine xR [hR 1 rfl rfl (r_call (block_Put false b (by first | assumption | exact few_wide (by assumption) | decide)) Try.func27 rfl (by decide) [] [] (l := [(.tmp 18, .tv (.agg [.d (.val (.int .i64 b.f_Height)), .d (.val (strV b.f_Prev)), .d (dsl false false (k_api_Envelope false) b.f_Requests), .d (dsl false false (k_api_Result false) b.f_Results)]))]) [] rfl 0 0 rfl rfl rfl rfl rfl rfl rfl rfl rfl ⟨⟨.inl ⟨rfl, rfl⟩, ⟨.inl ⟨rfl, rfl⟩, ⟨.inl ⟨rfl, rfl⟩, ⟨.inl ⟨rfl, rfl⟩, trivial⟩⟩⟩⟩, trivial⟩ rfl (fun b hb => by cases hb) (.inl rfl) (lt_of rfl) trivial),
        hR 2 rfl rfl (r_call (block_Get false false (putB b) (by first | assumption | omega | (unfold maxLen; omega) | (simp [maxLen, -List.getD_eq_getElem?_getD] <;> omega) | decide)) Try.func26 rfl (by decide) [] [] (l := [(.tmp 19, slV false false kU8 (putB b))]) [] rfl 0 0 rfl rfl rfl rfl rfl rfl rfl rfl rfl ⟨.inl ⟨rfl, rfl⟩, trivial⟩ rfl (fun b hb => by cases hb) (.inl rfl) (lt_of rfl) trivial)] (by kernel_rfl) (by kernel_rfl) ?_
      refine nT ?_
      refine T.seq ?_
      refine T.seq ?_
      by_cases hq3 : (decide ((getE (putB b)) = 0)) ≠ (decide ((chkB b) = 0))
      · exact absurd (by rw [decide_eq_decide]; exact hbk.1) hq3
      · by_cases hq4 : (getE (putB b)) = 0
        · refine xR [hR 3 rfl rfl (r_call (block_Check false b (by first | assumption | omega | (unfold maxLen; omega) | (simp [maxLen, -List.getD_eq_getElem?_getD] <;> omega) | decide) (by first | assumption | omega | (unfold maxLen; omega) | (simp [maxLen, -List.getD_eq_getElem?_getD] <;> omega) | decide)) Try.func14 rfl (by decide) [] [] (l := [(.tmp 25, .tv (.agg [.d (.val (.int .i64 b.f_Height)), .d (.val (strV b.f_Prev)), .d (dsl false false (k_api_Envelope false) b.f_Requests), .d (dsl false false (k_api_Result false) b.f_Results)]))]) [] rfl 0 0 rfl rfl rfl rfl rfl rfl rfl rfl rfl ⟨⟨.inl ⟨rfl, rfl⟩, ⟨.inl ⟨rfl, rfl⟩, ⟨.inl ⟨rfl, rfl⟩, ⟨.inl ⟨rfl, rfl⟩, trivial⟩⟩⟩⟩, trivial⟩ rfl (fun b hb => by cases hb) (.inl rfl) (lt_of rfl) trivial),
            hY 7 (decide_eq_false hq3),
            hY 8 (decide_eq_false hq3),
            hY 9 (decide_eq_false hq3),
            hY 10 (decide_eq_true hq4),
            hY 11 (decide_eq_true hq4),
            hS 12 (oY rfl rfl rfl rfl (lt_of rfl) (decide_eq_true hq4) (r_call (ref10_Same false false b (getB (putB b)) (by first | assumption | omega | (unfold maxLen; omega) | (simp [maxLen, -List.getD_eq_getElem?_getD] <;> omega) | decide) (by first | assumption | omega | (unfold maxLen; omega) | (simp [maxLen, -List.getD_eq_getElem?_getD] <;> omega) | decide)) Try.func25 rfl (by decide) [] [] (l := [(.tmp 33, .tv (.agg [.d (.val (.int .i64 b.f_Height)), .d (.val (strV b.f_Prev)), .d (dsl false false (k_api_Envelope false) b.f_Requests), .d (dsl false false (k_api_Result false) b.f_Results)])), (.tmp 34, .tv (.agg [.d (.val (.int .i64 (getB (putB b)).f_Height)), .d (.val (strV (getB (putB b)).f_Prev)), .d (dsl false false (k_api_Envelope false) (getB (putB b)).f_Requests), .d (dsl false false (k_api_Result false) (getB (putB b)).f_Results)]))]) [] rfl 0 0 rfl rfl rfl rfl rfl rfl rfl rfl rfl ⟨⟨.inl ⟨rfl, rfl⟩, ⟨.inl ⟨rfl, rfl⟩, ⟨.inl ⟨rfl, rfl⟩, ⟨.inl ⟨rfl, rfl⟩, trivial⟩⟩⟩⟩, ⟨⟨.inl ⟨rfl, rfl⟩, ⟨.inl ⟨rfl, rfl⟩, ⟨.inl ⟨rfl, rfl⟩, ⟨.inl ⟨rfl, rfl⟩, trivial⟩⟩⟩⟩, trivial⟩⟩ rfl (fun b hb => by cases hb) (.inl rfl) (lt_of rfl) trivial)),
            hY 13 (decide_eq_true hq4),
            hS 14 (oY rfl rfl rfl rfl (lt_of rfl) (decide_eq_false hq3) (r_pickT (b := (decide ((getE (putB b)) = 0))) (av := dv (.bool (!(decide (b = (getB (putB b))))))) (lt_of rfl) trivial (decide_eq_true hq4))),
            hP 15 (decide_eq_false hq3)] (by kernel_rfl) (by kernel_rfl) ?_
          refine nT ?_
          by_cases hq5 : b = (getB (putB b))
          · refine T.condF (by kernel_rfl) (congrArg Bool.not (decide_eq_true hq5)) ?_
            refine T.skip ?_
            refine nT ?_
            refine T.seq ?_
            refine xR [hR 1 rfl rfl (r_call (block_Get tx nx x (by first | assumption | omega | (unfold maxLen; omega) | (simp [maxLen, -List.getD_eq_getElem?_getD] <;> omega) | decide)) Try.func26 rfl (by decide) [] [] (l := [(.tmp 40, slV tx nx kU8 x)]) [] rfl 0 0 rfl rfl rfl rfl rfl rfl rfl rfl rfl ⟨.inl ⟨rfl, rfl⟩, trivial⟩ rfl (fun b hb => by cases hb) (.inl rfl) (lt_of rfl) trivial)] (by kernel_rfl) (by kernel_rfl) ?_
            refine nT ?_
            refine T.seq ?_
            by_cases hq6 : (getE x) ≠ 0
            · refine xR [hN 3 false (decide_eq_true hq6),
                hN 4 false (decide_eq_true hq6),
                hN 5 false (decide_eq_true hq6),
                hN 6 false (decide_eq_true hq6),
                hP 7 (decide_eq_true hq6),
                hS 9 (oY (b := true) rfl rfl rfl rfl (lt_of rfl) rfl (r_call (law_awake  ) Try.func18 rfl (by decide) [] [] (l := []) [] rfl 0 0 rfl rfl rfl rfl rfl rfl rfl rfl rfl trivial rfl (fun b hb => by cases hb) (.inl rfl) (lt_of rfl) trivial)),
                hP 10 (b := true) (w := true) rfl] (by kernel_rfl) (by kernel_rfl) ?_
              refine nT ?_
              refine T.ret ?_
              exact tE (.inl rfl) [.t 4 (.one (.d (.val (.bool true))))] ⟨⟨rfl, by kernel_rfl⟩, trivial⟩ [] rfl rfl rfl rfl rfl rfl trivial
            · by_cases hq7 : (putB (getB x)) = x
              · refine xR [hY 3 (decide_eq_false hq6),
                  hS 4 (oY rfl rfl rfl rfl (lt_of rfl) (decide_eq_false hq6) (r_call (block_Put false (getB x) (by first | assumption | exact few_wide (by assumption) | decide)) Try.func27 rfl (by decide) [] [] (l := [(.tmp 47, .tv (.agg [.d (.val (.int .i64 (getB x).f_Height)), .d (.val (strV (getB x).f_Prev)), .d (dsl false false (k_api_Envelope false) (getB x).f_Requests), .d (dsl false false (k_api_Result false) (getB x).f_Results)]))]) [] rfl 0 0 rfl rfl rfl rfl rfl rfl rfl rfl rfl ⟨⟨.inl ⟨rfl, rfl⟩, ⟨.inl ⟨rfl, rfl⟩, ⟨.inl ⟨rfl, rfl⟩, ⟨.inl ⟨rfl, rfl⟩, trivial⟩⟩⟩⟩, trivial⟩ rfl (fun b hb => by cases hb) (.inl rfl) (lt_of rfl) trivial)),
                  hY 5 (decide_eq_false hq6),
                  hS 6 (oY rfl rfl rfl rfl (lt_of rfl) (decide_eq_false hq6) (r_call (ref01_Same false false tx nx (putB (getB x)) x ) Try.func9 rfl (by decide) [] [] (l := [(.tmp 48, slV false false kU8 (putB (getB x))), (.tmp 49, slV tx nx kU8 x)]) [] rfl 0 0 rfl rfl rfl rfl rfl rfl rfl rfl rfl ⟨.inl ⟨rfl, rfl⟩, ⟨.inl ⟨rfl, rfl⟩, trivial⟩⟩ rfl (fun b hb => by cases hb) (.inl rfl) (lt_of rfl) trivial)),
                  hP 7 (decide_eq_false hq6),
                  hS 9 (oY rfl rfl rfl rfl (lt_of rfl) (decide_eq_true hq7) (r_call (law_awake  ) Try.func18 rfl (by decide) [] [] (l := []) [] rfl 0 0 rfl rfl rfl rfl rfl rfl rfl rfl rfl trivial rfl (fun b hb => by cases hb) (.inl rfl) (lt_of rfl) trivial)),
                  hP 10 (decide_eq_true hq7)] (by kernel_rfl) (by kernel_rfl) ?_
                refine nT ?_
                refine T.ret ?_
                exact tE (.inl rfl) [.t 4 (.one (.d (.val (.bool true))))] ⟨⟨rfl, by kernel_rfl⟩, trivial⟩ [] rfl rfl rfl rfl rfl rfl trivial
              · exact absurd (forth10 (Classical.not_not.1 (by assumption))) hq7
          · exact absurd (hbk.2 (by assumption)) hq5
        · refine xR [hR 3 rfl rfl (r_call (block_Check false b (by first | assumption | omega | (unfold maxLen; omega) | (simp [maxLen, -List.getD_eq_getElem?_getD] <;> omega) | decide) (by first | assumption | omega | (unfold maxLen; omega) | (simp [maxLen, -List.getD_eq_getElem?_getD] <;> omega) | decide)) Try.func14 rfl (by decide) [] [] (l := [(.tmp 25, .tv (.agg [.d (.val (.int .i64 b.f_Height)), .d (.val (strV b.f_Prev)), .d (dsl false false (k_api_Envelope false) b.f_Requests), .d (dsl false false (k_api_Result false) b.f_Results)]))]) [] rfl 0 0 rfl rfl rfl rfl rfl rfl rfl rfl rfl ⟨⟨.inl ⟨rfl, rfl⟩, ⟨.inl ⟨rfl, rfl⟩, ⟨.inl ⟨rfl, rfl⟩, ⟨.inl ⟨rfl, rfl⟩, trivial⟩⟩⟩⟩, trivial⟩ rfl (fun b hb => by cases hb) (.inl rfl) (lt_of rfl) trivial),
            hY 7 (decide_eq_false hq3),
            hY 8 (decide_eq_false hq3),
            hY 9 (decide_eq_false hq3),
            hN 10 true (decide_eq_false hq4),
            hN 11 true (decide_eq_false hq4),
            hN 12 true (decide_eq_false hq4),
            hN 13 true (decide_eq_false hq4),
            hS 14 (oY rfl rfl rfl rfl (lt_of rfl) (decide_eq_false hq3) (r_pickF (b := (decide ((getE (putB b)) = 0))) (av := dv (.bool false)) (lt_of rfl) ⟨rfl, trivial⟩ (decide_eq_false hq4))),
            hP 15 (decide_eq_false hq3)] (by kernel_rfl) (by kernel_rfl) ?_
          refine nT ?_
          refine T.condF (b := false) (by kernel_rfl) rfl ?_
          refine T.skip ?_
          refine nT ?_
          refine T.seq ?_
          refine xR [hR 1 rfl rfl (r_call (block_Get tx nx x (by first | assumption | omega | (unfold maxLen; omega) | (simp [maxLen, -List.getD_eq_getElem?_getD] <;> omega) | decide)) Try.func26 rfl (by decide) [] [] (l := [(.tmp 40, slV tx nx kU8 x)]) [] rfl 0 0 rfl rfl rfl rfl rfl rfl rfl rfl rfl ⟨.inl ⟨rfl, rfl⟩, trivial⟩ rfl (fun b hb => by cases hb) (.inl rfl) (lt_of rfl) trivial)] (by kernel_rfl) (by kernel_rfl) ?_
          refine nT ?_
          refine T.seq ?_
          by_cases hq8 : (getE x) ≠ 0
          · refine xR [hN 3 false (decide_eq_true hq8),
              hN 4 false (decide_eq_true hq8),
              hN 5 false (decide_eq_true hq8),
              hN 6 false (decide_eq_true hq8),
              hP 7 (decide_eq_true hq8),
              hS 9 (oY (b := true) rfl rfl rfl rfl (lt_of rfl) rfl (r_call (law_awake  ) Try.func18 rfl (by decide) [] [] (l := []) [] rfl 0 0 rfl rfl rfl rfl rfl rfl rfl rfl rfl trivial rfl (fun b hb => by cases hb) (.inl rfl) (lt_of rfl) trivial)),
              hP 10 (b := true) (w := true) rfl] (by kernel_rfl) (by kernel_rfl) ?_
            refine nT ?_
            refine T.ret ?_
            exact tE (.inl rfl) [.t 4 (.one (.d (.val (.bool true))))] ⟨⟨rfl, by kernel_rfl⟩, trivial⟩ [] rfl rfl rfl rfl rfl rfl trivial
          · by_cases hq9 : (putB (getB x)) = x
            · refine xR [hY 3 (decide_eq_false hq8),
                hS 4 (oY rfl rfl rfl rfl (lt_of rfl) (decide_eq_false hq8) (r_call (block_Put false (getB x) (by first | assumption | exact few_wide (by assumption) | decide)) Try.func27 rfl (by decide) [] [] (l := [(.tmp 47, .tv (.agg [.d (.val (.int .i64 (getB x).f_Height)), .d (.val (strV (getB x).f_Prev)), .d (dsl false false (k_api_Envelope false) (getB x).f_Requests), .d (dsl false false (k_api_Result false) (getB x).f_Results)]))]) [] rfl 0 0 rfl rfl rfl rfl rfl rfl rfl rfl rfl ⟨⟨.inl ⟨rfl, rfl⟩, ⟨.inl ⟨rfl, rfl⟩, ⟨.inl ⟨rfl, rfl⟩, ⟨.inl ⟨rfl, rfl⟩, trivial⟩⟩⟩⟩, trivial⟩ rfl (fun b hb => by cases hb) (.inl rfl) (lt_of rfl) trivial)),
                hY 5 (decide_eq_false hq8),
                hS 6 (oY rfl rfl rfl rfl (lt_of rfl) (decide_eq_false hq8) (r_call (ref01_Same false false tx nx (putB (getB x)) x ) Try.func9 rfl (by decide) [] [] (l := [(.tmp 48, slV false false kU8 (putB (getB x))), (.tmp 49, slV tx nx kU8 x)]) [] rfl 0 0 rfl rfl rfl rfl rfl rfl rfl rfl rfl ⟨.inl ⟨rfl, rfl⟩, ⟨.inl ⟨rfl, rfl⟩, trivial⟩⟩ rfl (fun b hb => by cases hb) (.inl rfl) (lt_of rfl) trivial)),
                hP 7 (decide_eq_false hq8),
                hS 9 (oY rfl rfl rfl rfl (lt_of rfl) (decide_eq_true hq9) (r_call (law_awake  ) Try.func18 rfl (by decide) [] [] (l := []) [] rfl 0 0 rfl rfl rfl rfl rfl rfl rfl rfl rfl trivial rfl (fun b hb => by cases hb) (.inl rfl) (lt_of rfl) trivial)),
                hP 10 (decide_eq_true hq9)] (by kernel_rfl) (by kernel_rfl) ?_
              refine nT ?_
              refine T.ret ?_
              exact tE (.inl rfl) [.t 4 (.one (.d (.val (.bool true))))] ⟨⟨rfl, by kernel_rfl⟩, trivial⟩ [] rfl rfl rfl rfl rfl rfl trivial
            · exact absurd (forth10 (Classical.not_not.1 (by assumption))) hq9
  · refine xR [hR 1 rfl rfl (r_call (law_Few false b (by first | assumption | omega | (unfold maxLen; omega) | (simp [maxLen, -List.getD_eq_getElem?_getD] <;> omega) | decide) (by first | assumption | omega | (unfold maxLen; omega) | (simp [maxLen, -List.getD_eq_getElem?_getD] <;> omega) | decide)) Try.func8 rfl (by decide) [] [] (l := [(.tmp 9, .tv (.agg [.d (.val (.int .i64 b.f_Height)), .d (.val (strV b.f_Prev)), .d (dsl false false (k_api_Envelope false) b.f_Requests), .d (dsl false false (k_api_Result false) b.f_Results)]))]) [] rfl 0 0 rfl rfl rfl rfl rfl rfl rfl rfl rfl ⟨⟨.inl ⟨rfl, rfl⟩, ⟨.inl ⟨rfl, rfl⟩, ⟨.inl ⟨rfl, rfl⟩, ⟨.inl ⟨rfl, rfl⟩, trivial⟩⟩⟩⟩, trivial⟩ rfl (fun b hb => by cases hb) (.inl rfl) (lt_of rfl) trivial),
      hN 4 false (congrArg Bool.not (decide_eq_false hq1)),
      hN 5 false (congrArg Bool.not (decide_eq_false hq1)),
      hN 6 false (congrArg Bool.not (decide_eq_false hq1)),
      hP 7 (congrArg Bool.not (decide_eq_false hq1))] (by kernel_rfl) (by kernel_rfl) ?_
    refine nT ?_
    refine T.condT (b := true) (by kernel_rfl) rfl ?_
    refine T.seq ?_
    refine xR [] (by kernel_rfl) (by kernel_rfl) ?_
    refine nT ?_
    refine T.ret ?_
    refine rT ?_
    exact tE (.inl rfl) [.t 4 (.one (.d (.val (.bool true))))] ⟨⟨rfl, by kernel_rfl⟩, trivial⟩ [] rfl rfl rfl rfl rfl rfl trivial
end Go.Proofs.Ytacikihlgpnjhaa.Q
