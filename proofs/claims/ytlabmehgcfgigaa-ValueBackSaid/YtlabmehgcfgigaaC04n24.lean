import Derived.Test.YtlabmehgcfgigaaC04n22
namespace Go.Proofs.Ytlabmehgcfgigaa.Q
open Go Go.RowKit
set_option linter.unusedVariables false
set_option linter.unusedSimpArgs false
set_option maxRecDepth 100000
set_option maxHeartbeats 4000000
-- quaestor/quaestorlaw04.ValueBack
theorem law_ValueBack (v : api_Value) (b : List UInt8) (hn : v.f_Num < 18446744073709551616) (hi : i64R v.f_Int) : Holds Try.prog 11 ⟨[.tv (.agg [.d (.val (.int .i64 v.f_Kind)), .d (.val (.int .i64 v.f_Int)), .d (.val (.bool v.f_Bool)), .d (.val (strV v.f_Text)), .d (.val (.float .f64 v.f_Num))]), slV false false kU8 b], [], dv (.bool true), []⟩ := by
  refine Holds.of Try.func11 rfl (N := 58) Try.ntmps11 rfl fun w0 B0 S0 U0 => ?_
  show T _ (mkBase 58 0 w0 S0 U0 B0) ⟨[.tv (.agg [.d (.val (.int .i64 v.f_Kind)), .d (.val (.int .i64 v.f_Int)), .d (.val (.bool v.f_Bool)), .d (.val (strV v.f_Text)), .d (.val (.float .f64 v.f_Num))]), slV false false kU8 b], []⟩ _ _
  refine T.seq ?_
  refine xR [] (by kernel_rfl) (by kernel_rfl) ?_
  refine nT ?_
  refine T.seq ?_
  refine T.seq ?_
  by_cases hq1 : shortL [v]
  · have hsv : v.f_Text.length ≤ 1000 := hq1 v (List.Mem.head _)
    refine xR [hR 1 rfl rfl (q_buildSlice 1 24 (k_api_Value false) (k_api_Value_ok false) [v] [⟨0, .tmp 8, .agg [.d (.val (.int .i64 v.f_Kind)), .d (.val (.int .i64 v.f_Int)), .d (.val (.bool v.f_Bool)), .d (.val (strV v.f_Text)), .d (.val (.float .f64 v.f_Num))], 0⟩] (cs := [.d (.val (.int .i64 v.f_Kind)), .d (.val (.int .i64 v.f_Int)), .d (.val (.bool v.f_Bool)), .d (.val (strV v.f_Text)), .d (.val (.float .f64 v.f_Num))]) Try.underlying59 iat_24 rfl zero_24 rfl rfl rfl (Nat.le_of_ble_eq_true rfl) (part_cons rfl rfl (Nat.le_of_ble_eq_true rfl) part_ok) (by kernel_rfl) (wk_eq (by kernel_rfl)) (lt_of rfl) trivial),
      hR 2 rfl rfl (r_call (law_short true false [v] (by first | assumption | omega | (unfold maxLen; omega) | (simp [maxLen, -List.getD_eq_getElem?_getD] <;> omega) | decide)) Try.func12 rfl (by decide) [] [1] (l := [(.tmp 9, ownV 1 (k_api_Value false) 0 [v].length)]) [(1, .live (arrK 24 (k_api_Value false) [v]))] rfl 0 0 rfl rfl rfl rfl rfl rfl rfl rfl rfl ⟨.inr (.inl ⟨rfl, (fun h => by cases h), rfl, rfl, by simp, 24, [v].length, elOf (k_api_Value false) [v], List.Mem.head _, by omega, fun i j => by rw [Nat.zero_add]⟩), trivial⟩ rfl (by intro b hb; simp only [List.mem_cons, List.not_mem_nil, or_false] at hb; rcases hb with rfl; exact ⟨_, List.Mem.head _⟩) (.inr ⟨trivial, trivial⟩) (lt_of rfl) trivial),
      hY 5 (congrArg Bool.not (decide_eq_true hq1)),
      hY 6 (congrArg Bool.not (decide_eq_true hq1)),
      hY 7 (congrArg Bool.not (decide_eq_true hq1)),
      hP 8 (congrArg Bool.not (decide_eq_true hq1))] (by kernel_rfl) (by kernel_rfl) ?_
    refine nT ?_
    by_cases hq2 : ((b.length : Nat) : Int) > 1000
    · refine T.condT (by kernel_rfl) (decide_eq_true hq2) ?_
      refine T.seq ?_
      refine xR [] (by kernel_rfl) (by kernel_rfl) ?_
      refine nT ?_
      refine T.ret ?_
      refine rT ?_
      exact tE (.inl rfl) [.t 4 (.one (.d (.val (.bool true))))] ⟨⟨rfl, by kernel_rfl⟩, trivial⟩ [] rfl rfl rfl rfl rfl rfl trivial
    · refine T.condF (by kernel_rfl) (decide_eq_false hq2) ?_
      refine T.skip ?_
      refine nT ?_
      refine T.seq ?_
      refine T.seq ?_
      refine xR [hR 1 rfl rfl (r_call (value_Good v ) Try.func31 rfl (by decide) [] [] (l := [(.tmp 17, .tv (.agg [.d (.val (.int .i64 v.f_Kind)), .d (.val (.int .i64 v.f_Int)), .d (.val (.bool v.f_Bool)), .d (.val (strV v.f_Text)), .d (.val (.float .f64 v.f_Num))]))]) [] rfl 0 0 rfl rfl rfl rfl rfl rfl rfl rfl rfl ⟨⟨.inl ⟨rfl, rfl⟩, ⟨.inl ⟨rfl, rfl⟩, ⟨.inl ⟨rfl, rfl⟩, ⟨.inl ⟨rfl, rfl⟩, ⟨.inl ⟨rfl, rfl⟩, trivial⟩⟩⟩⟩⟩, trivial⟩ rfl (fun b hb => by cases hb) (.inl rfl) (lt_of rfl) trivial)] (by kernel_rfl) (by kernel_rfl) ?_
      refine nT ?_
      by_cases hq3 : goodV v
      · have hvb := value_back hq3 hi hn b; have hvl := val_len v
        refine T.condF (by kernel_rfl) (congrArg Bool.not (decide_eq_true hq3)) ?_
        refine T.skip ?_
        refine nT ?_
        refine T.seq ?_
        refine xR [hR 1 rfl rfl (r_call (value_Put false false ([] : List UInt8) v (by first | assumption | omega | (unfold maxLen; omega) | (simp [maxLen, -List.getD_eq_getElem?_getD] <;> omega) | decide) (by first | assumption | omega | (unfold maxLen; omega) | (simp [maxLen, -List.getD_eq_getElem?_getD] <;> omega) | decide) (by first | assumption | omega | (unfold maxLen; omega) | (simp [maxLen, -List.getD_eq_getElem?_getD] <;> omega) | decide)) Try.func38 rfl (by decide) [2] [] (l := [(.const (.slice none 0 0), dv (.slice none 0 0)), (.tmp 26, .tv (.agg [.d (.val (.int .i64 v.f_Kind)), .d (.val (.int .i64 v.f_Int)), .d (.val (.bool v.f_Bool)), .d (.val (strV v.f_Text)), .d (.val (.float .f64 v.f_Num))]))]) [] rfl 0 1 rfl rfl rfl rfl rfl rfl rfl rfl rfl ⟨.inr (.inr ⟨rfl, rfl, rfl⟩), ⟨⟨.inl ⟨rfl, rfl⟩, ⟨.inl ⟨rfl, rfl⟩, ⟨.inl ⟨rfl, rfl⟩, ⟨.inl ⟨rfl, rfl⟩, ⟨.inl ⟨rfl, rfl⟩, trivial⟩⟩⟩⟩⟩, trivial⟩⟩ rfl (fun b hb => by cases hb) (.inl rfl) (lt_of rfl) ⟨rfl, trivial⟩),
          hR 3 rfl rfl (q_appendO 2 3 5 1 kU8 kU8_ok (([] : List UInt8) ++ valB v) b (([] : List UInt8) ++ valB v ++ b) (([] : List UInt8) ++ valB v).length (sy := (.d (dsl false false kU8 b))) (rhs := []) elem_47 (by first | assumption | omega | (unfold maxLen; omega) | (simp [maxLen, -List.getD_eq_getElem?_getD] <;> omega) | decide) (src_sl false false kU8 b) (by rw [List.take_length]) (by first | assumption | omega | (unfold maxLen; omega) | (simp [maxLen, -List.getD_eq_getElem?_getD] <;> omega) | decide) (by first | assumption | omega | (unfold maxLen; omega) | (simp [maxLen, -List.getD_eq_getElem?_getD] <;> omega) | decide) (lt_of rfl) trivial),
          hR 4 rfl rfl (r_call (wire_New true false (([] : List UInt8) ++ valB v ++ b) (by first | assumption | omega | (unfold maxLen; omega) | (simp [maxLen, -List.getD_eq_getElem?_getD] <;> omega) | decide)) Try.func34 rfl (by decide) [4] [3] (l := [(.tmp 29, ownV 3 kU8 0 (([] : List UInt8) ++ valB v ++ b).length)]) [(3, .live (arrK 5 kU8 (([] : List UInt8) ++ valB v ++ b)))] rfl 0 1 rfl rfl rfl rfl rfl rfl rfl rfl rfl ⟨.inr (.inl ⟨rfl, (fun h => by cases h), rfl, rfl, by simp, 5, (([] : List UInt8) ++ valB v ++ b).length, elOf kU8 (([] : List UInt8) ++ valB v ++ b), List.Mem.head _, by omega, fun i j => by rw [Nat.zero_add]⟩), trivial⟩ rfl (by intro b hb; simp only [List.mem_cons, List.not_mem_nil, or_false] at hb; rcases hb with rfl; exact ⟨_, List.Mem.head _⟩) (.inr ⟨trivial, (And.intro (And.intro (dsl_nt (nn := false) kU8_nt) (And.intro trivial trivial)) trivial)⟩) (lt_of rfl) trivial)] (by kernel_rfl) (by kernel_rfl) ?_
        refine nT ?_
        refine T.seq ?_
        refine xR [hR 1 rfl rfl (r_call (value_Get (([] : List UInt8) ++ valB v ++ b) 0 (by first | assumption | omega | (unfold maxLen; omega) | (simp [maxLen, -List.getD_eq_getElem?_getD] <;> omega) | decide)) Try.func35 rfl (by decide) [4] [] (l := [(.tmp 32, pv 4 0)]) [] rfl 1 1 rfl rfl rfl rfl rfl rfl rfl rfl rfl ⟨.inl ⟨rfl, rfl⟩, trivial⟩ rfl (fun b hb => by cases hb) (.inl rfl) (lt_of rfl) trivial)] (by kernel_rfl) (by kernel_rfl) ?_
        refine nT ?_
        refine T.seq ?_
        by_cases hq4 : (gvErr (([] : List UInt8) ++ valB v ++ b) 0) = 0
        · by_cases hq5 : sameV v (gvVal (([] : List UInt8) ++ valB v ++ b) 0)
          · by_cases hq6 : (((gvRest (([] : List UInt8) ++ valB v ++ b) 0).length : Nat) : Int) = ((b.length : Nat) : Int)
            · refine xR [hY 3 (decide_eq_true hq4),
                hY 4 (decide_eq_true hq4),
                hS 5 (oY rfl rfl rfl rfl (lt_of rfl) (decide_eq_true hq4) (r_call (value_Same v (gvVal (([] : List UInt8) ++ valB v ++ b) 0) ) Try.func15 rfl (by decide) [] [] (l := [(.tmp 39, .tv (.agg [.d (.val (.int .i64 v.f_Kind)), .d (.val (.int .i64 v.f_Int)), .d (.val (.bool v.f_Bool)), .d (.val (strV v.f_Text)), .d (.val (.float .f64 v.f_Num))])), (.tmp 40, .tv (.agg [.d (.val (.int .i64 (gvVal (([] : List UInt8) ++ valB v ++ b) 0).f_Kind)), .d (.val (.int .i64 (gvVal (([] : List UInt8) ++ valB v ++ b) 0).f_Int)), .d (.val (.bool (gvVal (([] : List UInt8) ++ valB v ++ b) 0).f_Bool)), .d (.val (strV (gvVal (([] : List UInt8) ++ valB v ++ b) 0).f_Text)), .d (.val (.float .f64 (gvVal (([] : List UInt8) ++ valB v ++ b) 0).f_Num))]))]) [] rfl 0 0 rfl rfl rfl rfl rfl rfl rfl rfl rfl ⟨⟨.inl ⟨rfl, rfl⟩, ⟨.inl ⟨rfl, rfl⟩, ⟨.inl ⟨rfl, rfl⟩, ⟨.inl ⟨rfl, rfl⟩, ⟨.inl ⟨rfl, rfl⟩, trivial⟩⟩⟩⟩⟩, ⟨⟨.inl ⟨rfl, rfl⟩, ⟨.inl ⟨rfl, rfl⟩, ⟨.inl ⟨rfl, rfl⟩, ⟨.inl ⟨rfl, rfl⟩, ⟨.inl ⟨rfl, rfl⟩, trivial⟩⟩⟩⟩⟩, trivial⟩⟩ rfl (fun b hb => by cases hb) (.inl rfl) (lt_of rfl) trivial)),
                hP 6 (decide_eq_true hq4),
                hY 8 (decide_eq_true hq5),
                hY 9 (decide_eq_true hq5),
                hS 10 (oY rfl rfl rfl rfl (lt_of rfl) (decide_eq_true hq5) (r_call (ref04_Same v (gvVal (([] : List UInt8) ++ valB v ++ b) 0) ) Try.func16 rfl (by decide) [] [] (l := [(.tmp 44, .tv (.agg [.d (.val (.int .i64 v.f_Kind)), .d (.val (.int .i64 v.f_Int)), .d (.val (.bool v.f_Bool)), .d (.val (strV v.f_Text)), .d (.val (.float .f64 v.f_Num))])), (.tmp 45, .tv (.agg [.d (.val (.int .i64 (gvVal (([] : List UInt8) ++ valB v ++ b) 0).f_Kind)), .d (.val (.int .i64 (gvVal (([] : List UInt8) ++ valB v ++ b) 0).f_Int)), .d (.val (.bool (gvVal (([] : List UInt8) ++ valB v ++ b) 0).f_Bool)), .d (.val (strV (gvVal (([] : List UInt8) ++ valB v ++ b) 0).f_Text)), .d (.val (.float .f64 (gvVal (([] : List UInt8) ++ valB v ++ b) 0).f_Num))]))]) [] rfl 0 0 rfl rfl rfl rfl rfl rfl rfl rfl rfl ⟨⟨.inl ⟨rfl, rfl⟩, ⟨.inl ⟨rfl, rfl⟩, ⟨.inl ⟨rfl, rfl⟩, ⟨.inl ⟨rfl, rfl⟩, ⟨.inl ⟨rfl, rfl⟩, trivial⟩⟩⟩⟩⟩, ⟨⟨.inl ⟨rfl, rfl⟩, ⟨.inl ⟨rfl, rfl⟩, ⟨.inl ⟨rfl, rfl⟩, ⟨.inl ⟨rfl, rfl⟩, ⟨.inl ⟨rfl, rfl⟩, trivial⟩⟩⟩⟩⟩, trivial⟩⟩ rfl (fun b hb => by cases hb) (.inl rfl) (lt_of rfl) trivial)),
                hP 11 (decide_eq_true hq5),
                hY 13 (decide_eq_true hq5),
                hS 14 (oY rfl rfl rfl rfl (lt_of rfl) (decide_eq_true hq5) (r_call (rd_Left (gvRest (([] : List UInt8) ++ valB v ++ b) 0) (gvEnd (([] : List UInt8) ++ valB v ++ b) 0) ) Try.func40 rfl (by decide) [4] [] (l := [(.tmp 49, pv 4 0)]) [] rfl 1 1 rfl rfl rfl rfl rfl rfl rfl rfl rfl ⟨.inl ⟨rfl, rfl⟩, trivial⟩ rfl (fun b hb => by cases hb) (.inl rfl) (lt_of rfl) trivial)),
                hY 15 (decide_eq_true hq5),
                hY 16 (decide_eq_true hq5),
                hY 17 (decide_eq_true hq5),
                hP 18 (decide_eq_true hq5),
                hS 20 (oY rfl rfl rfl rfl (lt_of rfl) (decide_eq_true hq6) (r_call (law_awake  ) Try.func17 rfl (by decide) [] [] (l := []) [] rfl 0 0 rfl rfl rfl rfl rfl rfl rfl rfl rfl trivial rfl (fun b hb => by cases hb) (.inl rfl) (lt_of rfl) trivial)),
                hP 21 (decide_eq_true hq6)] (by kernel_rfl) (by kernel_rfl) ?_
              refine nT ?_
              refine T.ret ?_
              exact tE (.inl rfl) [.t 4 (.one (.d (.val (.bool true))))] ⟨⟨rfl, by kernel_rfl⟩, trivial⟩ [] rfl rfl rfl rfl rfl rfl trivial
            · exact absurd (by first | rfl | exact hvb.1 | exact hvb.2.1 | (rw [hvb.2.2]) | exact congrArg (fun x : List UInt8 => ((x.length : Nat) : Int)) hvb.2.2) hq6
          · exact absurd (by first | rfl | exact hvb.1 | exact hvb.2.1 | (rw [hvb.2.2]) | exact congrArg (fun x : List UInt8 => ((x.length : Nat) : Int)) hvb.2.2) hq5
        · exact absurd (by first | rfl | exact hvb.1 | exact hvb.2.1 | (rw [hvb.2.2]) | exact congrArg (fun x : List UInt8 => ((x.length : Nat) : Int)) hvb.2.2) hq4
      · refine T.condT (by kernel_rfl) (congrArg Bool.not (decide_eq_false hq3)) ?_
        refine T.seq ?_
        refine xR [hR 1 rfl rfl (r_call (ref04_Good v ) Try.func18 rfl (by decide) [] [] (l := [(.tmp 20, .tv (.agg [.d (.val (.int .i64 v.f_Kind)), .d (.val (.int .i64 v.f_Int)), .d (.val (.bool v.f_Bool)), .d (.val (strV v.f_Text)), .d (.val (.float .f64 v.f_Num))]))]) [] rfl 0 0 rfl rfl rfl rfl rfl rfl rfl rfl rfl ⟨⟨.inl ⟨rfl, rfl⟩, ⟨.inl ⟨rfl, rfl⟩, ⟨.inl ⟨rfl, rfl⟩, ⟨.inl ⟨rfl, rfl⟩, ⟨.inl ⟨rfl, rfl⟩, trivial⟩⟩⟩⟩⟩, trivial⟩ rfl (fun b hb => by cases hb) (.inl rfl) (lt_of rfl) trivial),
          hS 4 (oY rfl rfl rfl rfl (lt_of rfl) (congrArg Bool.not (decide_eq_false hq3)) (r_call (law_awake  ) Try.func17 rfl (by decide) [] [] (l := []) [] rfl 0 0 rfl rfl rfl rfl rfl rfl rfl rfl rfl trivial rfl (fun b hb => by cases hb) (.inl rfl) (lt_of rfl) trivial)),
          hP 5 (congrArg Bool.not (decide_eq_false hq3))] (by kernel_rfl) (by kernel_rfl) ?_
        refine nT ?_
        refine T.ret ?_
        refine rT ?_
        exact tE (.inl rfl) [.t 4 (.one (.d (.val (.bool true))))] ⟨⟨rfl, by kernel_rfl⟩, trivial⟩ [] rfl rfl rfl rfl rfl rfl trivial
  · refine xR [hR 1 rfl rfl (q_buildSlice 1 24 (k_api_Value false) (k_api_Value_ok false) [v] [⟨0, .tmp 8, .agg [.d (.val (.int .i64 v.f_Kind)), .d (.val (.int .i64 v.f_Int)), .d (.val (.bool v.f_Bool)), .d (.val (strV v.f_Text)), .d (.val (.float .f64 v.f_Num))], 0⟩] (cs := [.d (.val (.int .i64 v.f_Kind)), .d (.val (.int .i64 v.f_Int)), .d (.val (.bool v.f_Bool)), .d (.val (strV v.f_Text)), .d (.val (.float .f64 v.f_Num))]) Try.underlying59 iat_24 rfl zero_24 rfl rfl rfl (Nat.le_of_ble_eq_true rfl) (part_cons rfl rfl (Nat.le_of_ble_eq_true rfl) part_ok) (by kernel_rfl) (wk_eq (by kernel_rfl)) (lt_of rfl) trivial),
      hR 2 rfl rfl (r_call (law_short true false [v] (by first | assumption | omega | (unfold maxLen; omega) | (simp [maxLen, -List.getD_eq_getElem?_getD] <;> omega) | decide)) Try.func12 rfl (by decide) [] [1] (l := [(.tmp 9, ownV 1 (k_api_Value false) 0 [v].length)]) [(1, .live (arrK 24 (k_api_Value false) [v]))] rfl 0 0 rfl rfl rfl rfl rfl rfl rfl rfl rfl ⟨.inr (.inl ⟨rfl, (fun h => by cases h), rfl, rfl, by simp, 24, [v].length, elOf (k_api_Value false) [v], List.Mem.head _, by omega, fun i j => by rw [Nat.zero_add]⟩), trivial⟩ rfl (by intro b hb; simp only [List.mem_cons, List.not_mem_nil, or_false] at hb; rcases hb with rfl; exact ⟨_, List.Mem.head _⟩) (.inr ⟨trivial, trivial⟩) (lt_of rfl) trivial),
      hN 5 false (congrArg Bool.not (decide_eq_false hq1)),
      hN 6 false (congrArg Bool.not (decide_eq_false hq1)),
      hN 7 false (congrArg Bool.not (decide_eq_false hq1)),
      hP 8 (congrArg Bool.not (decide_eq_false hq1))] (by kernel_rfl) (by kernel_rfl) ?_
    refine nT ?_
    refine T.condT (b := true) (by kernel_rfl) rfl ?_
    refine T.seq ?_
    refine xR [] (by kernel_rfl) (by kernel_rfl) ?_
    refine nT ?_
    refine T.ret ?_
    refine rT ?_
    exact tE (.inl rfl) [.t 4 (.one (.d (.val (.bool true))))] ⟨⟨rfl, by kernel_rfl⟩, trivial⟩ [] rfl rfl rfl rfl rfl rfl trivial
end Go.Proofs.Ytlabmehgcfgigaa.Q
