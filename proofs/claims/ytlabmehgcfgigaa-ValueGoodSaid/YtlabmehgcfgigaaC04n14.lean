import Derived.Test.YtlabmehgcfgigaaC04n13
namespace Go.Proofs.Ytlabmehgcfgigaa.Q
open Go Go.RowKit
set_option linter.unusedVariables false
set_option linter.unusedSimpArgs false
set_option maxRecDepth 100000
set_option maxHeartbeats 4000000
-- quaestor/quaestorlaw04.ValueGood
theorem law_ValueGood (a : api_Value) (f : api_Field) (hl9 : f.f_Enum.length ≤ 9223372036854775807) : Holds Try.prog 9 ⟨[.tv (.agg [.d (.val (.int .i64 a.f_Kind)), .d (.val (.int .i64 a.f_Int)), .d (.val (.bool a.f_Bool)), .d (.val (strV a.f_Text)), .d (.val (.float .f64 a.f_Num))]), .tv (.agg [.d (.val (strV f.f_Name)), .d (.val (.int .i64 f.f_Kind)), .d (dsl false false kStr f.f_Enum), .d (.val (.int .i64 f.f_Init.f_Kind)), .d (.val (.int .i64 f.f_Init.f_Int)), .d (.val (.bool f.f_Init.f_Bool)), .d (.val (strV f.f_Init.f_Text)), .d (.val (.float .f64 f.f_Init.f_Num))])], [], dv (.bool true), []⟩ := by
  refine Holds.of Try.func9 rfl (N := 32) Try.ntmps9 rfl fun w0 B0 S0 U0 => ?_
  show T _ (mkBase 32 0 w0 S0 U0 B0) ⟨[.tv (.agg [.d (.val (.int .i64 a.f_Kind)), .d (.val (.int .i64 a.f_Int)), .d (.val (.bool a.f_Bool)), .d (.val (strV a.f_Text)), .d (.val (.float .f64 a.f_Num))]), .tv (.agg [.d (.val (strV f.f_Name)), .d (.val (.int .i64 f.f_Kind)), .d (dsl false false kStr f.f_Enum), .d (.val (.int .i64 f.f_Init.f_Kind)), .d (.val (.int .i64 f.f_Init.f_Int)), .d (.val (.bool f.f_Init.f_Bool)), .d (.val (strV f.f_Init.f_Text)), .d (.val (.float .f64 f.f_Init.f_Num))])], []⟩ _ _
  refine T.seq ?_
  refine xR [] (by kernel_rfl) (by kernel_rfl) ?_
  refine nT ?_
  refine T.seq ?_
  refine T.seq ?_
  by_cases hq1 : shortL [a]
  · refine xR [hR 1 rfl rfl (q_buildSlice 2 24 (k_api_Value false) (k_api_Value_ok false) [a] [⟨0, .tmp 5, .agg [.d (.val (.int .i64 a.f_Kind)), .d (.val (.int .i64 a.f_Int)), .d (.val (.bool a.f_Bool)), .d (.val (strV a.f_Text)), .d (.val (.float .f64 a.f_Num))], 0⟩] (cs := [.d (.val (.int .i64 a.f_Kind)), .d (.val (.int .i64 a.f_Int)), .d (.val (.bool a.f_Bool)), .d (.val (strV a.f_Text)), .d (.val (.float .f64 a.f_Num))]) Try.underlying59 iat_24 rfl zero_24 rfl rfl rfl (Nat.le_of_ble_eq_true rfl) (part_cons rfl rfl (Nat.le_of_ble_eq_true rfl) part_ok) (by kernel_rfl) (wk_eq (by kernel_rfl)) (lt_of rfl) trivial),
      hR 2 rfl rfl (r_call (law_short true false [a] (by (simp [maxLen, -List.getD_eq_getElem?_getD] <;> omega))) Try.func12 rfl (by decide) [] [2] (l := [(.tmp 6, ownV 2 (k_api_Value false) 0 [a].length)]) [(2, .live (arrK 24 (k_api_Value false) [a]))] rfl 0 0 rfl rfl rfl rfl rfl rfl rfl rfl rfl ⟨.inr (.inl ⟨rfl, (fun h => by cases h), rfl, rfl, by simp, 24, [a].length, elOf (k_api_Value false) [a], List.Mem.head _, by omega, fun i j => by rw [Nat.zero_add]⟩), trivial⟩ rfl (by intro b hb; simp only [List.mem_cons, List.not_mem_nil, or_false] at hb; rcases hb with rfl; exact ⟨_, List.Mem.head _⟩) (.inr ⟨trivial, trivial⟩) (lt_of rfl) trivial),
      hY 5 (congrArg Bool.not (decide_eq_true hq1)),
      hY 6 (congrArg Bool.not (decide_eq_true hq1)),
      hY 7 (congrArg Bool.not (decide_eq_true hq1)),
      hY 8 (congrArg Bool.not (decide_eq_true hq1)),
      hP 9 (congrArg Bool.not (decide_eq_true hq1))] (by kernel_rfl) (by kernel_rfl) ?_
    refine nT ?_
    by_cases hq2 : ((f.f_Enum.length : Nat) : Int) > 100
    · refine T.condT (by kernel_rfl) (decide_eq_true hq2) ?_
      refine T.seq ?_
      refine xR [] (by kernel_rfl) (by kernel_rfl) ?_
      refine nT ?_
      refine T.ret ?_
      refine rT ?_
      exact tE (.inl rfl) [.t 4 (.one (.d (.val (.bool true))))] ⟨⟨rfl, by kernel_rfl⟩, trivial⟩ [] rfl rfl rfl rfl rfl rfl trivial
    · refine T.condF (by kernel_rfl) (decide_eq_false hq2) ?_
      refine T.skip ?_
      refine nT ?_
      refine T.seq ?_
      refine xD [[], [0], [], [0, 1, 2], [0, 1, 2, 3], [0, 1, 2, 3, 4], [0, 1, 2, 3, 4, 5], [0, 1, 2, 3, 4, 5], [0, 1, 2, 3, 4, 5, 6, 7], [0, 1, 2, 3, 4, 5], [0, 1, 2, 3, 4, 5], [0, 1, 2, 3, 4, 5, 6, 7, 8, 9, 10], [0, 1, 2, 3, 4, 5, 6, 7, 8, 9, 10, 11], [0, 1, 2, 3, 4, 5, 6, 7, 8, 9, 10, 11, 12], [0, 1, 2, 3, 4, 5, 6, 7, 8, 9, 10, 11, 12, 13], [0, 1, 2, 3, 4, 5, 6, 7, 8, 9, 10, 11, 12, 13, 14], [0, 1, 2, 3, 4, 5, 6, 7, 8, 9, 10, 11, 12, 13, 14, 15], [0, 1, 2, 3, 4, 5, 6, 7, 8, 9, 10, 11, 12, 13, 14, 15, 16]] [hR 1 rfl rfl (r_call (value_Good a ) Try.func31 rfl (by decide) [] [] (l := [(.tmp 15, .tv (.agg [.d (.val (.int .i64 a.f_Kind)), .d (.val (.int .i64 a.f_Int)), .d (.val (.bool a.f_Bool)), .d (.val (strV a.f_Text)), .d (.val (.float .f64 a.f_Num))]))]) [] rfl 0 0 rfl rfl rfl rfl rfl rfl rfl rfl rfl ⟨⟨.inl ⟨rfl, rfl⟩, ⟨.inl ⟨rfl, rfl⟩, ⟨.inl ⟨rfl, rfl⟩, ⟨.inl ⟨rfl, rfl⟩, ⟨.inl ⟨rfl, rfl⟩, trivial⟩⟩⟩⟩⟩, trivial⟩ rfl (fun b hb => by cases hb) (.inl rfl) (lt_of rfl) trivial),
        hR 3 rfl rfl (r_call (ref04_Good a ) Try.func18 rfl (by decide) [] [] (l := [(.tmp 17, .tv (.agg [.d (.val (.int .i64 a.f_Kind)), .d (.val (.int .i64 a.f_Int)), .d (.val (.bool a.f_Bool)), .d (.val (strV a.f_Text)), .d (.val (.float .f64 a.f_Num))]))]) [] rfl 0 0 rfl rfl rfl rfl rfl rfl rfl rfl rfl ⟨⟨.inl ⟨rfl, rfl⟩, ⟨.inl ⟨rfl, rfl⟩, ⟨.inl ⟨rfl, rfl⟩, ⟨.inl ⟨rfl, rfl⟩, ⟨.inl ⟨rfl, rfl⟩, trivial⟩⟩⟩⟩⟩, trivial⟩ rfl (fun b hb => by cases hb) (.inl rfl) (lt_of rfl) trivial),
        hY 6 (show decide ((decide (goodV a)) = (decide (goodV a))) = true from decide_eq_true (Eq.refl _)),
        hY 7 (show decide ((decide (goodV a)) = (decide (goodV a))) = true from decide_eq_true (Eq.refl _)),
        hS 8 (oY rfl rfl rfl rfl (lt_of rfl) (show decide ((decide (goodV a)) = (decide (goodV a))) = true from decide_eq_true (Eq.refl _)) (r_call (value_Fits a f (by omega)) Try.func32 rfl (by decide) [] [] (l := [(.tmp 21, .tv (.agg [.d (.val (.int .i64 a.f_Kind)), .d (.val (.int .i64 a.f_Int)), .d (.val (.bool a.f_Bool)), .d (.val (strV a.f_Text)), .d (.val (.float .f64 a.f_Num))])), (.tmp 22, .tv (.agg [.d (.val (strV f.f_Name)), .d (.val (.int .i64 f.f_Kind)), .d (dsl false false kStr f.f_Enum), .d (.val (.int .i64 f.f_Init.f_Kind)), .d (.val (.int .i64 f.f_Init.f_Int)), .d (.val (.bool f.f_Init.f_Bool)), .d (.val (strV f.f_Init.f_Text)), .d (.val (.float .f64 f.f_Init.f_Num))]))]) [] rfl 0 0 rfl rfl rfl rfl rfl rfl rfl rfl rfl ⟨⟨.inl ⟨rfl, rfl⟩, ⟨.inl ⟨rfl, rfl⟩, ⟨.inl ⟨rfl, rfl⟩, ⟨.inl ⟨rfl, rfl⟩, ⟨.inl ⟨rfl, rfl⟩, trivial⟩⟩⟩⟩⟩, ⟨⟨.inl ⟨rfl, rfl⟩, ⟨.inl ⟨rfl, rfl⟩, ⟨.inl ⟨rfl, rfl⟩, ⟨.inl ⟨rfl, rfl⟩, ⟨.inl ⟨rfl, rfl⟩, ⟨.inl ⟨rfl, rfl⟩, ⟨.inl ⟨rfl, rfl⟩, ⟨.inl ⟨rfl, rfl⟩, trivial⟩⟩⟩⟩⟩⟩⟩⟩, trivial⟩⟩ rfl (fun b hb => by cases hb) (.inl rfl) (lt_of rfl) trivial)),
        hY 9 (show decide ((decide (goodV a)) = (decide (goodV a))) = true from decide_eq_true (Eq.refl _)),
        hY 10 (show decide ((decide (goodV a)) = (decide (goodV a))) = true from decide_eq_true (Eq.refl _)),
        hS 11 (oY rfl rfl rfl rfl (lt_of rfl) (show decide ((decide (goodV a)) = (decide (goodV a))) = true from decide_eq_true (Eq.refl _)) (r_call (ref04_Fits a f (by omega)) Try.func33 rfl (by decide) [] [] (l := [(.tmp 24, .tv (.agg [.d (.val (.int .i64 a.f_Kind)), .d (.val (.int .i64 a.f_Int)), .d (.val (.bool a.f_Bool)), .d (.val (strV a.f_Text)), .d (.val (.float .f64 a.f_Num))])), (.tmp 25, .tv (.agg [.d (.val (strV f.f_Name)), .d (.val (.int .i64 f.f_Kind)), .d (dsl false false kStr f.f_Enum), .d (.val (.int .i64 f.f_Init.f_Kind)), .d (.val (.int .i64 f.f_Init.f_Int)), .d (.val (.bool f.f_Init.f_Bool)), .d (.val (strV f.f_Init.f_Text)), .d (.val (.float .f64 f.f_Init.f_Num))]))]) [] rfl 0 0 rfl rfl rfl rfl rfl rfl rfl rfl rfl ⟨⟨.inl ⟨rfl, rfl⟩, ⟨.inl ⟨rfl, rfl⟩, ⟨.inl ⟨rfl, rfl⟩, ⟨.inl ⟨rfl, rfl⟩, ⟨.inl ⟨rfl, rfl⟩, trivial⟩⟩⟩⟩⟩, ⟨⟨.inl ⟨rfl, rfl⟩, ⟨.inl ⟨rfl, rfl⟩, ⟨.inl ⟨rfl, rfl⟩, ⟨.inl ⟨rfl, rfl⟩, ⟨.inl ⟨rfl, rfl⟩, ⟨.inl ⟨rfl, rfl⟩, ⟨.inl ⟨rfl, rfl⟩, ⟨.inl ⟨rfl, rfl⟩, trivial⟩⟩⟩⟩⟩⟩⟩⟩, trivial⟩⟩ rfl (fun b hb => by cases hb) (.inl rfl) (lt_of rfl) trivial)),
        hY 12 (show decide ((decide (goodV a)) = (decide (goodV a))) = true from decide_eq_true (Eq.refl _)),
        hP 13 (show decide ((decide (goodV a)) = (decide (goodV a))) = true from decide_eq_true (Eq.refl _)),
        hS 15 (oY rfl rfl rfl rfl (lt_of rfl) (show decide ((fitsE a f) = (fitsE a f)) = true from decide_eq_true (Eq.refl _)) (r_call (law_awake  ) Try.func17 rfl (by decide) [] [] (l := []) [] rfl 0 0 rfl rfl rfl rfl rfl rfl rfl rfl rfl trivial rfl (fun b hb => by cases hb) (.inl rfl) (lt_of rfl) trivial)),
        hP 16 (show decide ((fitsE a f) = (fitsE a f)) = true from decide_eq_true (Eq.refl _))] (by kernel_rfl) (by kernel_rfl) (by kernel_rfl) (by kernel_rfl) (by kernel_rfl) (by kernel_rfl) ?_
      refine nT ?_
      refine T.ret ?_
      exact tE (.inl rfl) [.t 4 (.one (.d (.val (.bool true))))] ⟨⟨rfl, by kernel_rfl⟩, trivial⟩ [] rfl rfl rfl rfl rfl rfl trivial
  · refine xR [hR 1 rfl rfl (q_buildSlice 2 24 (k_api_Value false) (k_api_Value_ok false) [a] [⟨0, .tmp 5, .agg [.d (.val (.int .i64 a.f_Kind)), .d (.val (.int .i64 a.f_Int)), .d (.val (.bool a.f_Bool)), .d (.val (strV a.f_Text)), .d (.val (.float .f64 a.f_Num))], 0⟩] (cs := [.d (.val (.int .i64 a.f_Kind)), .d (.val (.int .i64 a.f_Int)), .d (.val (.bool a.f_Bool)), .d (.val (strV a.f_Text)), .d (.val (.float .f64 a.f_Num))]) Try.underlying59 iat_24 rfl zero_24 rfl rfl rfl (Nat.le_of_ble_eq_true rfl) (part_cons rfl rfl (Nat.le_of_ble_eq_true rfl) part_ok) (by kernel_rfl) (wk_eq (by kernel_rfl)) (lt_of rfl) trivial),
      hR 2 rfl rfl (r_call (law_short true false [a] (by (simp [maxLen, -List.getD_eq_getElem?_getD] <;> omega))) Try.func12 rfl (by decide) [] [2] (l := [(.tmp 6, ownV 2 (k_api_Value false) 0 [a].length)]) [(2, .live (arrK 24 (k_api_Value false) [a]))] rfl 0 0 rfl rfl rfl rfl rfl rfl rfl rfl rfl ⟨.inr (.inl ⟨rfl, (fun h => by cases h), rfl, rfl, by simp, 24, [a].length, elOf (k_api_Value false) [a], List.Mem.head _, by omega, fun i j => by rw [Nat.zero_add]⟩), trivial⟩ rfl (by intro b hb; simp only [List.mem_cons, List.not_mem_nil, or_false] at hb; rcases hb with rfl; exact ⟨_, List.Mem.head _⟩) (.inr ⟨trivial, trivial⟩) (lt_of rfl) trivial),
      hN 5 false (congrArg Bool.not (decide_eq_false hq1)),
      hN 6 false (congrArg Bool.not (decide_eq_false hq1)),
      hN 7 false (congrArg Bool.not (decide_eq_false hq1)),
      hN 8 false (congrArg Bool.not (decide_eq_false hq1)),
      hP 9 (congrArg Bool.not (decide_eq_false hq1))] (by kernel_rfl) (by kernel_rfl) ?_
    refine nT ?_
    refine T.condT (b := true) (by kernel_rfl) rfl ?_
    refine T.seq ?_
    refine xR [] (by kernel_rfl) (by kernel_rfl) ?_
    refine nT ?_
    refine T.ret ?_
    refine rT ?_
    exact tE (.inl rfl) [.t 4 (.one (.d (.val (.bool true))))] ⟨⟨rfl, by kernel_rfl⟩, trivial⟩ [] rfl rfl rfl rfl rfl rfl trivial
end Go.Proofs.Ytlabmehgcfgigaa.Q
