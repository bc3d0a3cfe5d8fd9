import Derived.Test.YtlabmehgcfgigaaC04n10
namespace Go.Proofs.Ytlabmehgcfgigaa.Q
open Go Go.RowKit
set_option linter.unusedVariables false
set_option linter.unusedSimpArgs false
set_option maxRecDepth 100000
set_option maxHeartbeats 4000000
-- quaestor/quaestorlaw04.ValueOrders
theorem law_ValueOrders (a : api_Value) (b : api_Value) (ha : a.f_Num < 18446744073709551616) (hb : b.f_Num < 18446744073709551616) : Holds Try.prog 3 ⟨[.tv (.agg [.d (.val (.int .i64 a.f_Kind)), .d (.val (.int .i64 a.f_Int)), .d (.val (.bool a.f_Bool)), .d (.val (strV a.f_Text)), .d (.val (.float .f64 a.f_Num))]), .tv (.agg [.d (.val (.int .i64 b.f_Kind)), .d (.val (.int .i64 b.f_Int)), .d (.val (.bool b.f_Bool)), .d (.val (strV b.f_Text)), .d (.val (.float .f64 b.f_Num))])], [], dv (.bool true), []⟩ := by
  refine Holds.of Try.func3 rfl (N := 29) Try.ntmps3 rfl fun w0 B0 S0 U0 => ?_
  show T _ (mkBase 29 0 w0 S0 U0 B0) ⟨[.tv (.agg [.d (.val (.int .i64 a.f_Kind)), .d (.val (.int .i64 a.f_Int)), .d (.val (.bool a.f_Bool)), .d (.val (strV a.f_Text)), .d (.val (.float .f64 a.f_Num))]), .tv (.agg [.d (.val (.int .i64 b.f_Kind)), .d (.val (.int .i64 b.f_Int)), .d (.val (.bool b.f_Bool)), .d (.val (strV b.f_Text)), .d (.val (.float .f64 b.f_Num))])], []⟩ _ _
  refine T.seq ?_
  refine xR [] (by kernel_rfl) (by kernel_rfl) ?_
  refine nT ?_
  refine T.seq ?_
  refine T.seq ?_
  refine xR [hR 2 rfl rfl (q_buildSlice 2 24 (k_api_Value false) (k_api_Value_ok false) [a, b] [⟨0, .tmp 5, .agg [.d (.val (.int .i64 a.f_Kind)), .d (.val (.int .i64 a.f_Int)), .d (.val (.bool a.f_Bool)), .d (.val (strV a.f_Text)), .d (.val (.float .f64 a.f_Num))], 0⟩, ⟨1, .tmp 6, .agg [.d (.val (.int .i64 b.f_Kind)), .d (.val (.int .i64 b.f_Int)), .d (.val (.bool b.f_Bool)), .d (.val (strV b.f_Text)), .d (.val (.float .f64 b.f_Num))], 5⟩] (cs := [.d (.val (.int .i64 a.f_Kind)), .d (.val (.int .i64 a.f_Int)), .d (.val (.bool a.f_Bool)), .d (.val (strV a.f_Text)), .d (.val (.float .f64 a.f_Num)), .d (.val (.int .i64 b.f_Kind)), .d (.val (.int .i64 b.f_Int)), .d (.val (.bool b.f_Bool)), .d (.val (strV b.f_Text)), .d (.val (.float .f64 b.f_Num))]) Try.underlying59 iat_24 rfl zero_24 rfl rfl rfl (Nat.le_of_ble_eq_true rfl) (part_cons rfl rfl (Nat.le_of_ble_eq_true rfl) (part_cons rfl rfl (Nat.le_of_ble_eq_true rfl) part_ok)) (by kernel_rfl) (wk_eq (by kernel_rfl)) (lt_of rfl) trivial),
    hR 3 rfl rfl (r_call (law_short true false [a, b] (by (simp [maxLen, -List.getD_eq_getElem?_getD] <;> omega))) Try.func12 rfl (by decide) [] [2] (l := [(.tmp 7, ownV 2 (k_api_Value false) 0 [a, b].length)]) [(2, .live (arrK 24 (k_api_Value false) [a, b]))] rfl 0 0 rfl rfl rfl rfl rfl rfl rfl rfl rfl ⟨.inr (.inl ⟨rfl, (fun h => by cases h), rfl, rfl, by simp, 24, [a, b].length, elOf (k_api_Value false) [a, b], List.Mem.head _, by omega, fun i j => by rw [Nat.zero_add]⟩), trivial⟩ rfl (by intro b hb; simp only [List.mem_cons, List.not_mem_nil, or_false] at hb; rcases hb with rfl; exact ⟨_, List.Mem.head _⟩) (.inr ⟨trivial, trivial⟩) (lt_of rfl) trivial)] (by kernel_rfl) (by kernel_rfl) ?_
  refine nT ?_
  by_cases hq1 : shortL [a, b]
  · refine T.condF (by kernel_rfl) (congrArg Bool.not (decide_eq_true hq1)) ?_
    refine T.skip ?_
    refine nT ?_
    refine T.seq ?_
    refine xD [[], [], [0, 1], [], [], [0, 1, 2, 3, 4], [0, 1, 2, 3, 4, 5], [0, 1, 2, 3, 4, 5, 6], [0, 1, 2, 3, 4, 5, 6, 7], [0, 1, 2, 3, 4, 5, 6, 7], [0, 1, 2, 3, 4, 5, 6, 7, 8, 9], [0, 1, 2, 3, 4, 5, 6, 7], [0, 1, 2, 3, 4, 5, 6, 7], [0, 1, 2, 3, 4, 5, 6, 7, 8, 9, 10, 11, 12], [0, 1, 2, 3, 4, 5, 6, 7, 8, 9, 10, 11, 12, 13], [0, 1, 2, 3, 4, 5, 6, 7, 8, 9, 10, 11, 12, 13, 14], [0, 1, 2, 3, 4, 5, 6, 7, 8, 9, 10, 11, 12, 13, 14, 15], [0, 1, 2, 3, 4, 5, 6, 7, 8, 9, 10, 11, 12, 13, 14, 15, 16], [0, 1, 2, 3, 4, 5, 6, 7, 8, 9, 10, 11, 12, 13, 14, 15, 16, 17], [0, 1, 2, 3, 4, 5, 6, 7, 8, 9, 10, 11, 12, 13, 14, 15, 16, 17, 18]] [hR 2 rfl rfl (r_call (value_Order a b (by assumption) (by assumption)) Try.func13 rfl (by decide) [] [] (l := [(.tmp 10, .tv (.agg [.d (.val (.int .i64 a.f_Kind)), .d (.val (.int .i64 a.f_Int)), .d (.val (.bool a.f_Bool)), .d (.val (strV a.f_Text)), .d (.val (.float .f64 a.f_Num))])), (.tmp 11, .tv (.agg [.d (.val (.int .i64 b.f_Kind)), .d (.val (.int .i64 b.f_Int)), .d (.val (.bool b.f_Bool)), .d (.val (strV b.f_Text)), .d (.val (.float .f64 b.f_Num))]))]) [] rfl 0 0 rfl rfl rfl rfl rfl rfl rfl rfl rfl ⟨⟨.inl ⟨rfl, rfl⟩, ⟨.inl ⟨rfl, rfl⟩, ⟨.inl ⟨rfl, rfl⟩, ⟨.inl ⟨rfl, rfl⟩, ⟨.inl ⟨rfl, rfl⟩, trivial⟩⟩⟩⟩⟩, ⟨⟨.inl ⟨rfl, rfl⟩, ⟨.inl ⟨rfl, rfl⟩, ⟨.inl ⟨rfl, rfl⟩, ⟨.inl ⟨rfl, rfl⟩, ⟨.inl ⟨rfl, rfl⟩, trivial⟩⟩⟩⟩⟩, trivial⟩⟩ rfl (fun b hb => by cases hb) (.inl rfl) (lt_of rfl) trivial),
      hR 5 rfl rfl (r_call (ref04_Order a b (by assumption) (by assumption)) Try.func14 rfl (by decide) [] [] (l := [(.tmp 13, .tv (.agg [.d (.val (.int .i64 a.f_Kind)), .d (.val (.int .i64 a.f_Int)), .d (.val (.bool a.f_Bool)), .d (.val (strV a.f_Text)), .d (.val (.float .f64 a.f_Num))])), (.tmp 14, .tv (.agg [.d (.val (.int .i64 b.f_Kind)), .d (.val (.int .i64 b.f_Int)), .d (.val (.bool b.f_Bool)), .d (.val (strV b.f_Text)), .d (.val (.float .f64 b.f_Num))]))]) [] rfl 0 0 rfl rfl rfl rfl rfl rfl rfl rfl rfl ⟨⟨.inl ⟨rfl, rfl⟩, ⟨.inl ⟨rfl, rfl⟩, ⟨.inl ⟨rfl, rfl⟩, ⟨.inl ⟨rfl, rfl⟩, ⟨.inl ⟨rfl, rfl⟩, trivial⟩⟩⟩⟩⟩, ⟨⟨.inl ⟨rfl, rfl⟩, ⟨.inl ⟨rfl, rfl⟩, ⟨.inl ⟨rfl, rfl⟩, ⟨.inl ⟨rfl, rfl⟩, ⟨.inl ⟨rfl, rfl⟩, trivial⟩⟩⟩⟩⟩, trivial⟩⟩ rfl (fun b hb => by cases hb) (.inl rfl) (lt_of rfl) trivial),
      hY 8 (show decide ((orderV a b) = (orderV a b)) = true from decide_eq_true (Eq.refl _)),
      hY 9 (show decide ((orderV a b) = (orderV a b)) = true from decide_eq_true (Eq.refl _)),
      hS 10 (oY rfl rfl rfl rfl (lt_of rfl) (show decide ((orderV a b) = (orderV a b)) = true from decide_eq_true (Eq.refl _)) (r_call (value_Same a b ) Try.func15 rfl (by decide) [] [] (l := [(.tmp 18, .tv (.agg [.d (.val (.int .i64 a.f_Kind)), .d (.val (.int .i64 a.f_Int)), .d (.val (.bool a.f_Bool)), .d (.val (strV a.f_Text)), .d (.val (.float .f64 a.f_Num))])), (.tmp 19, .tv (.agg [.d (.val (.int .i64 b.f_Kind)), .d (.val (.int .i64 b.f_Int)), .d (.val (.bool b.f_Bool)), .d (.val (strV b.f_Text)), .d (.val (.float .f64 b.f_Num))]))]) [] rfl 0 0 rfl rfl rfl rfl rfl rfl rfl rfl rfl ⟨⟨.inl ⟨rfl, rfl⟩, ⟨.inl ⟨rfl, rfl⟩, ⟨.inl ⟨rfl, rfl⟩, ⟨.inl ⟨rfl, rfl⟩, ⟨.inl ⟨rfl, rfl⟩, trivial⟩⟩⟩⟩⟩, ⟨⟨.inl ⟨rfl, rfl⟩, ⟨.inl ⟨rfl, rfl⟩, ⟨.inl ⟨rfl, rfl⟩, ⟨.inl ⟨rfl, rfl⟩, ⟨.inl ⟨rfl, rfl⟩, trivial⟩⟩⟩⟩⟩, trivial⟩⟩ rfl (fun b hb => by cases hb) (.inl rfl) (lt_of rfl) trivial)),
      hY 11 (show decide ((orderV a b) = (orderV a b)) = true from decide_eq_true (Eq.refl _)),
      hY 12 (show decide ((orderV a b) = (orderV a b)) = true from decide_eq_true (Eq.refl _)),
      hS 13 (oY rfl rfl rfl rfl (lt_of rfl) (show decide ((orderV a b) = (orderV a b)) = true from decide_eq_true (Eq.refl _)) (r_call (ref04_Same a b ) Try.func16 rfl (by decide) [] [] (l := [(.tmp 21, .tv (.agg [.d (.val (.int .i64 a.f_Kind)), .d (.val (.int .i64 a.f_Int)), .d (.val (.bool a.f_Bool)), .d (.val (strV a.f_Text)), .d (.val (.float .f64 a.f_Num))])), (.tmp 22, .tv (.agg [.d (.val (.int .i64 b.f_Kind)), .d (.val (.int .i64 b.f_Int)), .d (.val (.bool b.f_Bool)), .d (.val (strV b.f_Text)), .d (.val (.float .f64 b.f_Num))]))]) [] rfl 0 0 rfl rfl rfl rfl rfl rfl rfl rfl rfl ⟨⟨.inl ⟨rfl, rfl⟩, ⟨.inl ⟨rfl, rfl⟩, ⟨.inl ⟨rfl, rfl⟩, ⟨.inl ⟨rfl, rfl⟩, ⟨.inl ⟨rfl, rfl⟩, trivial⟩⟩⟩⟩⟩, ⟨⟨.inl ⟨rfl, rfl⟩, ⟨.inl ⟨rfl, rfl⟩, ⟨.inl ⟨rfl, rfl⟩, ⟨.inl ⟨rfl, rfl⟩, ⟨.inl ⟨rfl, rfl⟩, trivial⟩⟩⟩⟩⟩, trivial⟩⟩ rfl (fun b hb => by cases hb) (.inl rfl) (lt_of rfl) trivial)),
      hY 14 (show decide ((orderV a b) = (orderV a b)) = true from decide_eq_true (Eq.refl _)),
      hP 15 (show decide ((orderV a b) = (orderV a b)) = true from decide_eq_true (Eq.refl _)),
      hS 17 (oY rfl rfl rfl rfl (lt_of rfl) (show decide ((decide (sameV a b)) = (decide (sameV a b))) = true from decide_eq_true (Eq.refl _)) (r_call (law_awake  ) Try.func17 rfl (by decide) [] [] (l := []) [] rfl 0 0 rfl rfl rfl rfl rfl rfl rfl rfl rfl trivial rfl (fun b hb => by cases hb) (.inl rfl) (lt_of rfl) trivial)),
      hP 18 (show decide ((decide (sameV a b)) = (decide (sameV a b))) = true from decide_eq_true (Eq.refl _))] (by kernel_rfl) (by kernel_rfl) (by kernel_rfl) (by kernel_rfl) (by kernel_rfl) (by kernel_rfl) ?_
    refine nT ?_
    refine T.ret ?_
    exact tE (.inl rfl) [.t 4 (.one (.d (.val (.bool true))))] ⟨⟨rfl, by kernel_rfl⟩, trivial⟩ [] rfl rfl rfl rfl rfl rfl trivial
  · refine T.condT (by kernel_rfl) (congrArg Bool.not (decide_eq_false hq1)) ?_
    refine T.seq ?_
    refine xR [] (by kernel_rfl) (by kernel_rfl) ?_
    refine nT ?_
    refine T.ret ?_
    refine rT ?_
    exact tE (.inl rfl) [.t 4 (.one (.d (.val (.bool true))))] ⟨⟨rfl, by kernel_rfl⟩, trivial⟩ [] rfl rfl rfl rfl rfl rfl trivial
end Go.Proofs.Ytlabmehgcfgigaa.Q
