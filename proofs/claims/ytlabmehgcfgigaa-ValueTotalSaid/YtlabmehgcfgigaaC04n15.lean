import Derived.Test.YtlabmehgcfgigaaC04n13
namespace Go.Proofs.Ytlabmehgcfgigaa.Q
open Go Go.RowKit
set_option linter.unusedVariables false
set_option linter.unusedSimpArgs false
set_option maxRecDepth 100000
set_option maxHeartbeats 4000000
-- quaestor/quaestorlaw04.ValueTotal
theorem law_ValueTotal (a : api_Value) (b : api_Value) (c : api_Value) (ha : a.f_Num < 18446744073709551616) (hb : b.f_Num < 18446744073709551616) (hc : c.f_Num < 18446744073709551616) : Holds Try.prog 4 ⟨[.tv (.agg [.d (.val (.int .i64 a.f_Kind)), .d (.val (.int .i64 a.f_Int)), .d (.val (.bool a.f_Bool)), .d (.val (strV a.f_Text)), .d (.val (.float .f64 a.f_Num))]), .tv (.agg [.d (.val (.int .i64 b.f_Kind)), .d (.val (.int .i64 b.f_Int)), .d (.val (.bool b.f_Bool)), .d (.val (strV b.f_Text)), .d (.val (.float .f64 b.f_Num))]), .tv (.agg [.d (.val (.int .i64 c.f_Kind)), .d (.val (.int .i64 c.f_Int)), .d (.val (.bool c.f_Bool)), .d (.val (strV c.f_Text)), .d (.val (.float .f64 c.f_Num))])], [], dv (.bool true), []⟩ := by
  refine Holds.of Try.func4 rfl (N := 80) Try.ntmps4 rfl fun w0 B0 S0 U0 => ?_
  show T _ (mkBase 80 0 w0 S0 U0 B0) ⟨[.tv (.agg [.d (.val (.int .i64 a.f_Kind)), .d (.val (.int .i64 a.f_Int)), .d (.val (.bool a.f_Bool)), .d (.val (strV a.f_Text)), .d (.val (.float .f64 a.f_Num))]), .tv (.agg [.d (.val (.int .i64 b.f_Kind)), .d (.val (.int .i64 b.f_Int)), .d (.val (.bool b.f_Bool)), .d (.val (strV b.f_Text)), .d (.val (.float .f64 b.f_Num))]), .tv (.agg [.d (.val (.int .i64 c.f_Kind)), .d (.val (.int .i64 c.f_Int)), .d (.val (.bool c.f_Bool)), .d (.val (strV c.f_Text)), .d (.val (.float .f64 c.f_Num))])], []⟩ _ _
  have t1 := order_neg a b
  have t2 := order_self a
  have t3 := fun h1 h2 => order_trans (a := a) (b := b) (c := c) h1 h2
  have t4 := order_bd b a
  have t5 := order_bd a b
  have t6 := order_bd b c
  have t7 := order_bd a c
  refine T.seq ?_
  refine xR [] (by kernel_rfl) (by kernel_rfl) ?_
  refine nT ?_
  refine T.seq ?_
  refine T.seq ?_
  refine xR [hR 3 rfl rfl (q_buildSlice 3 24 (k_api_Value false) (k_api_Value_ok false) [a, b, c] [⟨0, .tmp 10, .agg [.d (.val (.int .i64 a.f_Kind)), .d (.val (.int .i64 a.f_Int)), .d (.val (.bool a.f_Bool)), .d (.val (strV a.f_Text)), .d (.val (.float .f64 a.f_Num))], 0⟩, ⟨1, .tmp 11, .agg [.d (.val (.int .i64 b.f_Kind)), .d (.val (.int .i64 b.f_Int)), .d (.val (.bool b.f_Bool)), .d (.val (strV b.f_Text)), .d (.val (.float .f64 b.f_Num))], 5⟩, ⟨2, .tmp 12, .agg [.d (.val (.int .i64 c.f_Kind)), .d (.val (.int .i64 c.f_Int)), .d (.val (.bool c.f_Bool)), .d (.val (strV c.f_Text)), .d (.val (.float .f64 c.f_Num))], 10⟩] (cs := [.d (.val (.int .i64 a.f_Kind)), .d (.val (.int .i64 a.f_Int)), .d (.val (.bool a.f_Bool)), .d (.val (strV a.f_Text)), .d (.val (.float .f64 a.f_Num)), .d (.val (.int .i64 b.f_Kind)), .d (.val (.int .i64 b.f_Int)), .d (.val (.bool b.f_Bool)), .d (.val (strV b.f_Text)), .d (.val (.float .f64 b.f_Num)), .d (.val (.int .i64 c.f_Kind)), .d (.val (.int .i64 c.f_Int)), .d (.val (.bool c.f_Bool)), .d (.val (strV c.f_Text)), .d (.val (.float .f64 c.f_Num))]) Try.underlying59 iat_24 rfl zero_24 rfl rfl rfl (Nat.le_of_ble_eq_true rfl) (part_cons rfl rfl (Nat.le_of_ble_eq_true rfl) (part_cons rfl rfl (Nat.le_of_ble_eq_true rfl) (part_cons rfl rfl (Nat.le_of_ble_eq_true rfl) part_ok))) (by kernel_rfl) (wk_eq (by kernel_rfl)) (lt_of rfl) trivial),
    hR 4 rfl rfl (r_call (law_short true false [a, b, c] (by (simp [maxLen, -List.getD_eq_getElem?_getD] <;> omega))) Try.func12 rfl (by decide) [] [3] (l := [(.tmp 13, ownV 3 (k_api_Value false) 0 [a, b, c].length)]) [(3, .live (arrK 24 (k_api_Value false) [a, b, c]))] rfl 0 0 rfl rfl rfl rfl rfl rfl rfl rfl rfl ⟨.inr (.inl ⟨rfl, (fun h => by cases h), rfl, rfl, by simp, 24, [a, b, c].length, elOf (k_api_Value false) [a, b, c], List.Mem.head _, by omega, fun i j => by rw [Nat.zero_add]⟩), trivial⟩ rfl (by intro b hb; simp only [List.mem_cons, List.not_mem_nil, or_false] at hb; rcases hb with rfl; exact ⟨_, List.Mem.head _⟩) (.inr ⟨trivial, trivial⟩) (lt_of rfl) trivial)] (by kernel_rfl) (by kernel_rfl) ?_
  refine nT ?_
  by_cases hq1 : shortL [a, b, c]
  · refine T.condF (by kernel_rfl) (congrArg Bool.not (decide_eq_true hq1)) ?_
    refine T.skip ?_
    refine nT ?_
    refine T.seq ?_
    refine xD [[], [], [0, 1], [], [], [0, 1, 2, 3, 4], [], [], [0, 1, 2, 3, 4, 5, 6, 7], [0, 1, 2, 3, 4, 5, 6, 7, 8], [0, 1, 2, 3, 4, 5, 6, 7, 8, 9], [0, 1, 2, 3, 4, 5, 6, 7, 8, 9, 10]] [hR 2 rfl rfl (r_call (value_Order a b (by assumption) (by assumption)) Try.func13 rfl (by decide) [] [] (l := [(.tmp 16, .tv (.agg [.d (.val (.int .i64 a.f_Kind)), .d (.val (.int .i64 a.f_Int)), .d (.val (.bool a.f_Bool)), .d (.val (strV a.f_Text)), .d (.val (.float .f64 a.f_Num))])), (.tmp 17, .tv (.agg [.d (.val (.int .i64 b.f_Kind)), .d (.val (.int .i64 b.f_Int)), .d (.val (.bool b.f_Bool)), .d (.val (strV b.f_Text)), .d (.val (.float .f64 b.f_Num))]))]) [] rfl 0 0 rfl rfl rfl rfl rfl rfl rfl rfl rfl ⟨⟨.inl ⟨rfl, rfl⟩, ⟨.inl ⟨rfl, rfl⟩, ⟨.inl ⟨rfl, rfl⟩, ⟨.inl ⟨rfl, rfl⟩, ⟨.inl ⟨rfl, rfl⟩, trivial⟩⟩⟩⟩⟩, ⟨⟨.inl ⟨rfl, rfl⟩, ⟨.inl ⟨rfl, rfl⟩, ⟨.inl ⟨rfl, rfl⟩, ⟨.inl ⟨rfl, rfl⟩, ⟨.inl ⟨rfl, rfl⟩, trivial⟩⟩⟩⟩⟩, trivial⟩⟩ rfl (fun b hb => by cases hb) (.inl rfl) (lt_of rfl) trivial),
      hR 5 rfl rfl (r_call (value_Order b c (by assumption) (by assumption)) Try.func13 rfl (by decide) [] [] (l := [(.tmp 19, .tv (.agg [.d (.val (.int .i64 b.f_Kind)), .d (.val (.int .i64 b.f_Int)), .d (.val (.bool b.f_Bool)), .d (.val (strV b.f_Text)), .d (.val (.float .f64 b.f_Num))])), (.tmp 20, .tv (.agg [.d (.val (.int .i64 c.f_Kind)), .d (.val (.int .i64 c.f_Int)), .d (.val (.bool c.f_Bool)), .d (.val (strV c.f_Text)), .d (.val (.float .f64 c.f_Num))]))]) [] rfl 0 0 rfl rfl rfl rfl rfl rfl rfl rfl rfl ⟨⟨.inl ⟨rfl, rfl⟩, ⟨.inl ⟨rfl, rfl⟩, ⟨.inl ⟨rfl, rfl⟩, ⟨.inl ⟨rfl, rfl⟩, ⟨.inl ⟨rfl, rfl⟩, trivial⟩⟩⟩⟩⟩, ⟨⟨.inl ⟨rfl, rfl⟩, ⟨.inl ⟨rfl, rfl⟩, ⟨.inl ⟨rfl, rfl⟩, ⟨.inl ⟨rfl, rfl⟩, ⟨.inl ⟨rfl, rfl⟩, trivial⟩⟩⟩⟩⟩, trivial⟩⟩ rfl (fun b hb => by cases hb) (.inl rfl) (lt_of rfl) trivial),
      hR 8 rfl rfl (r_call (value_Order a c (by assumption) (by assumption)) Try.func13 rfl (by decide) [] [] (l := [(.tmp 22, .tv (.agg [.d (.val (.int .i64 a.f_Kind)), .d (.val (.int .i64 a.f_Int)), .d (.val (.bool a.f_Bool)), .d (.val (strV a.f_Text)), .d (.val (.float .f64 a.f_Num))])), (.tmp 23, .tv (.agg [.d (.val (.int .i64 c.f_Kind)), .d (.val (.int .i64 c.f_Int)), .d (.val (.bool c.f_Bool)), .d (.val (strV c.f_Text)), .d (.val (.float .f64 c.f_Num))]))]) [] rfl 0 0 rfl rfl rfl rfl rfl rfl rfl rfl rfl ⟨⟨.inl ⟨rfl, rfl⟩, ⟨.inl ⟨rfl, rfl⟩, ⟨.inl ⟨rfl, rfl⟩, ⟨.inl ⟨rfl, rfl⟩, ⟨.inl ⟨rfl, rfl⟩, trivial⟩⟩⟩⟩⟩, ⟨⟨.inl ⟨rfl, rfl⟩, ⟨.inl ⟨rfl, rfl⟩, ⟨.inl ⟨rfl, rfl⟩, ⟨.inl ⟨rfl, rfl⟩, ⟨.inl ⟨rfl, rfl⟩, trivial⟩⟩⟩⟩⟩, trivial⟩⟩ rfl (fun b hb => by cases hb) (.inl rfl) (lt_of rfl) trivial)] (by kernel_rfl) (by kernel_rfl) (by kernel_rfl) (by kernel_rfl) (by kernel_rfl) (by kernel_rfl) ?_
    refine nT ?_
    refine T.seq ?_
    refine T.seq ?_
    by_cases hq2 : (orderV a b) ≠ (-(orderV b a))
    · exact absurd t1 hq2
    · by_cases hq3 : (orderV a a) ≠ 0
      · exact absurd t2 hq3
      · by_cases hq4 : (orderV a b) ≤ 0
        · by_cases hq5 : (orderV b c) ≤ 0
          · by_cases hq6 : (orderV a c) > 0
            · exact absurd hq6 (by have h8 := (t3 hq4 hq5).1; omega)
            · by_cases hq7 : (orderV a b) < 0
              · refine xR [hR 3 rfl rfl (r_call (value_Order b a (by assumption) (by assumption)) Try.func13 rfl (by decide) [] [] (l := [(.tmp 26, .tv (.agg [.d (.val (.int .i64 b.f_Kind)), .d (.val (.int .i64 b.f_Int)), .d (.val (.bool b.f_Bool)), .d (.val (strV b.f_Text)), .d (.val (.float .f64 b.f_Num))])), (.tmp 27, .tv (.agg [.d (.val (.int .i64 a.f_Kind)), .d (.val (.int .i64 a.f_Int)), .d (.val (.bool a.f_Bool)), .d (.val (strV a.f_Text)), .d (.val (.float .f64 a.f_Num))]))]) [] rfl 0 0 rfl rfl rfl rfl rfl rfl rfl rfl rfl ⟨⟨.inl ⟨rfl, rfl⟩, ⟨.inl ⟨rfl, rfl⟩, ⟨.inl ⟨rfl, rfl⟩, ⟨.inl ⟨rfl, rfl⟩, ⟨.inl ⟨rfl, rfl⟩, trivial⟩⟩⟩⟩⟩, ⟨⟨.inl ⟨rfl, rfl⟩, ⟨.inl ⟨rfl, rfl⟩, ⟨.inl ⟨rfl, rfl⟩, ⟨.inl ⟨rfl, rfl⟩, ⟨.inl ⟨rfl, rfl⟩, trivial⟩⟩⟩⟩⟩, trivial⟩⟩ rfl (fun b hb => by cases hb) (.inl rfl) (lt_of rfl) trivial),
                  hR 4 rfl rfl (r_un (u := .int .i64 (orderV b a)) (v := .int .i64 (-(orderV b a))) (u_neg (by rw [IntKind.wrap_i64]; omega)) (lt_of rfl) trivial),
                  hY 7 (decide_eq_false hq2),
                  hY 8 (decide_eq_false hq2),
                  hS 9 (oY rfl rfl rfl rfl (lt_of rfl) (decide_eq_false hq2) (r_call (value_Order a a (by assumption) (by assumption)) Try.func13 rfl (by decide) [] [] (l := [(.tmp 32, .tv (.agg [.d (.val (.int .i64 a.f_Kind)), .d (.val (.int .i64 a.f_Int)), .d (.val (.bool a.f_Bool)), .d (.val (strV a.f_Text)), .d (.val (.float .f64 a.f_Num))])), (.tmp 33, .tv (.agg [.d (.val (.int .i64 a.f_Kind)), .d (.val (.int .i64 a.f_Int)), .d (.val (.bool a.f_Bool)), .d (.val (strV a.f_Text)), .d (.val (.float .f64 a.f_Num))]))]) [] rfl 0 0 rfl rfl rfl rfl rfl rfl rfl rfl rfl ⟨⟨.inl ⟨rfl, rfl⟩, ⟨.inl ⟨rfl, rfl⟩, ⟨.inl ⟨rfl, rfl⟩, ⟨.inl ⟨rfl, rfl⟩, ⟨.inl ⟨rfl, rfl⟩, trivial⟩⟩⟩⟩⟩, ⟨⟨.inl ⟨rfl, rfl⟩, ⟨.inl ⟨rfl, rfl⟩, ⟨.inl ⟨rfl, rfl⟩, ⟨.inl ⟨rfl, rfl⟩, ⟨.inl ⟨rfl, rfl⟩, trivial⟩⟩⟩⟩⟩, trivial⟩⟩ rfl (fun b hb => by cases hb) (.inl rfl) (lt_of rfl) trivial)),
                  hY 10 (decide_eq_false hq2),
                  hP 11 (decide_eq_false hq2),
                  hY 13 (decide_eq_false hq3),
                  hY 14 (decide_eq_false hq3),
                  hY 15 (decide_eq_false hq3),
                  hY 16 (decide_eq_true hq4),
                  hY 17 (decide_eq_true hq4),
                  hS 18 (oY rfl rfl rfl rfl (lt_of rfl) (decide_eq_false hq3) (r_pickT (b := (decide ((orderV a b) ≤ 0))) (av := dv (.bool (decide ((orderV b c) ≤ 0)))) (lt_of rfl) trivial (decide_eq_true hq4))),
                  hY 19 (decide_eq_false hq3),
                  hY 20 (decide_eq_true hq5),
                  hY 21 (decide_eq_true hq5),
                  hS 22 (oY rfl rfl rfl rfl (lt_of rfl) (decide_eq_false hq3) (r_pickT (b := (decide ((orderV b c) ≤ 0))) (av := dv (.bool (decide ((orderV a c) > 0)))) (lt_of rfl) trivial (decide_eq_true hq5))),
                  hP 23 (decide_eq_false hq3),
                  hY 25 (decide_eq_false hq6),
                  hY 26 (decide_eq_false hq6),
                  hY 27 (decide_eq_false hq6),
                  hY 28 (decide_eq_true hq7),
                  hY 29 (decide_eq_true hq7),
                  hS 30 (oY rfl rfl rfl rfl (lt_of rfl) (decide_eq_false hq6) (r_pickT (b := (decide ((orderV a b) < 0))) (av := dv (.bool (decide ((orderV b c) ≤ 0)))) (lt_of rfl) trivial (decide_eq_true hq7))),
                  hY 31 (decide_eq_false hq6),
                  hY 32 (decide_eq_true hq5),
                  hY 33 (decide_eq_true hq5),
                  hS 34 (oY rfl rfl rfl rfl (lt_of rfl) (decide_eq_false hq6) (r_pickT (b := (decide ((orderV b c) ≤ 0))) (av := dv (.bool (decide ((orderV a c) ≥ 0)))) (lt_of rfl) trivial (decide_eq_true hq5))),
                  hP 35 (decide_eq_false hq6)] (by kernel_rfl) (by kernel_rfl) ?_
                refine nT ?_
                by_cases hq8 : (orderV a c) ≥ 0
                · exact absurd hq8 (by have h8 := (t3 (by omega) hq5).2 hq7; omega)
                · refine T.condF (by kernel_rfl) (decide_eq_false hq8) ?_
                  refine T.skip ?_
                  refine nT ?_
                  refine T.seq ?_
                  by_cases hq9 : goodV a
                  · by_cases hq10 : goodV b
                    · by_cases hq11 : (decide ((orderV a b) = 0)) = (decide (sameV a b))
                      · refine xR [hR 1 rfl rfl (r_call (ref04_Good a ) Try.func18 rfl (by decide) [] [] (l := [(.tmp 61, .tv (.agg [.d (.val (.int .i64 a.f_Kind)), .d (.val (.int .i64 a.f_Int)), .d (.val (.bool a.f_Bool)), .d (.val (strV a.f_Text)), .d (.val (.float .f64 a.f_Num))]))]) [] rfl 0 0 rfl rfl rfl rfl rfl rfl rfl rfl rfl ⟨⟨.inl ⟨rfl, rfl⟩, ⟨.inl ⟨rfl, rfl⟩, ⟨.inl ⟨rfl, rfl⟩, ⟨.inl ⟨rfl, rfl⟩, ⟨.inl ⟨rfl, rfl⟩, trivial⟩⟩⟩⟩⟩, trivial⟩ rfl (fun b hb => by cases hb) (.inl rfl) (lt_of rfl) trivial),
                          hY 4 (congrArg Bool.not (decide_eq_true hq9)),
                          hS 5 (oY rfl rfl rfl rfl (lt_of rfl) (congrArg Bool.not (decide_eq_true hq9)) (r_call (ref04_Good b ) Try.func18 rfl (by decide) [] [] (l := [(.tmp 65, .tv (.agg [.d (.val (.int .i64 b.f_Kind)), .d (.val (.int .i64 b.f_Int)), .d (.val (.bool b.f_Bool)), .d (.val (strV b.f_Text)), .d (.val (.float .f64 b.f_Num))]))]) [] rfl 0 0 rfl rfl rfl rfl rfl rfl rfl rfl rfl ⟨⟨.inl ⟨rfl, rfl⟩, ⟨.inl ⟨rfl, rfl⟩, ⟨.inl ⟨rfl, rfl⟩, ⟨.inl ⟨rfl, rfl⟩, ⟨.inl ⟨rfl, rfl⟩, trivial⟩⟩⟩⟩⟩, trivial⟩ rfl (fun b hb => by cases hb) (.inl rfl) (lt_of rfl) trivial)),
                          hY 6 (congrArg Bool.not (decide_eq_true hq9)),
                          hP 7 (congrArg Bool.not (decide_eq_true hq9)),
                          hY 9 (congrArg Bool.not (decide_eq_true hq10)),
                          hY 10 (congrArg Bool.not (decide_eq_true hq10)),
                          hY 11 (congrArg Bool.not (decide_eq_true hq10)),
                          hY 12 (congrArg Bool.not (decide_eq_true hq10)),
                          hS 13 (oY rfl rfl rfl rfl (lt_of rfl) (congrArg Bool.not (decide_eq_true hq10)) (r_call (value_Same a b ) Try.func15 rfl (by decide) [] [] (l := [(.tmp 72, .tv (.agg [.d (.val (.int .i64 a.f_Kind)), .d (.val (.int .i64 a.f_Int)), .d (.val (.bool a.f_Bool)), .d (.val (strV a.f_Text)), .d (.val (.float .f64 a.f_Num))])), (.tmp 73, .tv (.agg [.d (.val (.int .i64 b.f_Kind)), .d (.val (.int .i64 b.f_Int)), .d (.val (.bool b.f_Bool)), .d (.val (strV b.f_Text)), .d (.val (.float .f64 b.f_Num))]))]) [] rfl 0 0 rfl rfl rfl rfl rfl rfl rfl rfl rfl ⟨⟨.inl ⟨rfl, rfl⟩, ⟨.inl ⟨rfl, rfl⟩, ⟨.inl ⟨rfl, rfl⟩, ⟨.inl ⟨rfl, rfl⟩, ⟨.inl ⟨rfl, rfl⟩, trivial⟩⟩⟩⟩⟩, ⟨⟨.inl ⟨rfl, rfl⟩, ⟨.inl ⟨rfl, rfl⟩, ⟨.inl ⟨rfl, rfl⟩, ⟨.inl ⟨rfl, rfl⟩, ⟨.inl ⟨rfl, rfl⟩, trivial⟩⟩⟩⟩⟩, trivial⟩⟩ rfl (fun b hb => by cases hb) (.inl rfl) (lt_of rfl) trivial)),
                          hY 14 (congrArg Bool.not (decide_eq_true hq10)),
                          hP 15 (congrArg Bool.not (decide_eq_true hq10)),
                          hS 17 (oY rfl rfl rfl rfl (lt_of rfl) (decide_eq_true hq11) (r_call (law_awake  ) Try.func17 rfl (by decide) [] [] (l := []) [] rfl 0 0 rfl rfl rfl rfl rfl rfl rfl rfl rfl trivial rfl (fun b hb => by cases hb) (.inl rfl) (lt_of rfl) trivial)),
                          hP 18 (decide_eq_true hq11)] (by kernel_rfl) (by kernel_rfl) ?_
                        refine nT ?_
                        refine T.ret ?_
                        exact tE (.inl rfl) [.t 6 (.one (.d (.val (.bool true))))] ⟨⟨rfl, by kernel_rfl⟩, trivial⟩ [] rfl rfl rfl rfl rfl rfl trivial
                      · exact absurd (decide_eq_decide.2 (order_good hq9 hq10 ha hb)) hq11
                    · refine xR [hR 1 rfl rfl (r_call (ref04_Good a ) Try.func18 rfl (by decide) [] [] (l := [(.tmp 61, .tv (.agg [.d (.val (.int .i64 a.f_Kind)), .d (.val (.int .i64 a.f_Int)), .d (.val (.bool a.f_Bool)), .d (.val (strV a.f_Text)), .d (.val (.float .f64 a.f_Num))]))]) [] rfl 0 0 rfl rfl rfl rfl rfl rfl rfl rfl rfl ⟨⟨.inl ⟨rfl, rfl⟩, ⟨.inl ⟨rfl, rfl⟩, ⟨.inl ⟨rfl, rfl⟩, ⟨.inl ⟨rfl, rfl⟩, ⟨.inl ⟨rfl, rfl⟩, trivial⟩⟩⟩⟩⟩, trivial⟩ rfl (fun b hb => by cases hb) (.inl rfl) (lt_of rfl) trivial),
                        hY 4 (congrArg Bool.not (decide_eq_true hq9)),
                        hS 5 (oY rfl rfl rfl rfl (lt_of rfl) (congrArg Bool.not (decide_eq_true hq9)) (r_call (ref04_Good b ) Try.func18 rfl (by decide) [] [] (l := [(.tmp 65, .tv (.agg [.d (.val (.int .i64 b.f_Kind)), .d (.val (.int .i64 b.f_Int)), .d (.val (.bool b.f_Bool)), .d (.val (strV b.f_Text)), .d (.val (.float .f64 b.f_Num))]))]) [] rfl 0 0 rfl rfl rfl rfl rfl rfl rfl rfl rfl ⟨⟨.inl ⟨rfl, rfl⟩, ⟨.inl ⟨rfl, rfl⟩, ⟨.inl ⟨rfl, rfl⟩, ⟨.inl ⟨rfl, rfl⟩, ⟨.inl ⟨rfl, rfl⟩, trivial⟩⟩⟩⟩⟩, trivial⟩ rfl (fun b hb => by cases hb) (.inl rfl) (lt_of rfl) trivial)),
                        hY 6 (congrArg Bool.not (decide_eq_true hq9)),
                        hP 7 (congrArg Bool.not (decide_eq_true hq9)),
                        hN 9 false (congrArg Bool.not (decide_eq_false hq10)),
                        hN 10 false (congrArg Bool.not (decide_eq_false hq10)),
                        hN 11 false (congrArg Bool.not (decide_eq_false hq10)),
                        hN 12 false (congrArg Bool.not (decide_eq_false hq10)),
                        hN 13 false (congrArg Bool.not (decide_eq_false hq10)),
                        hN 14 false (congrArg Bool.not (decide_eq_false hq10)),
                        hP 15 (congrArg Bool.not (decide_eq_false hq10)),
                        hS 17 (oY (b := true) rfl rfl rfl rfl (lt_of rfl) rfl (r_call (law_awake  ) Try.func17 rfl (by decide) [] [] (l := []) [] rfl 0 0 rfl rfl rfl rfl rfl rfl rfl rfl rfl trivial rfl (fun b hb => by cases hb) (.inl rfl) (lt_of rfl) trivial)),
                        hP 18 (b := true) (w := true) rfl] (by kernel_rfl) (by kernel_rfl) ?_
                      refine nT ?_
                      refine T.ret ?_
                      exact tE (.inl rfl) [.t 6 (.one (.d (.val (.bool true))))] ⟨⟨rfl, by kernel_rfl⟩, trivial⟩ [] rfl rfl rfl rfl rfl rfl trivial
                  · refine xR [hR 1 rfl rfl (r_call (ref04_Good a ) Try.func18 rfl (by decide) [] [] (l := [(.tmp 61, .tv (.agg [.d (.val (.int .i64 a.f_Kind)), .d (.val (.int .i64 a.f_Int)), .d (.val (.bool a.f_Bool)), .d (.val (strV a.f_Text)), .d (.val (.float .f64 a.f_Num))]))]) [] rfl 0 0 rfl rfl rfl rfl rfl rfl rfl rfl rfl ⟨⟨.inl ⟨rfl, rfl⟩, ⟨.inl ⟨rfl, rfl⟩, ⟨.inl ⟨rfl, rfl⟩, ⟨.inl ⟨rfl, rfl⟩, ⟨.inl ⟨rfl, rfl⟩, trivial⟩⟩⟩⟩⟩, trivial⟩ rfl (fun b hb => by cases hb) (.inl rfl) (lt_of rfl) trivial),
                      hN 4 false (congrArg Bool.not (decide_eq_false hq9)),
                      hN 5 false (congrArg Bool.not (decide_eq_false hq9)),
                      hN 6 false (congrArg Bool.not (decide_eq_false hq9)),
                      hP 7 (congrArg Bool.not (decide_eq_false hq9)),
                      hN 9 (b := true) false rfl,
                      hN 10 (b := true) false rfl,
                      hN 11 (b := true) false rfl,
                      hN 12 (b := true) false rfl,
                      hN 13 (b := true) false rfl,
                      hN 14 (b := true) false rfl,
                      hP 15 (b := true) (w := true) rfl,
                      hS 17 (oY (b := true) rfl rfl rfl rfl (lt_of rfl) rfl (r_call (law_awake  ) Try.func17 rfl (by decide) [] [] (l := []) [] rfl 0 0 rfl rfl rfl rfl rfl rfl rfl rfl rfl trivial rfl (fun b hb => by cases hb) (.inl rfl) (lt_of rfl) trivial)),
                      hP 18 (b := true) (w := true) rfl] (by kernel_rfl) (by kernel_rfl) ?_
                    refine nT ?_
                    refine T.ret ?_
                    exact tE (.inl rfl) [.t 6 (.one (.d (.val (.bool true))))] ⟨⟨rfl, by kernel_rfl⟩, trivial⟩ [] rfl rfl rfl rfl rfl rfl trivial
              · refine xR [hR 3 rfl rfl (r_call (value_Order b a (by assumption) (by assumption)) Try.func13 rfl (by decide) [] [] (l := [(.tmp 26, .tv (.agg [.d (.val (.int .i64 b.f_Kind)), .d (.val (.int .i64 b.f_Int)), .d (.val (.bool b.f_Bool)), .d (.val (strV b.f_Text)), .d (.val (.float .f64 b.f_Num))])), (.tmp 27, .tv (.agg [.d (.val (.int .i64 a.f_Kind)), .d (.val (.int .i64 a.f_Int)), .d (.val (.bool a.f_Bool)), .d (.val (strV a.f_Text)), .d (.val (.float .f64 a.f_Num))]))]) [] rfl 0 0 rfl rfl rfl rfl rfl rfl rfl rfl rfl ⟨⟨.inl ⟨rfl, rfl⟩, ⟨.inl ⟨rfl, rfl⟩, ⟨.inl ⟨rfl, rfl⟩, ⟨.inl ⟨rfl, rfl⟩, ⟨.inl ⟨rfl, rfl⟩, trivial⟩⟩⟩⟩⟩, ⟨⟨.inl ⟨rfl, rfl⟩, ⟨.inl ⟨rfl, rfl⟩, ⟨.inl ⟨rfl, rfl⟩, ⟨.inl ⟨rfl, rfl⟩, ⟨.inl ⟨rfl, rfl⟩, trivial⟩⟩⟩⟩⟩, trivial⟩⟩ rfl (fun b hb => by cases hb) (.inl rfl) (lt_of rfl) trivial),
                  hR 4 rfl rfl (r_un (u := .int .i64 (orderV b a)) (v := .int .i64 (-(orderV b a))) (u_neg (by rw [IntKind.wrap_i64]; omega)) (lt_of rfl) trivial),
                  hY 7 (decide_eq_false hq2),
                  hY 8 (decide_eq_false hq2),
                  hS 9 (oY rfl rfl rfl rfl (lt_of rfl) (decide_eq_false hq2) (r_call (value_Order a a (by assumption) (by assumption)) Try.func13 rfl (by decide) [] [] (l := [(.tmp 32, .tv (.agg [.d (.val (.int .i64 a.f_Kind)), .d (.val (.int .i64 a.f_Int)), .d (.val (.bool a.f_Bool)), .d (.val (strV a.f_Text)), .d (.val (.float .f64 a.f_Num))])), (.tmp 33, .tv (.agg [.d (.val (.int .i64 a.f_Kind)), .d (.val (.int .i64 a.f_Int)), .d (.val (.bool a.f_Bool)), .d (.val (strV a.f_Text)), .d (.val (.float .f64 a.f_Num))]))]) [] rfl 0 0 rfl rfl rfl rfl rfl rfl rfl rfl rfl ⟨⟨.inl ⟨rfl, rfl⟩, ⟨.inl ⟨rfl, rfl⟩, ⟨.inl ⟨rfl, rfl⟩, ⟨.inl ⟨rfl, rfl⟩, ⟨.inl ⟨rfl, rfl⟩, trivial⟩⟩⟩⟩⟩, ⟨⟨.inl ⟨rfl, rfl⟩, ⟨.inl ⟨rfl, rfl⟩, ⟨.inl ⟨rfl, rfl⟩, ⟨.inl ⟨rfl, rfl⟩, ⟨.inl ⟨rfl, rfl⟩, trivial⟩⟩⟩⟩⟩, trivial⟩⟩ rfl (fun b hb => by cases hb) (.inl rfl) (lt_of rfl) trivial)),
                  hY 10 (decide_eq_false hq2),
                  hP 11 (decide_eq_false hq2),
                  hY 13 (decide_eq_false hq3),
                  hY 14 (decide_eq_false hq3),
                  hY 15 (decide_eq_false hq3),
                  hY 16 (decide_eq_true hq4),
                  hY 17 (decide_eq_true hq4),
                  hS 18 (oY rfl rfl rfl rfl (lt_of rfl) (decide_eq_false hq3) (r_pickT (b := (decide ((orderV a b) ≤ 0))) (av := dv (.bool (decide ((orderV b c) ≤ 0)))) (lt_of rfl) trivial (decide_eq_true hq4))),
                  hY 19 (decide_eq_false hq3),
                  hY 20 (decide_eq_true hq5),
                  hY 21 (decide_eq_true hq5),
                  hS 22 (oY rfl rfl rfl rfl (lt_of rfl) (decide_eq_false hq3) (r_pickT (b := (decide ((orderV b c) ≤ 0))) (av := dv (.bool (decide ((orderV a c) > 0)))) (lt_of rfl) trivial (decide_eq_true hq5))),
                  hP 23 (decide_eq_false hq3),
                  hY 25 (decide_eq_false hq6),
                  hY 26 (decide_eq_false hq6),
                  hY 27 (decide_eq_false hq6),
                  hN 28 true (decide_eq_false hq7),
                  hN 29 true (decide_eq_false hq7),
                  hS 30 (oY rfl rfl rfl rfl (lt_of rfl) (decide_eq_false hq6) (r_pickF (b := (decide ((orderV a b) < 0))) (av := dv (.bool false)) (lt_of rfl) ⟨rfl, trivial⟩ (decide_eq_false hq7))),
                  hY 31 (decide_eq_false hq6),
                  hN 32 (b := false) true rfl,
                  hN 33 (b := false) true rfl,
                  hS 34 (oY rfl rfl rfl rfl (lt_of rfl) (decide_eq_false hq6) (r_pickF (b := false) (av := dv (.bool false)) (lt_of rfl) ⟨rfl, trivial⟩ rfl)),
                  hP 35 (decide_eq_false hq6)] (by kernel_rfl) (by kernel_rfl) ?_
                refine nT ?_
                refine T.condF (b := false) (by kernel_rfl) rfl ?_
                refine T.skip ?_
                refine nT ?_
                refine T.seq ?_
                by_cases hq12 : goodV a
                · by_cases hq13 : goodV b
                  · by_cases hq14 : (decide ((orderV a b) = 0)) = (decide (sameV a b))
                    · refine xR [hR 1 rfl rfl (r_call (ref04_Good a ) Try.func18 rfl (by decide) [] [] (l := [(.tmp 61, .tv (.agg [.d (.val (.int .i64 a.f_Kind)), .d (.val (.int .i64 a.f_Int)), .d (.val (.bool a.f_Bool)), .d (.val (strV a.f_Text)), .d (.val (.float .f64 a.f_Num))]))]) [] rfl 0 0 rfl rfl rfl rfl rfl rfl rfl rfl rfl ⟨⟨.inl ⟨rfl, rfl⟩, ⟨.inl ⟨rfl, rfl⟩, ⟨.inl ⟨rfl, rfl⟩, ⟨.inl ⟨rfl, rfl⟩, ⟨.inl ⟨rfl, rfl⟩, trivial⟩⟩⟩⟩⟩, trivial⟩ rfl (fun b hb => by cases hb) (.inl rfl) (lt_of rfl) trivial),
                        hY 4 (congrArg Bool.not (decide_eq_true hq12)),
                        hS 5 (oY rfl rfl rfl rfl (lt_of rfl) (congrArg Bool.not (decide_eq_true hq12)) (r_call (ref04_Good b ) Try.func18 rfl (by decide) [] [] (l := [(.tmp 65, .tv (.agg [.d (.val (.int .i64 b.f_Kind)), .d (.val (.int .i64 b.f_Int)), .d (.val (.bool b.f_Bool)), .d (.val (strV b.f_Text)), .d (.val (.float .f64 b.f_Num))]))]) [] rfl 0 0 rfl rfl rfl rfl rfl rfl rfl rfl rfl ⟨⟨.inl ⟨rfl, rfl⟩, ⟨.inl ⟨rfl, rfl⟩, ⟨.inl ⟨rfl, rfl⟩, ⟨.inl ⟨rfl, rfl⟩, ⟨.inl ⟨rfl, rfl⟩, trivial⟩⟩⟩⟩⟩, trivial⟩ rfl (fun b hb => by cases hb) (.inl rfl) (lt_of rfl) trivial)),
                        hY 6 (congrArg Bool.not (decide_eq_true hq12)),
                        hP 7 (congrArg Bool.not (decide_eq_true hq12)),
                        hY 9 (congrArg Bool.not (decide_eq_true hq13)),
                        hY 10 (congrArg Bool.not (decide_eq_true hq13)),
                        hY 11 (congrArg Bool.not (decide_eq_true hq13)),
                        hY 12 (congrArg Bool.not (decide_eq_true hq13)),
                        hS 13 (oY rfl rfl rfl rfl (lt_of rfl) (congrArg Bool.not (decide_eq_true hq13)) (r_call (value_Same a b ) Try.func15 rfl (by decide) [] [] (l := [(.tmp 72, .tv (.agg [.d (.val (.int .i64 a.f_Kind)), .d (.val (.int .i64 a.f_Int)), .d (.val (.bool a.f_Bool)), .d (.val (strV a.f_Text)), .d (.val (.float .f64 a.f_Num))])), (.tmp 73, .tv (.agg [.d (.val (.int .i64 b.f_Kind)), .d (.val (.int .i64 b.f_Int)), .d (.val (.bool b.f_Bool)), .d (.val (strV b.f_Text)), .d (.val (.float .f64 b.f_Num))]))]) [] rfl 0 0 rfl rfl rfl rfl rfl rfl rfl rfl rfl ⟨⟨.inl ⟨rfl, rfl⟩, ⟨.inl ⟨rfl, rfl⟩, ⟨.inl ⟨rfl, rfl⟩, ⟨.inl ⟨rfl, rfl⟩, ⟨.inl ⟨rfl, rfl⟩, trivial⟩⟩⟩⟩⟩, ⟨⟨.inl ⟨rfl, rfl⟩, ⟨.inl ⟨rfl, rfl⟩, ⟨.inl ⟨rfl, rfl⟩, ⟨.inl ⟨rfl, rfl⟩, ⟨.inl ⟨rfl, rfl⟩, trivial⟩⟩⟩⟩⟩, trivial⟩⟩ rfl (fun b hb => by cases hb) (.inl rfl) (lt_of rfl) trivial)),
                        hY 14 (congrArg Bool.not (decide_eq_true hq13)),
                        hP 15 (congrArg Bool.not (decide_eq_true hq13)),
                        hS 17 (oY rfl rfl rfl rfl (lt_of rfl) (decide_eq_true hq14) (r_call (law_awake  ) Try.func17 rfl (by decide) [] [] (l := []) [] rfl 0 0 rfl rfl rfl rfl rfl rfl rfl rfl rfl trivial rfl (fun b hb => by cases hb) (.inl rfl) (lt_of rfl) trivial)),
                        hP 18 (decide_eq_true hq14)] (by kernel_rfl) (by kernel_rfl) ?_
                      refine nT ?_
                      refine T.ret ?_
                      exact tE (.inl rfl) [.t 6 (.one (.d (.val (.bool true))))] ⟨⟨rfl, by kernel_rfl⟩, trivial⟩ [] rfl rfl rfl rfl rfl rfl trivial
                    · exact absurd (decide_eq_decide.2 (order_good hq12 hq13 ha hb)) hq14
                  · refine xR [hR 1 rfl rfl (r_call (ref04_Good a ) Try.func18 rfl (by decide) [] [] (l := [(.tmp 61, .tv (.agg [.d (.val (.int .i64 a.f_Kind)), .d (.val (.int .i64 a.f_Int)), .d (.val (.bool a.f_Bool)), .d (.val (strV a.f_Text)), .d (.val (.float .f64 a.f_Num))]))]) [] rfl 0 0 rfl rfl rfl rfl rfl rfl rfl rfl rfl ⟨⟨.inl ⟨rfl, rfl⟩, ⟨.inl ⟨rfl, rfl⟩, ⟨.inl ⟨rfl, rfl⟩, ⟨.inl ⟨rfl, rfl⟩, ⟨.inl ⟨rfl, rfl⟩, trivial⟩⟩⟩⟩⟩, trivial⟩ rfl (fun b hb => by cases hb) (.inl rfl) (lt_of rfl) trivial),
                      hY 4 (congrArg Bool.not (decide_eq_true hq12)),
                      hS 5 (oY rfl rfl rfl rfl (lt_of rfl) (congrArg Bool.not (decide_eq_true hq12)) (r_call (ref04_Good b ) Try.func18 rfl (by decide) [] [] (l := [(.tmp 65, .tv (.agg [.d (.val (.int .i64 b.f_Kind)), .d (.val (.int .i64 b.f_Int)), .d (.val (.bool b.f_Bool)), .d (.val (strV b.f_Text)), .d (.val (.float .f64 b.f_Num))]))]) [] rfl 0 0 rfl rfl rfl rfl rfl rfl rfl rfl rfl ⟨⟨.inl ⟨rfl, rfl⟩, ⟨.inl ⟨rfl, rfl⟩, ⟨.inl ⟨rfl, rfl⟩, ⟨.inl ⟨rfl, rfl⟩, ⟨.inl ⟨rfl, rfl⟩, trivial⟩⟩⟩⟩⟩, trivial⟩ rfl (fun b hb => by cases hb) (.inl rfl) (lt_of rfl) trivial)),
                      hY 6 (congrArg Bool.not (decide_eq_true hq12)),
                      hP 7 (congrArg Bool.not (decide_eq_true hq12)),
                      hN 9 false (congrArg Bool.not (decide_eq_false hq13)),
                      hN 10 false (congrArg Bool.not (decide_eq_false hq13)),
                      hN 11 false (congrArg Bool.not (decide_eq_false hq13)),
                      hN 12 false (congrArg Bool.not (decide_eq_false hq13)),
                      hN 13 false (congrArg Bool.not (decide_eq_false hq13)),
                      hN 14 false (congrArg Bool.not (decide_eq_false hq13)),
                      hP 15 (congrArg Bool.not (decide_eq_false hq13)),
                      hS 17 (oY (b := true) rfl rfl rfl rfl (lt_of rfl) rfl (r_call (law_awake  ) Try.func17 rfl (by decide) [] [] (l := []) [] rfl 0 0 rfl rfl rfl rfl rfl rfl rfl rfl rfl trivial rfl (fun b hb => by cases hb) (.inl rfl) (lt_of rfl) trivial)),
                      hP 18 (b := true) (w := true) rfl] (by kernel_rfl) (by kernel_rfl) ?_
                    refine nT ?_
                    refine T.ret ?_
                    exact tE (.inl rfl) [.t 6 (.one (.d (.val (.bool true))))] ⟨⟨rfl, by kernel_rfl⟩, trivial⟩ [] rfl rfl rfl rfl rfl rfl trivial
                · refine xR [hR 1 rfl rfl (r_call (ref04_Good a ) Try.func18 rfl (by decide) [] [] (l := [(.tmp 61, .tv (.agg [.d (.val (.int .i64 a.f_Kind)), .d (.val (.int .i64 a.f_Int)), .d (.val (.bool a.f_Bool)), .d (.val (strV a.f_Text)), .d (.val (.float .f64 a.f_Num))]))]) [] rfl 0 0 rfl rfl rfl rfl rfl rfl rfl rfl rfl ⟨⟨.inl ⟨rfl, rfl⟩, ⟨.inl ⟨rfl, rfl⟩, ⟨.inl ⟨rfl, rfl⟩, ⟨.inl ⟨rfl, rfl⟩, ⟨.inl ⟨rfl, rfl⟩, trivial⟩⟩⟩⟩⟩, trivial⟩ rfl (fun b hb => by cases hb) (.inl rfl) (lt_of rfl) trivial),
                    hN 4 false (congrArg Bool.not (decide_eq_false hq12)),
                    hN 5 false (congrArg Bool.not (decide_eq_false hq12)),
                    hN 6 false (congrArg Bool.not (decide_eq_false hq12)),
                    hP 7 (congrArg Bool.not (decide_eq_false hq12)),
                    hN 9 (b := true) false rfl,
                    hN 10 (b := true) false rfl,
                    hN 11 (b := true) false rfl,
                    hN 12 (b := true) false rfl,
                    hN 13 (b := true) false rfl,
                    hN 14 (b := true) false rfl,
                    hP 15 (b := true) (w := true) rfl,
                    hS 17 (oY (b := true) rfl rfl rfl rfl (lt_of rfl) rfl (r_call (law_awake  ) Try.func17 rfl (by decide) [] [] (l := []) [] rfl 0 0 rfl rfl rfl rfl rfl rfl rfl rfl rfl trivial rfl (fun b hb => by cases hb) (.inl rfl) (lt_of rfl) trivial)),
                    hP 18 (b := true) (w := true) rfl] (by kernel_rfl) (by kernel_rfl) ?_
                  refine nT ?_
                  refine T.ret ?_
                  exact tE (.inl rfl) [.t 6 (.one (.d (.val (.bool true))))] ⟨⟨rfl, by kernel_rfl⟩, trivial⟩ [] rfl rfl rfl rfl rfl rfl trivial
          · by_cases hq15 : (orderV a b) < 0
            · refine xR [hR 3 rfl rfl (r_call (value_Order b a (by assumption) (by assumption)) Try.func13 rfl (by decide) [] [] (l := [(.tmp 26, .tv (.agg [.d (.val (.int .i64 b.f_Kind)), .d (.val (.int .i64 b.f_Int)), .d (.val (.bool b.f_Bool)), .d (.val (strV b.f_Text)), .d (.val (.float .f64 b.f_Num))])), (.tmp 27, .tv (.agg [.d (.val (.int .i64 a.f_Kind)), .d (.val (.int .i64 a.f_Int)), .d (.val (.bool a.f_Bool)), .d (.val (strV a.f_Text)), .d (.val (.float .f64 a.f_Num))]))]) [] rfl 0 0 rfl rfl rfl rfl rfl rfl rfl rfl rfl ⟨⟨.inl ⟨rfl, rfl⟩, ⟨.inl ⟨rfl, rfl⟩, ⟨.inl ⟨rfl, rfl⟩, ⟨.inl ⟨rfl, rfl⟩, ⟨.inl ⟨rfl, rfl⟩, trivial⟩⟩⟩⟩⟩, ⟨⟨.inl ⟨rfl, rfl⟩, ⟨.inl ⟨rfl, rfl⟩, ⟨.inl ⟨rfl, rfl⟩, ⟨.inl ⟨rfl, rfl⟩, ⟨.inl ⟨rfl, rfl⟩, trivial⟩⟩⟩⟩⟩, trivial⟩⟩ rfl (fun b hb => by cases hb) (.inl rfl) (lt_of rfl) trivial),
                hR 4 rfl rfl (r_un (u := .int .i64 (orderV b a)) (v := .int .i64 (-(orderV b a))) (u_neg (by rw [IntKind.wrap_i64]; omega)) (lt_of rfl) trivial),
                hY 7 (decide_eq_false hq2),
                hY 8 (decide_eq_false hq2),
                hS 9 (oY rfl rfl rfl rfl (lt_of rfl) (decide_eq_false hq2) (r_call (value_Order a a (by assumption) (by assumption)) Try.func13 rfl (by decide) [] [] (l := [(.tmp 32, .tv (.agg [.d (.val (.int .i64 a.f_Kind)), .d (.val (.int .i64 a.f_Int)), .d (.val (.bool a.f_Bool)), .d (.val (strV a.f_Text)), .d (.val (.float .f64 a.f_Num))])), (.tmp 33, .tv (.agg [.d (.val (.int .i64 a.f_Kind)), .d (.val (.int .i64 a.f_Int)), .d (.val (.bool a.f_Bool)), .d (.val (strV a.f_Text)), .d (.val (.float .f64 a.f_Num))]))]) [] rfl 0 0 rfl rfl rfl rfl rfl rfl rfl rfl rfl ⟨⟨.inl ⟨rfl, rfl⟩, ⟨.inl ⟨rfl, rfl⟩, ⟨.inl ⟨rfl, rfl⟩, ⟨.inl ⟨rfl, rfl⟩, ⟨.inl ⟨rfl, rfl⟩, trivial⟩⟩⟩⟩⟩, ⟨⟨.inl ⟨rfl, rfl⟩, ⟨.inl ⟨rfl, rfl⟩, ⟨.inl ⟨rfl, rfl⟩, ⟨.inl ⟨rfl, rfl⟩, ⟨.inl ⟨rfl, rfl⟩, trivial⟩⟩⟩⟩⟩, trivial⟩⟩ rfl (fun b hb => by cases hb) (.inl rfl) (lt_of rfl) trivial)),
                hY 10 (decide_eq_false hq2),
                hP 11 (decide_eq_false hq2),
                hY 13 (decide_eq_false hq3),
                hY 14 (decide_eq_false hq3),
                hY 15 (decide_eq_false hq3),
                hY 16 (decide_eq_true hq4),
                hY 17 (decide_eq_true hq4),
                hS 18 (oY rfl rfl rfl rfl (lt_of rfl) (decide_eq_false hq3) (r_pickT (b := (decide ((orderV a b) ≤ 0))) (av := dv (.bool (decide ((orderV b c) ≤ 0)))) (lt_of rfl) trivial (decide_eq_true hq4))),
                hY 19 (decide_eq_false hq3),
                hN 20 true (decide_eq_false hq5),
                hN 21 true (decide_eq_false hq5),
                hS 22 (oY rfl rfl rfl rfl (lt_of rfl) (decide_eq_false hq3) (r_pickF (b := (decide ((orderV b c) ≤ 0))) (av := dv (.bool false)) (lt_of rfl) ⟨rfl, trivial⟩ (decide_eq_false hq5))),
                hP 23 (decide_eq_false hq3),
                hY 25 (b := false) (w := false) rfl,
                hY 26 (b := false) (w := false) rfl,
                hY 27 (b := false) (w := false) rfl,
                hY 28 (decide_eq_true hq15),
                hY 29 (decide_eq_true hq15),
                hS 30 (oY (b := false) rfl rfl rfl rfl (lt_of rfl) rfl (r_pickT (b := (decide ((orderV a b) < 0))) (av := dv (.bool (decide ((orderV b c) ≤ 0)))) (lt_of rfl) trivial (decide_eq_true hq15))),
                hY 31 (b := false) (w := false) rfl,
                hN 32 true (decide_eq_false hq5),
                hN 33 true (decide_eq_false hq5),
                hS 34 (oY (b := false) rfl rfl rfl rfl (lt_of rfl) rfl (r_pickF (b := (decide ((orderV b c) ≤ 0))) (av := dv (.bool false)) (lt_of rfl) ⟨rfl, trivial⟩ (decide_eq_false hq5))),
                hP 35 (b := false) (w := false) rfl] (by kernel_rfl) (by kernel_rfl) ?_
              refine nT ?_
              refine T.condF (b := false) (by kernel_rfl) rfl ?_
              refine T.skip ?_
              refine nT ?_
              refine T.seq ?_
              by_cases hq16 : goodV a
              · by_cases hq17 : goodV b
                · by_cases hq18 : (decide ((orderV a b) = 0)) = (decide (sameV a b))
                  · refine xR [hR 1 rfl rfl (r_call (ref04_Good a ) Try.func18 rfl (by decide) [] [] (l := [(.tmp 61, .tv (.agg [.d (.val (.int .i64 a.f_Kind)), .d (.val (.int .i64 a.f_Int)), .d (.val (.bool a.f_Bool)), .d (.val (strV a.f_Text)), .d (.val (.float .f64 a.f_Num))]))]) [] rfl 0 0 rfl rfl rfl rfl rfl rfl rfl rfl rfl ⟨⟨.inl ⟨rfl, rfl⟩, ⟨.inl ⟨rfl, rfl⟩, ⟨.inl ⟨rfl, rfl⟩, ⟨.inl ⟨rfl, rfl⟩, ⟨.inl ⟨rfl, rfl⟩, trivial⟩⟩⟩⟩⟩, trivial⟩ rfl (fun b hb => by cases hb) (.inl rfl) (lt_of rfl) trivial),
                      hY 4 (congrArg Bool.not (decide_eq_true hq16)),
                      hS 5 (oY rfl rfl rfl rfl (lt_of rfl) (congrArg Bool.not (decide_eq_true hq16)) (r_call (ref04_Good b ) Try.func18 rfl (by decide) [] [] (l := [(.tmp 65, .tv (.agg [.d (.val (.int .i64 b.f_Kind)), .d (.val (.int .i64 b.f_Int)), .d (.val (.bool b.f_Bool)), .d (.val (strV b.f_Text)), .d (.val (.float .f64 b.f_Num))]))]) [] rfl 0 0 rfl rfl rfl rfl rfl rfl rfl rfl rfl ⟨⟨.inl ⟨rfl, rfl⟩, ⟨.inl ⟨rfl, rfl⟩, ⟨.inl ⟨rfl, rfl⟩, ⟨.inl ⟨rfl, rfl⟩, ⟨.inl ⟨rfl, rfl⟩, trivial⟩⟩⟩⟩⟩, trivial⟩ rfl (fun b hb => by cases hb) (.inl rfl) (lt_of rfl) trivial)),
                      hY 6 (congrArg Bool.not (decide_eq_true hq16)),
                      hP 7 (congrArg Bool.not (decide_eq_true hq16)),
                      hY 9 (congrArg Bool.not (decide_eq_true hq17)),
                      hY 10 (congrArg Bool.not (decide_eq_true hq17)),
                      hY 11 (congrArg Bool.not (decide_eq_true hq17)),
                      hY 12 (congrArg Bool.not (decide_eq_true hq17)),
                      hS 13 (oY rfl rfl rfl rfl (lt_of rfl) (congrArg Bool.not (decide_eq_true hq17)) (r_call (value_Same a b ) Try.func15 rfl (by decide) [] [] (l := [(.tmp 72, .tv (.agg [.d (.val (.int .i64 a.f_Kind)), .d (.val (.int .i64 a.f_Int)), .d (.val (.bool a.f_Bool)), .d (.val (strV a.f_Text)), .d (.val (.float .f64 a.f_Num))])), (.tmp 73, .tv (.agg [.d (.val (.int .i64 b.f_Kind)), .d (.val (.int .i64 b.f_Int)), .d (.val (.bool b.f_Bool)), .d (.val (strV b.f_Text)), .d (.val (.float .f64 b.f_Num))]))]) [] rfl 0 0 rfl rfl rfl rfl rfl rfl rfl rfl rfl ⟨⟨.inl ⟨rfl, rfl⟩, ⟨.inl ⟨rfl, rfl⟩, ⟨.inl ⟨rfl, rfl⟩, ⟨.inl ⟨rfl, rfl⟩, ⟨.inl ⟨rfl, rfl⟩, trivial⟩⟩⟩⟩⟩, ⟨⟨.inl ⟨rfl, rfl⟩, ⟨.inl ⟨rfl, rfl⟩, ⟨.inl ⟨rfl, rfl⟩, ⟨.inl ⟨rfl, rfl⟩, ⟨.inl ⟨rfl, rfl⟩, trivial⟩⟩⟩⟩⟩, trivial⟩⟩ rfl (fun b hb => by cases hb) (.inl rfl) (lt_of rfl) trivial)),
                      hY 14 (congrArg Bool.not (decide_eq_true hq17)),
                      hP 15 (congrArg Bool.not (decide_eq_true hq17)),
                      hS 17 (oY rfl rfl rfl rfl (lt_of rfl) (decide_eq_true hq18) (r_call (law_awake  ) Try.func17 rfl (by decide) [] [] (l := []) [] rfl 0 0 rfl rfl rfl rfl rfl rfl rfl rfl rfl trivial rfl (fun b hb => by cases hb) (.inl rfl) (lt_of rfl) trivial)),
                      hP 18 (decide_eq_true hq18)] (by kernel_rfl) (by kernel_rfl) ?_
                    refine nT ?_
                    refine T.ret ?_
                    exact tE (.inl rfl) [.t 6 (.one (.d (.val (.bool true))))] ⟨⟨rfl, by kernel_rfl⟩, trivial⟩ [] rfl rfl rfl rfl rfl rfl trivial
                  · exact absurd (decide_eq_decide.2 (order_good hq16 hq17 ha hb)) hq18
                · refine xR [hR 1 rfl rfl (r_call (ref04_Good a ) Try.func18 rfl (by decide) [] [] (l := [(.tmp 61, .tv (.agg [.d (.val (.int .i64 a.f_Kind)), .d (.val (.int .i64 a.f_Int)), .d (.val (.bool a.f_Bool)), .d (.val (strV a.f_Text)), .d (.val (.float .f64 a.f_Num))]))]) [] rfl 0 0 rfl rfl rfl rfl rfl rfl rfl rfl rfl ⟨⟨.inl ⟨rfl, rfl⟩, ⟨.inl ⟨rfl, rfl⟩, ⟨.inl ⟨rfl, rfl⟩, ⟨.inl ⟨rfl, rfl⟩, ⟨.inl ⟨rfl, rfl⟩, trivial⟩⟩⟩⟩⟩, trivial⟩ rfl (fun b hb => by cases hb) (.inl rfl) (lt_of rfl) trivial),
                    hY 4 (congrArg Bool.not (decide_eq_true hq16)),
                    hS 5 (oY rfl rfl rfl rfl (lt_of rfl) (congrArg Bool.not (decide_eq_true hq16)) (r_call (ref04_Good b ) Try.func18 rfl (by decide) [] [] (l := [(.tmp 65, .tv (.agg [.d (.val (.int .i64 b.f_Kind)), .d (.val (.int .i64 b.f_Int)), .d (.val (.bool b.f_Bool)), .d (.val (strV b.f_Text)), .d (.val (.float .f64 b.f_Num))]))]) [] rfl 0 0 rfl rfl rfl rfl rfl rfl rfl rfl rfl ⟨⟨.inl ⟨rfl, rfl⟩, ⟨.inl ⟨rfl, rfl⟩, ⟨.inl ⟨rfl, rfl⟩, ⟨.inl ⟨rfl, rfl⟩, ⟨.inl ⟨rfl, rfl⟩, trivial⟩⟩⟩⟩⟩, trivial⟩ rfl (fun b hb => by cases hb) (.inl rfl) (lt_of rfl) trivial)),
                    hY 6 (congrArg Bool.not (decide_eq_true hq16)),
                    hP 7 (congrArg Bool.not (decide_eq_true hq16)),
                    hN 9 false (congrArg Bool.not (decide_eq_false hq17)),
                    hN 10 false (congrArg Bool.not (decide_eq_false hq17)),
                    hN 11 false (congrArg Bool.not (decide_eq_false hq17)),
                    hN 12 false (congrArg Bool.not (decide_eq_false hq17)),
                    hN 13 false (congrArg Bool.not (decide_eq_false hq17)),
                    hN 14 false (congrArg Bool.not (decide_eq_false hq17)),
                    hP 15 (congrArg Bool.not (decide_eq_false hq17)),
                    hS 17 (oY (b := true) rfl rfl rfl rfl (lt_of rfl) rfl (r_call (law_awake  ) Try.func17 rfl (by decide) [] [] (l := []) [] rfl 0 0 rfl rfl rfl rfl rfl rfl rfl rfl rfl trivial rfl (fun b hb => by cases hb) (.inl rfl) (lt_of rfl) trivial)),
                    hP 18 (b := true) (w := true) rfl] (by kernel_rfl) (by kernel_rfl) ?_
                  refine nT ?_
                  refine T.ret ?_
                  exact tE (.inl rfl) [.t 6 (.one (.d (.val (.bool true))))] ⟨⟨rfl, by kernel_rfl⟩, trivial⟩ [] rfl rfl rfl rfl rfl rfl trivial
              · refine xR [hR 1 rfl rfl (r_call (ref04_Good a ) Try.func18 rfl (by decide) [] [] (l := [(.tmp 61, .tv (.agg [.d (.val (.int .i64 a.f_Kind)), .d (.val (.int .i64 a.f_Int)), .d (.val (.bool a.f_Bool)), .d (.val (strV a.f_Text)), .d (.val (.float .f64 a.f_Num))]))]) [] rfl 0 0 rfl rfl rfl rfl rfl rfl rfl rfl rfl ⟨⟨.inl ⟨rfl, rfl⟩, ⟨.inl ⟨rfl, rfl⟩, ⟨.inl ⟨rfl, rfl⟩, ⟨.inl ⟨rfl, rfl⟩, ⟨.inl ⟨rfl, rfl⟩, trivial⟩⟩⟩⟩⟩, trivial⟩ rfl (fun b hb => by cases hb) (.inl rfl) (lt_of rfl) trivial),
                  hN 4 false (congrArg Bool.not (decide_eq_false hq16)),
                  hN 5 false (congrArg Bool.not (decide_eq_false hq16)),
                  hN 6 false (congrArg Bool.not (decide_eq_false hq16)),
                  hP 7 (congrArg Bool.not (decide_eq_false hq16)),
                  hN 9 (b := true) false rfl,
                  hN 10 (b := true) false rfl,
                  hN 11 (b := true) false rfl,
                  hN 12 (b := true) false rfl,
                  hN 13 (b := true) false rfl,
                  hN 14 (b := true) false rfl,
                  hP 15 (b := true) (w := true) rfl,
                  hS 17 (oY (b := true) rfl rfl rfl rfl (lt_of rfl) rfl (r_call (law_awake  ) Try.func17 rfl (by decide) [] [] (l := []) [] rfl 0 0 rfl rfl rfl rfl rfl rfl rfl rfl rfl trivial rfl (fun b hb => by cases hb) (.inl rfl) (lt_of rfl) trivial)),
                  hP 18 (b := true) (w := true) rfl] (by kernel_rfl) (by kernel_rfl) ?_
                refine nT ?_
                refine T.ret ?_
                exact tE (.inl rfl) [.t 6 (.one (.d (.val (.bool true))))] ⟨⟨rfl, by kernel_rfl⟩, trivial⟩ [] rfl rfl rfl rfl rfl rfl trivial
            · refine xR [hR 3 rfl rfl (r_call (value_Order b a (by assumption) (by assumption)) Try.func13 rfl (by decide) [] [] (l := [(.tmp 26, .tv (.agg [.d (.val (.int .i64 b.f_Kind)), .d (.val (.int .i64 b.f_Int)), .d (.val (.bool b.f_Bool)), .d (.val (strV b.f_Text)), .d (.val (.float .f64 b.f_Num))])), (.tmp 27, .tv (.agg [.d (.val (.int .i64 a.f_Kind)), .d (.val (.int .i64 a.f_Int)), .d (.val (.bool a.f_Bool)), .d (.val (strV a.f_Text)), .d (.val (.float .f64 a.f_Num))]))]) [] rfl 0 0 rfl rfl rfl rfl rfl rfl rfl rfl rfl ⟨⟨.inl ⟨rfl, rfl⟩, ⟨.inl ⟨rfl, rfl⟩, ⟨.inl ⟨rfl, rfl⟩, ⟨.inl ⟨rfl, rfl⟩, ⟨.inl ⟨rfl, rfl⟩, trivial⟩⟩⟩⟩⟩, ⟨⟨.inl ⟨rfl, rfl⟩, ⟨.inl ⟨rfl, rfl⟩, ⟨.inl ⟨rfl, rfl⟩, ⟨.inl ⟨rfl, rfl⟩, ⟨.inl ⟨rfl, rfl⟩, trivial⟩⟩⟩⟩⟩, trivial⟩⟩ rfl (fun b hb => by cases hb) (.inl rfl) (lt_of rfl) trivial),
                hR 4 rfl rfl (r_un (u := .int .i64 (orderV b a)) (v := .int .i64 (-(orderV b a))) (u_neg (by rw [IntKind.wrap_i64]; omega)) (lt_of rfl) trivial),
                hY 7 (decide_eq_false hq2),
                hY 8 (decide_eq_false hq2),
                hS 9 (oY rfl rfl rfl rfl (lt_of rfl) (decide_eq_false hq2) (r_call (value_Order a a (by assumption) (by assumption)) Try.func13 rfl (by decide) [] [] (l := [(.tmp 32, .tv (.agg [.d (.val (.int .i64 a.f_Kind)), .d (.val (.int .i64 a.f_Int)), .d (.val (.bool a.f_Bool)), .d (.val (strV a.f_Text)), .d (.val (.float .f64 a.f_Num))])), (.tmp 33, .tv (.agg [.d (.val (.int .i64 a.f_Kind)), .d (.val (.int .i64 a.f_Int)), .d (.val (.bool a.f_Bool)), .d (.val (strV a.f_Text)), .d (.val (.float .f64 a.f_Num))]))]) [] rfl 0 0 rfl rfl rfl rfl rfl rfl rfl rfl rfl ⟨⟨.inl ⟨rfl, rfl⟩, ⟨.inl ⟨rfl, rfl⟩, ⟨.inl ⟨rfl, rfl⟩, ⟨.inl ⟨rfl, rfl⟩, ⟨.inl ⟨rfl, rfl⟩, trivial⟩⟩⟩⟩⟩, ⟨⟨.inl ⟨rfl, rfl⟩, ⟨.inl ⟨rfl, rfl⟩, ⟨.inl ⟨rfl, rfl⟩, ⟨.inl ⟨rfl, rfl⟩, ⟨.inl ⟨rfl, rfl⟩, trivial⟩⟩⟩⟩⟩, trivial⟩⟩ rfl (fun b hb => by cases hb) (.inl rfl) (lt_of rfl) trivial)),
                hY 10 (decide_eq_false hq2),
                hP 11 (decide_eq_false hq2),
                hY 13 (decide_eq_false hq3),
                hY 14 (decide_eq_false hq3),
                hY 15 (decide_eq_false hq3),
                hY 16 (decide_eq_true hq4),
                hY 17 (decide_eq_true hq4),
                hS 18 (oY rfl rfl rfl rfl (lt_of rfl) (decide_eq_false hq3) (r_pickT (b := (decide ((orderV a b) ≤ 0))) (av := dv (.bool (decide ((orderV b c) ≤ 0)))) (lt_of rfl) trivial (decide_eq_true hq4))),
                hY 19 (decide_eq_false hq3),
                hN 20 true (decide_eq_false hq5),
                hN 21 true (decide_eq_false hq5),
                hS 22 (oY rfl rfl rfl rfl (lt_of rfl) (decide_eq_false hq3) (r_pickF (b := (decide ((orderV b c) ≤ 0))) (av := dv (.bool false)) (lt_of rfl) ⟨rfl, trivial⟩ (decide_eq_false hq5))),
                hP 23 (decide_eq_false hq3),
                hY 25 (b := false) (w := false) rfl,
                hY 26 (b := false) (w := false) rfl,
                hY 27 (b := false) (w := false) rfl,
                hN 28 true (decide_eq_false hq15),
                hN 29 true (decide_eq_false hq15),
                hS 30 (oY (b := false) rfl rfl rfl rfl (lt_of rfl) rfl (r_pickF (b := (decide ((orderV a b) < 0))) (av := dv (.bool false)) (lt_of rfl) ⟨rfl, trivial⟩ (decide_eq_false hq15))),
                hY 31 (b := false) (w := false) rfl,
                hN 32 (b := false) true rfl,
                hN 33 (b := false) true rfl,
                hS 34 (oY (b := false) rfl rfl rfl rfl (lt_of rfl) rfl (r_pickF (b := false) (av := dv (.bool false)) (lt_of rfl) ⟨rfl, trivial⟩ rfl)),
                hP 35 (b := false) (w := false) rfl] (by kernel_rfl) (by kernel_rfl) ?_
              refine nT ?_
              refine T.condF (b := false) (by kernel_rfl) rfl ?_
              refine T.skip ?_
              refine nT ?_
              refine T.seq ?_
              by_cases hq19 : goodV a
              · by_cases hq20 : goodV b
                · by_cases hq21 : (decide ((orderV a b) = 0)) = (decide (sameV a b))
                  · refine xR [hR 1 rfl rfl (r_call (ref04_Good a ) Try.func18 rfl (by decide) [] [] (l := [(.tmp 61, .tv (.agg [.d (.val (.int .i64 a.f_Kind)), .d (.val (.int .i64 a.f_Int)), .d (.val (.bool a.f_Bool)), .d (.val (strV a.f_Text)), .d (.val (.float .f64 a.f_Num))]))]) [] rfl 0 0 rfl rfl rfl rfl rfl rfl rfl rfl rfl ⟨⟨.inl ⟨rfl, rfl⟩, ⟨.inl ⟨rfl, rfl⟩, ⟨.inl ⟨rfl, rfl⟩, ⟨.inl ⟨rfl, rfl⟩, ⟨.inl ⟨rfl, rfl⟩, trivial⟩⟩⟩⟩⟩, trivial⟩ rfl (fun b hb => by cases hb) (.inl rfl) (lt_of rfl) trivial),
                      hY 4 (congrArg Bool.not (decide_eq_true hq19)),
                      hS 5 (oY rfl rfl rfl rfl (lt_of rfl) (congrArg Bool.not (decide_eq_true hq19)) (r_call (ref04_Good b ) Try.func18 rfl (by decide) [] [] (l := [(.tmp 65, .tv (.agg [.d (.val (.int .i64 b.f_Kind)), .d (.val (.int .i64 b.f_Int)), .d (.val (.bool b.f_Bool)), .d (.val (strV b.f_Text)), .d (.val (.float .f64 b.f_Num))]))]) [] rfl 0 0 rfl rfl rfl rfl rfl rfl rfl rfl rfl ⟨⟨.inl ⟨rfl, rfl⟩, ⟨.inl ⟨rfl, rfl⟩, ⟨.inl ⟨rfl, rfl⟩, ⟨.inl ⟨rfl, rfl⟩, ⟨.inl ⟨rfl, rfl⟩, trivial⟩⟩⟩⟩⟩, trivial⟩ rfl (fun b hb => by cases hb) (.inl rfl) (lt_of rfl) trivial)),
                      hY 6 (congrArg Bool.not (decide_eq_true hq19)),
                      hP 7 (congrArg Bool.not (decide_eq_true hq19)),
                      hY 9 (congrArg Bool.not (decide_eq_true hq20)),
                      hY 10 (congrArg Bool.not (decide_eq_true hq20)),
                      hY 11 (congrArg Bool.not (decide_eq_true hq20)),
                      hY 12 (congrArg Bool.not (decide_eq_true hq20)),
                      hS 13 (oY rfl rfl rfl rfl (lt_of rfl) (congrArg Bool.not (decide_eq_true hq20)) (r_call (value_Same a b ) Try.func15 rfl (by decide) [] [] (l := [(.tmp 72, .tv (.agg [.d (.val (.int .i64 a.f_Kind)), .d (.val (.int .i64 a.f_Int)), .d (.val (.bool a.f_Bool)), .d (.val (strV a.f_Text)), .d (.val (.float .f64 a.f_Num))])), (.tmp 73, .tv (.agg [.d (.val (.int .i64 b.f_Kind)), .d (.val (.int .i64 b.f_Int)), .d (.val (.bool b.f_Bool)), .d (.val (strV b.f_Text)), .d (.val (.float .f64 b.f_Num))]))]) [] rfl 0 0 rfl rfl rfl rfl rfl rfl rfl rfl rfl ⟨⟨.inl ⟨rfl, rfl⟩, ⟨.inl ⟨rfl, rfl⟩, ⟨.inl ⟨rfl, rfl⟩, ⟨.inl ⟨rfl, rfl⟩, ⟨.inl ⟨rfl, rfl⟩, trivial⟩⟩⟩⟩⟩, ⟨⟨.inl ⟨rfl, rfl⟩, ⟨.inl ⟨rfl, rfl⟩, ⟨.inl ⟨rfl, rfl⟩, ⟨.inl ⟨rfl, rfl⟩, ⟨.inl ⟨rfl, rfl⟩, trivial⟩⟩⟩⟩⟩, trivial⟩⟩ rfl (fun b hb => by cases hb) (.inl rfl) (lt_of rfl) trivial)),
                      hY 14 (congrArg Bool.not (decide_eq_true hq20)),
                      hP 15 (congrArg Bool.not (decide_eq_true hq20)),
                      hS 17 (oY rfl rfl rfl rfl (lt_of rfl) (decide_eq_true hq21) (r_call (law_awake  ) Try.func17 rfl (by decide) [] [] (l := []) [] rfl 0 0 rfl rfl rfl rfl rfl rfl rfl rfl rfl trivial rfl (fun b hb => by cases hb) (.inl rfl) (lt_of rfl) trivial)),
                      hP 18 (decide_eq_true hq21)] (by kernel_rfl) (by kernel_rfl) ?_
                    refine nT ?_
                    refine T.ret ?_
                    exact tE (.inl rfl) [.t 6 (.one (.d (.val (.bool true))))] ⟨⟨rfl, by kernel_rfl⟩, trivial⟩ [] rfl rfl rfl rfl rfl rfl trivial
                  · exact absurd (decide_eq_decide.2 (order_good hq19 hq20 ha hb)) hq21
                · refine xR [hR 1 rfl rfl (r_call (ref04_Good a ) Try.func18 rfl (by decide) [] [] (l := [(.tmp 61, .tv (.agg [.d (.val (.int .i64 a.f_Kind)), .d (.val (.int .i64 a.f_Int)), .d (.val (.bool a.f_Bool)), .d (.val (strV a.f_Text)), .d (.val (.float .f64 a.f_Num))]))]) [] rfl 0 0 rfl rfl rfl rfl rfl rfl rfl rfl rfl ⟨⟨.inl ⟨rfl, rfl⟩, ⟨.inl ⟨rfl, rfl⟩, ⟨.inl ⟨rfl, rfl⟩, ⟨.inl ⟨rfl, rfl⟩, ⟨.inl ⟨rfl, rfl⟩, trivial⟩⟩⟩⟩⟩, trivial⟩ rfl (fun b hb => by cases hb) (.inl rfl) (lt_of rfl) trivial),
                    hY 4 (congrArg Bool.not (decide_eq_true hq19)),
                    hS 5 (oY rfl rfl rfl rfl (lt_of rfl) (congrArg Bool.not (decide_eq_true hq19)) (r_call (ref04_Good b ) Try.func18 rfl (by decide) [] [] (l := [(.tmp 65, .tv (.agg [.d (.val (.int .i64 b.f_Kind)), .d (.val (.int .i64 b.f_Int)), .d (.val (.bool b.f_Bool)), .d (.val (strV b.f_Text)), .d (.val (.float .f64 b.f_Num))]))]) [] rfl 0 0 rfl rfl rfl rfl rfl rfl rfl rfl rfl ⟨⟨.inl ⟨rfl, rfl⟩, ⟨.inl ⟨rfl, rfl⟩, ⟨.inl ⟨rfl, rfl⟩, ⟨.inl ⟨rfl, rfl⟩, ⟨.inl ⟨rfl, rfl⟩, trivial⟩⟩⟩⟩⟩, trivial⟩ rfl (fun b hb => by cases hb) (.inl rfl) (lt_of rfl) trivial)),
                    hY 6 (congrArg Bool.not (decide_eq_true hq19)),
                    hP 7 (congrArg Bool.not (decide_eq_true hq19)),
                    hN 9 false (congrArg Bool.not (decide_eq_false hq20)),
                    hN 10 false (congrArg Bool.not (decide_eq_false hq20)),
                    hN 11 false (congrArg Bool.not (decide_eq_false hq20)),
                    hN 12 false (congrArg Bool.not (decide_eq_false hq20)),
                    hN 13 false (congrArg Bool.not (decide_eq_false hq20)),
                    hN 14 false (congrArg Bool.not (decide_eq_false hq20)),
                    hP 15 (congrArg Bool.not (decide_eq_false hq20)),
                    hS 17 (oY (b := true) rfl rfl rfl rfl (lt_of rfl) rfl (r_call (law_awake  ) Try.func17 rfl (by decide) [] [] (l := []) [] rfl 0 0 rfl rfl rfl rfl rfl rfl rfl rfl rfl trivial rfl (fun b hb => by cases hb) (.inl rfl) (lt_of rfl) trivial)),
                    hP 18 (b := true) (w := true) rfl] (by kernel_rfl) (by kernel_rfl) ?_
                  refine nT ?_
                  refine T.ret ?_
                  exact tE (.inl rfl) [.t 6 (.one (.d (.val (.bool true))))] ⟨⟨rfl, by kernel_rfl⟩, trivial⟩ [] rfl rfl rfl rfl rfl rfl trivial
              · refine xR [hR 1 rfl rfl (r_call (ref04_Good a ) Try.func18 rfl (by decide) [] [] (l := [(.tmp 61, .tv (.agg [.d (.val (.int .i64 a.f_Kind)), .d (.val (.int .i64 a.f_Int)), .d (.val (.bool a.f_Bool)), .d (.val (strV a.f_Text)), .d (.val (.float .f64 a.f_Num))]))]) [] rfl 0 0 rfl rfl rfl rfl rfl rfl rfl rfl rfl ⟨⟨.inl ⟨rfl, rfl⟩, ⟨.inl ⟨rfl, rfl⟩, ⟨.inl ⟨rfl, rfl⟩, ⟨.inl ⟨rfl, rfl⟩, ⟨.inl ⟨rfl, rfl⟩, trivial⟩⟩⟩⟩⟩, trivial⟩ rfl (fun b hb => by cases hb) (.inl rfl) (lt_of rfl) trivial),
                  hN 4 false (congrArg Bool.not (decide_eq_false hq19)),
                  hN 5 false (congrArg Bool.not (decide_eq_false hq19)),
                  hN 6 false (congrArg Bool.not (decide_eq_false hq19)),
                  hP 7 (congrArg Bool.not (decide_eq_false hq19)),
                  hN 9 (b := true) false rfl,
                  hN 10 (b := true) false rfl,
                  hN 11 (b := true) false rfl,
                  hN 12 (b := true) false rfl,
                  hN 13 (b := true) false rfl,
                  hN 14 (b := true) false rfl,
                  hP 15 (b := true) (w := true) rfl,
                  hS 17 (oY (b := true) rfl rfl rfl rfl (lt_of rfl) rfl (r_call (law_awake  ) Try.func17 rfl (by decide) [] [] (l := []) [] rfl 0 0 rfl rfl rfl rfl rfl rfl rfl rfl rfl trivial rfl (fun b hb => by cases hb) (.inl rfl) (lt_of rfl) trivial)),
                  hP 18 (b := true) (w := true) rfl] (by kernel_rfl) (by kernel_rfl) ?_
                refine nT ?_
                refine T.ret ?_
                exact tE (.inl rfl) [.t 6 (.one (.d (.val (.bool true))))] ⟨⟨rfl, by kernel_rfl⟩, trivial⟩ [] rfl rfl rfl rfl rfl rfl trivial
        · by_cases hq22 : (orderV a b) < 0
          · by_cases hq23 : (orderV b c) ≤ 0
            · refine xR [hR 3 rfl rfl (r_call (value_Order b a (by assumption) (by assumption)) Try.func13 rfl (by decide) [] [] (l := [(.tmp 26, .tv (.agg [.d (.val (.int .i64 b.f_Kind)), .d (.val (.int .i64 b.f_Int)), .d (.val (.bool b.f_Bool)), .d (.val (strV b.f_Text)), .d (.val (.float .f64 b.f_Num))])), (.tmp 27, .tv (.agg [.d (.val (.int .i64 a.f_Kind)), .d (.val (.int .i64 a.f_Int)), .d (.val (.bool a.f_Bool)), .d (.val (strV a.f_Text)), .d (.val (.float .f64 a.f_Num))]))]) [] rfl 0 0 rfl rfl rfl rfl rfl rfl rfl rfl rfl ⟨⟨.inl ⟨rfl, rfl⟩, ⟨.inl ⟨rfl, rfl⟩, ⟨.inl ⟨rfl, rfl⟩, ⟨.inl ⟨rfl, rfl⟩, ⟨.inl ⟨rfl, rfl⟩, trivial⟩⟩⟩⟩⟩, ⟨⟨.inl ⟨rfl, rfl⟩, ⟨.inl ⟨rfl, rfl⟩, ⟨.inl ⟨rfl, rfl⟩, ⟨.inl ⟨rfl, rfl⟩, ⟨.inl ⟨rfl, rfl⟩, trivial⟩⟩⟩⟩⟩, trivial⟩⟩ rfl (fun b hb => by cases hb) (.inl rfl) (lt_of rfl) trivial),
                hR 4 rfl rfl (r_un (u := .int .i64 (orderV b a)) (v := .int .i64 (-(orderV b a))) (u_neg (by rw [IntKind.wrap_i64]; omega)) (lt_of rfl) trivial),
                hY 7 (decide_eq_false hq2),
                hY 8 (decide_eq_false hq2),
                hS 9 (oY rfl rfl rfl rfl (lt_of rfl) (decide_eq_false hq2) (r_call (value_Order a a (by assumption) (by assumption)) Try.func13 rfl (by decide) [] [] (l := [(.tmp 32, .tv (.agg [.d (.val (.int .i64 a.f_Kind)), .d (.val (.int .i64 a.f_Int)), .d (.val (.bool a.f_Bool)), .d (.val (strV a.f_Text)), .d (.val (.float .f64 a.f_Num))])), (.tmp 33, .tv (.agg [.d (.val (.int .i64 a.f_Kind)), .d (.val (.int .i64 a.f_Int)), .d (.val (.bool a.f_Bool)), .d (.val (strV a.f_Text)), .d (.val (.float .f64 a.f_Num))]))]) [] rfl 0 0 rfl rfl rfl rfl rfl rfl rfl rfl rfl ⟨⟨.inl ⟨rfl, rfl⟩, ⟨.inl ⟨rfl, rfl⟩, ⟨.inl ⟨rfl, rfl⟩, ⟨.inl ⟨rfl, rfl⟩, ⟨.inl ⟨rfl, rfl⟩, trivial⟩⟩⟩⟩⟩, ⟨⟨.inl ⟨rfl, rfl⟩, ⟨.inl ⟨rfl, rfl⟩, ⟨.inl ⟨rfl, rfl⟩, ⟨.inl ⟨rfl, rfl⟩, ⟨.inl ⟨rfl, rfl⟩, trivial⟩⟩⟩⟩⟩, trivial⟩⟩ rfl (fun b hb => by cases hb) (.inl rfl) (lt_of rfl) trivial)),
                hY 10 (decide_eq_false hq2),
                hP 11 (decide_eq_false hq2),
                hY 13 (decide_eq_false hq3),
                hY 14 (decide_eq_false hq3),
                hY 15 (decide_eq_false hq3),
                hN 16 true (decide_eq_false hq4),
                hN 17 true (decide_eq_false hq4),
                hS 18 (oY rfl rfl rfl rfl (lt_of rfl) (decide_eq_false hq3) (r_pickF (b := (decide ((orderV a b) ≤ 0))) (av := dv (.bool false)) (lt_of rfl) ⟨rfl, trivial⟩ (decide_eq_false hq4))),
                hY 19 (decide_eq_false hq3),
                hN 20 (b := false) true rfl,
                hN 21 (b := false) true rfl,
                hS 22 (oY rfl rfl rfl rfl (lt_of rfl) (decide_eq_false hq3) (r_pickF (b := false) (av := dv (.bool false)) (lt_of rfl) ⟨rfl, trivial⟩ rfl)),
                hP 23 (decide_eq_false hq3),
                hY 25 (b := false) (w := false) rfl,
                hY 26 (b := false) (w := false) rfl,
                hY 27 (b := false) (w := false) rfl,
                hY 28 (decide_eq_true hq22),
                hY 29 (decide_eq_true hq22),
                hS 30 (oY (b := false) rfl rfl rfl rfl (lt_of rfl) rfl (r_pickT (b := (decide ((orderV a b) < 0))) (av := dv (.bool (decide ((orderV b c) ≤ 0)))) (lt_of rfl) trivial (decide_eq_true hq22))),
                hY 31 (b := false) (w := false) rfl,
                hY 32 (decide_eq_true hq23),
                hY 33 (decide_eq_true hq23),
                hS 34 (oY (b := false) rfl rfl rfl rfl (lt_of rfl) rfl (r_pickT (b := (decide ((orderV b c) ≤ 0))) (av := dv (.bool (decide ((orderV a c) ≥ 0)))) (lt_of rfl) trivial (decide_eq_true hq23))),
                hP 35 (b := false) (w := false) rfl] (by kernel_rfl) (by kernel_rfl) ?_
              refine nT ?_
              by_cases hq24 : (orderV a c) ≥ 0
              · exact absurd hq24 (by have h8 := (t3 (by omega) hq23).2 hq22; omega)
              · refine T.condF (by kernel_rfl) (decide_eq_false hq24) ?_
                refine T.skip ?_
                refine nT ?_
                refine T.seq ?_
                by_cases hq25 : goodV a
                · by_cases hq26 : goodV b
                  · by_cases hq27 : (decide ((orderV a b) = 0)) = (decide (sameV a b))
                    · refine xR [hR 1 rfl rfl (r_call (ref04_Good a ) Try.func18 rfl (by decide) [] [] (l := [(.tmp 61, .tv (.agg [.d (.val (.int .i64 a.f_Kind)), .d (.val (.int .i64 a.f_Int)), .d (.val (.bool a.f_Bool)), .d (.val (strV a.f_Text)), .d (.val (.float .f64 a.f_Num))]))]) [] rfl 0 0 rfl rfl rfl rfl rfl rfl rfl rfl rfl ⟨⟨.inl ⟨rfl, rfl⟩, ⟨.inl ⟨rfl, rfl⟩, ⟨.inl ⟨rfl, rfl⟩, ⟨.inl ⟨rfl, rfl⟩, ⟨.inl ⟨rfl, rfl⟩, trivial⟩⟩⟩⟩⟩, trivial⟩ rfl (fun b hb => by cases hb) (.inl rfl) (lt_of rfl) trivial),
                        hY 4 (congrArg Bool.not (decide_eq_true hq25)),
                        hS 5 (oY rfl rfl rfl rfl (lt_of rfl) (congrArg Bool.not (decide_eq_true hq25)) (r_call (ref04_Good b ) Try.func18 rfl (by decide) [] [] (l := [(.tmp 65, .tv (.agg [.d (.val (.int .i64 b.f_Kind)), .d (.val (.int .i64 b.f_Int)), .d (.val (.bool b.f_Bool)), .d (.val (strV b.f_Text)), .d (.val (.float .f64 b.f_Num))]))]) [] rfl 0 0 rfl rfl rfl rfl rfl rfl rfl rfl rfl ⟨⟨.inl ⟨rfl, rfl⟩, ⟨.inl ⟨rfl, rfl⟩, ⟨.inl ⟨rfl, rfl⟩, ⟨.inl ⟨rfl, rfl⟩, ⟨.inl ⟨rfl, rfl⟩, trivial⟩⟩⟩⟩⟩, trivial⟩ rfl (fun b hb => by cases hb) (.inl rfl) (lt_of rfl) trivial)),
                        hY 6 (congrArg Bool.not (decide_eq_true hq25)),
                        hP 7 (congrArg Bool.not (decide_eq_true hq25)),
                        hY 9 (congrArg Bool.not (decide_eq_true hq26)),
                        hY 10 (congrArg Bool.not (decide_eq_true hq26)),
                        hY 11 (congrArg Bool.not (decide_eq_true hq26)),
                        hY 12 (congrArg Bool.not (decide_eq_true hq26)),
                        hS 13 (oY rfl rfl rfl rfl (lt_of rfl) (congrArg Bool.not (decide_eq_true hq26)) (r_call (value_Same a b ) Try.func15 rfl (by decide) [] [] (l := [(.tmp 72, .tv (.agg [.d (.val (.int .i64 a.f_Kind)), .d (.val (.int .i64 a.f_Int)), .d (.val (.bool a.f_Bool)), .d (.val (strV a.f_Text)), .d (.val (.float .f64 a.f_Num))])), (.tmp 73, .tv (.agg [.d (.val (.int .i64 b.f_Kind)), .d (.val (.int .i64 b.f_Int)), .d (.val (.bool b.f_Bool)), .d (.val (strV b.f_Text)), .d (.val (.float .f64 b.f_Num))]))]) [] rfl 0 0 rfl rfl rfl rfl rfl rfl rfl rfl rfl ⟨⟨.inl ⟨rfl, rfl⟩, ⟨.inl ⟨rfl, rfl⟩, ⟨.inl ⟨rfl, rfl⟩, ⟨.inl ⟨rfl, rfl⟩, ⟨.inl ⟨rfl, rfl⟩, trivial⟩⟩⟩⟩⟩, ⟨⟨.inl ⟨rfl, rfl⟩, ⟨.inl ⟨rfl, rfl⟩, ⟨.inl ⟨rfl, rfl⟩, ⟨.inl ⟨rfl, rfl⟩, ⟨.inl ⟨rfl, rfl⟩, trivial⟩⟩⟩⟩⟩, trivial⟩⟩ rfl (fun b hb => by cases hb) (.inl rfl) (lt_of rfl) trivial)),
                        hY 14 (congrArg Bool.not (decide_eq_true hq26)),
                        hP 15 (congrArg Bool.not (decide_eq_true hq26)),
                        hS 17 (oY rfl rfl rfl rfl (lt_of rfl) (decide_eq_true hq27) (r_call (law_awake  ) Try.func17 rfl (by decide) [] [] (l := []) [] rfl 0 0 rfl rfl rfl rfl rfl rfl rfl rfl rfl trivial rfl (fun b hb => by cases hb) (.inl rfl) (lt_of rfl) trivial)),
                        hP 18 (decide_eq_true hq27)] (by kernel_rfl) (by kernel_rfl) ?_
                      refine nT ?_
                      refine T.ret ?_
                      exact tE (.inl rfl) [.t 6 (.one (.d (.val (.bool true))))] ⟨⟨rfl, by kernel_rfl⟩, trivial⟩ [] rfl rfl rfl rfl rfl rfl trivial
                    · exact absurd (decide_eq_decide.2 (order_good hq25 hq26 ha hb)) hq27
                  · refine xR [hR 1 rfl rfl (r_call (ref04_Good a ) Try.func18 rfl (by decide) [] [] (l := [(.tmp 61, .tv (.agg [.d (.val (.int .i64 a.f_Kind)), .d (.val (.int .i64 a.f_Int)), .d (.val (.bool a.f_Bool)), .d (.val (strV a.f_Text)), .d (.val (.float .f64 a.f_Num))]))]) [] rfl 0 0 rfl rfl rfl rfl rfl rfl rfl rfl rfl ⟨⟨.inl ⟨rfl, rfl⟩, ⟨.inl ⟨rfl, rfl⟩, ⟨.inl ⟨rfl, rfl⟩, ⟨.inl ⟨rfl, rfl⟩, ⟨.inl ⟨rfl, rfl⟩, trivial⟩⟩⟩⟩⟩, trivial⟩ rfl (fun b hb => by cases hb) (.inl rfl) (lt_of rfl) trivial),
                      hY 4 (congrArg Bool.not (decide_eq_true hq25)),
                      hS 5 (oY rfl rfl rfl rfl (lt_of rfl) (congrArg Bool.not (decide_eq_true hq25)) (r_call (ref04_Good b ) Try.func18 rfl (by decide) [] [] (l := [(.tmp 65, .tv (.agg [.d (.val (.int .i64 b.f_Kind)), .d (.val (.int .i64 b.f_Int)), .d (.val (.bool b.f_Bool)), .d (.val (strV b.f_Text)), .d (.val (.float .f64 b.f_Num))]))]) [] rfl 0 0 rfl rfl rfl rfl rfl rfl rfl rfl rfl ⟨⟨.inl ⟨rfl, rfl⟩, ⟨.inl ⟨rfl, rfl⟩, ⟨.inl ⟨rfl, rfl⟩, ⟨.inl ⟨rfl, rfl⟩, ⟨.inl ⟨rfl, rfl⟩, trivial⟩⟩⟩⟩⟩, trivial⟩ rfl (fun b hb => by cases hb) (.inl rfl) (lt_of rfl) trivial)),
                      hY 6 (congrArg Bool.not (decide_eq_true hq25)),
                      hP 7 (congrArg Bool.not (decide_eq_true hq25)),
                      hN 9 false (congrArg Bool.not (decide_eq_false hq26)),
                      hN 10 false (congrArg Bool.not (decide_eq_false hq26)),
                      hN 11 false (congrArg Bool.not (decide_eq_false hq26)),
                      hN 12 false (congrArg Bool.not (decide_eq_false hq26)),
                      hN 13 false (congrArg Bool.not (decide_eq_false hq26)),
                      hN 14 false (congrArg Bool.not (decide_eq_false hq26)),
                      hP 15 (congrArg Bool.not (decide_eq_false hq26)),
                      hS 17 (oY (b := true) rfl rfl rfl rfl (lt_of rfl) rfl (r_call (law_awake  ) Try.func17 rfl (by decide) [] [] (l := []) [] rfl 0 0 rfl rfl rfl rfl rfl rfl rfl rfl rfl trivial rfl (fun b hb => by cases hb) (.inl rfl) (lt_of rfl) trivial)),
                      hP 18 (b := true) (w := true) rfl] (by kernel_rfl) (by kernel_rfl) ?_
                    refine nT ?_
                    refine T.ret ?_
                    exact tE (.inl rfl) [.t 6 (.one (.d (.val (.bool true))))] ⟨⟨rfl, by kernel_rfl⟩, trivial⟩ [] rfl rfl rfl rfl rfl rfl trivial
                · refine xR [hR 1 rfl rfl (r_call (ref04_Good a ) Try.func18 rfl (by decide) [] [] (l := [(.tmp 61, .tv (.agg [.d (.val (.int .i64 a.f_Kind)), .d (.val (.int .i64 a.f_Int)), .d (.val (.bool a.f_Bool)), .d (.val (strV a.f_Text)), .d (.val (.float .f64 a.f_Num))]))]) [] rfl 0 0 rfl rfl rfl rfl rfl rfl rfl rfl rfl ⟨⟨.inl ⟨rfl, rfl⟩, ⟨.inl ⟨rfl, rfl⟩, ⟨.inl ⟨rfl, rfl⟩, ⟨.inl ⟨rfl, rfl⟩, ⟨.inl ⟨rfl, rfl⟩, trivial⟩⟩⟩⟩⟩, trivial⟩ rfl (fun b hb => by cases hb) (.inl rfl) (lt_of rfl) trivial),
                    hN 4 false (congrArg Bool.not (decide_eq_false hq25)),
                    hN 5 false (congrArg Bool.not (decide_eq_false hq25)),
                    hN 6 false (congrArg Bool.not (decide_eq_false hq25)),
                    hP 7 (congrArg Bool.not (decide_eq_false hq25)),
                    hN 9 (b := true) false rfl,
                    hN 10 (b := true) false rfl,
                    hN 11 (b := true) false rfl,
                    hN 12 (b := true) false rfl,
                    hN 13 (b := true) false rfl,
                    hN 14 (b := true) false rfl,
                    hP 15 (b := true) (w := true) rfl,
                    hS 17 (oY (b := true) rfl rfl rfl rfl (lt_of rfl) rfl (r_call (law_awake  ) Try.func17 rfl (by decide) [] [] (l := []) [] rfl 0 0 rfl rfl rfl rfl rfl rfl rfl rfl rfl trivial rfl (fun b hb => by cases hb) (.inl rfl) (lt_of rfl) trivial)),
                    hP 18 (b := true) (w := true) rfl] (by kernel_rfl) (by kernel_rfl) ?_
                  refine nT ?_
                  refine T.ret ?_
                  exact tE (.inl rfl) [.t 6 (.one (.d (.val (.bool true))))] ⟨⟨rfl, by kernel_rfl⟩, trivial⟩ [] rfl rfl rfl rfl rfl rfl trivial
            · refine xR [hR 3 rfl rfl (r_call (value_Order b a (by assumption) (by assumption)) Try.func13 rfl (by decide) [] [] (l := [(.tmp 26, .tv (.agg [.d (.val (.int .i64 b.f_Kind)), .d (.val (.int .i64 b.f_Int)), .d (.val (.bool b.f_Bool)), .d (.val (strV b.f_Text)), .d (.val (.float .f64 b.f_Num))])), (.tmp 27, .tv (.agg [.d (.val (.int .i64 a.f_Kind)), .d (.val (.int .i64 a.f_Int)), .d (.val (.bool a.f_Bool)), .d (.val (strV a.f_Text)), .d (.val (.float .f64 a.f_Num))]))]) [] rfl 0 0 rfl rfl rfl rfl rfl rfl rfl rfl rfl ⟨⟨.inl ⟨rfl, rfl⟩, ⟨.inl ⟨rfl, rfl⟩, ⟨.inl ⟨rfl, rfl⟩, ⟨.inl ⟨rfl, rfl⟩, ⟨.inl ⟨rfl, rfl⟩, trivial⟩⟩⟩⟩⟩, ⟨⟨.inl ⟨rfl, rfl⟩, ⟨.inl ⟨rfl, rfl⟩, ⟨.inl ⟨rfl, rfl⟩, ⟨.inl ⟨rfl, rfl⟩, ⟨.inl ⟨rfl, rfl⟩, trivial⟩⟩⟩⟩⟩, trivial⟩⟩ rfl (fun b hb => by cases hb) (.inl rfl) (lt_of rfl) trivial),
                hR 4 rfl rfl (r_un (u := .int .i64 (orderV b a)) (v := .int .i64 (-(orderV b a))) (u_neg (by rw [IntKind.wrap_i64]; omega)) (lt_of rfl) trivial),
                hY 7 (decide_eq_false hq2),
                hY 8 (decide_eq_false hq2),
                hS 9 (oY rfl rfl rfl rfl (lt_of rfl) (decide_eq_false hq2) (r_call (value_Order a a (by assumption) (by assumption)) Try.func13 rfl (by decide) [] [] (l := [(.tmp 32, .tv (.agg [.d (.val (.int .i64 a.f_Kind)), .d (.val (.int .i64 a.f_Int)), .d (.val (.bool a.f_Bool)), .d (.val (strV a.f_Text)), .d (.val (.float .f64 a.f_Num))])), (.tmp 33, .tv (.agg [.d (.val (.int .i64 a.f_Kind)), .d (.val (.int .i64 a.f_Int)), .d (.val (.bool a.f_Bool)), .d (.val (strV a.f_Text)), .d (.val (.float .f64 a.f_Num))]))]) [] rfl 0 0 rfl rfl rfl rfl rfl rfl rfl rfl rfl ⟨⟨.inl ⟨rfl, rfl⟩, ⟨.inl ⟨rfl, rfl⟩, ⟨.inl ⟨rfl, rfl⟩, ⟨.inl ⟨rfl, rfl⟩, ⟨.inl ⟨rfl, rfl⟩, trivial⟩⟩⟩⟩⟩, ⟨⟨.inl ⟨rfl, rfl⟩, ⟨.inl ⟨rfl, rfl⟩, ⟨.inl ⟨rfl, rfl⟩, ⟨.inl ⟨rfl, rfl⟩, ⟨.inl ⟨rfl, rfl⟩, trivial⟩⟩⟩⟩⟩, trivial⟩⟩ rfl (fun b hb => by cases hb) (.inl rfl) (lt_of rfl) trivial)),
                hY 10 (decide_eq_false hq2),
                hP 11 (decide_eq_false hq2),
                hY 13 (decide_eq_false hq3),
                hY 14 (decide_eq_false hq3),
                hY 15 (decide_eq_false hq3),
                hN 16 true (decide_eq_false hq4),
                hN 17 true (decide_eq_false hq4),
                hS 18 (oY rfl rfl rfl rfl (lt_of rfl) (decide_eq_false hq3) (r_pickF (b := (decide ((orderV a b) ≤ 0))) (av := dv (.bool false)) (lt_of rfl) ⟨rfl, trivial⟩ (decide_eq_false hq4))),
                hY 19 (decide_eq_false hq3),
                hN 20 (b := false) true rfl,
                hN 21 (b := false) true rfl,
                hS 22 (oY rfl rfl rfl rfl (lt_of rfl) (decide_eq_false hq3) (r_pickF (b := false) (av := dv (.bool false)) (lt_of rfl) ⟨rfl, trivial⟩ rfl)),
                hP 23 (decide_eq_false hq3),
                hY 25 (b := false) (w := false) rfl,
                hY 26 (b := false) (w := false) rfl,
                hY 27 (b := false) (w := false) rfl,
                hY 28 (decide_eq_true hq22),
                hY 29 (decide_eq_true hq22),
                hS 30 (oY (b := false) rfl rfl rfl rfl (lt_of rfl) rfl (r_pickT (b := (decide ((orderV a b) < 0))) (av := dv (.bool (decide ((orderV b c) ≤ 0)))) (lt_of rfl) trivial (decide_eq_true hq22))),
                hY 31 (b := false) (w := false) rfl,
                hN 32 true (decide_eq_false hq23),
                hN 33 true (decide_eq_false hq23),
                hS 34 (oY (b := false) rfl rfl rfl rfl (lt_of rfl) rfl (r_pickF (b := (decide ((orderV b c) ≤ 0))) (av := dv (.bool false)) (lt_of rfl) ⟨rfl, trivial⟩ (decide_eq_false hq23))),
                hP 35 (b := false) (w := false) rfl] (by kernel_rfl) (by kernel_rfl) ?_
              refine nT ?_
              refine T.condF (b := false) (by kernel_rfl) rfl ?_
              refine T.skip ?_
              refine nT ?_
              refine T.seq ?_
              by_cases hq28 : goodV a
              · by_cases hq29 : goodV b
                · by_cases hq30 : (decide ((orderV a b) = 0)) = (decide (sameV a b))
                  · refine xR [hR 1 rfl rfl (r_call (ref04_Good a ) Try.func18 rfl (by decide) [] [] (l := [(.tmp 61, .tv (.agg [.d (.val (.int .i64 a.f_Kind)), .d (.val (.int .i64 a.f_Int)), .d (.val (.bool a.f_Bool)), .d (.val (strV a.f_Text)), .d (.val (.float .f64 a.f_Num))]))]) [] rfl 0 0 rfl rfl rfl rfl rfl rfl rfl rfl rfl ⟨⟨.inl ⟨rfl, rfl⟩, ⟨.inl ⟨rfl, rfl⟩, ⟨.inl ⟨rfl, rfl⟩, ⟨.inl ⟨rfl, rfl⟩, ⟨.inl ⟨rfl, rfl⟩, trivial⟩⟩⟩⟩⟩, trivial⟩ rfl (fun b hb => by cases hb) (.inl rfl) (lt_of rfl) trivial),
                      hY 4 (congrArg Bool.not (decide_eq_true hq28)),
                      hS 5 (oY rfl rfl rfl rfl (lt_of rfl) (congrArg Bool.not (decide_eq_true hq28)) (r_call (ref04_Good b ) Try.func18 rfl (by decide) [] [] (l := [(.tmp 65, .tv (.agg [.d (.val (.int .i64 b.f_Kind)), .d (.val (.int .i64 b.f_Int)), .d (.val (.bool b.f_Bool)), .d (.val (strV b.f_Text)), .d (.val (.float .f64 b.f_Num))]))]) [] rfl 0 0 rfl rfl rfl rfl rfl rfl rfl rfl rfl ⟨⟨.inl ⟨rfl, rfl⟩, ⟨.inl ⟨rfl, rfl⟩, ⟨.inl ⟨rfl, rfl⟩, ⟨.inl ⟨rfl, rfl⟩, ⟨.inl ⟨rfl, rfl⟩, trivial⟩⟩⟩⟩⟩, trivial⟩ rfl (fun b hb => by cases hb) (.inl rfl) (lt_of rfl) trivial)),
                      hY 6 (congrArg Bool.not (decide_eq_true hq28)),
                      hP 7 (congrArg Bool.not (decide_eq_true hq28)),
                      hY 9 (congrArg Bool.not (decide_eq_true hq29)),
                      hY 10 (congrArg Bool.not (decide_eq_true hq29)),
                      hY 11 (congrArg Bool.not (decide_eq_true hq29)),
                      hY 12 (congrArg Bool.not (decide_eq_true hq29)),
                      hS 13 (oY rfl rfl rfl rfl (lt_of rfl) (congrArg Bool.not (decide_eq_true hq29)) (r_call (value_Same a b ) Try.func15 rfl (by decide) [] [] (l := [(.tmp 72, .tv (.agg [.d (.val (.int .i64 a.f_Kind)), .d (.val (.int .i64 a.f_Int)), .d (.val (.bool a.f_Bool)), .d (.val (strV a.f_Text)), .d (.val (.float .f64 a.f_Num))])), (.tmp 73, .tv (.agg [.d (.val (.int .i64 b.f_Kind)), .d (.val (.int .i64 b.f_Int)), .d (.val (.bool b.f_Bool)), .d (.val (strV b.f_Text)), .d (.val (.float .f64 b.f_Num))]))]) [] rfl 0 0 rfl rfl rfl rfl rfl rfl rfl rfl rfl ⟨⟨.inl ⟨rfl, rfl⟩, ⟨.inl ⟨rfl, rfl⟩, ⟨.inl ⟨rfl, rfl⟩, ⟨.inl ⟨rfl, rfl⟩, ⟨.inl ⟨rfl, rfl⟩, trivial⟩⟩⟩⟩⟩, ⟨⟨.inl ⟨rfl, rfl⟩, ⟨.inl ⟨rfl, rfl⟩, ⟨.inl ⟨rfl, rfl⟩, ⟨.inl ⟨rfl, rfl⟩, ⟨.inl ⟨rfl, rfl⟩, trivial⟩⟩⟩⟩⟩, trivial⟩⟩ rfl (fun b hb => by cases hb) (.inl rfl) (lt_of rfl) trivial)),
                      hY 14 (congrArg Bool.not (decide_eq_true hq29)),
                      hP 15 (congrArg Bool.not (decide_eq_true hq29)),
                      hS 17 (oY rfl rfl rfl rfl (lt_of rfl) (decide_eq_true hq30) (r_call (law_awake  ) Try.func17 rfl (by decide) [] [] (l := []) [] rfl 0 0 rfl rfl rfl rfl rfl rfl rfl rfl rfl trivial rfl (fun b hb => by cases hb) (.inl rfl) (lt_of rfl) trivial)),
                      hP 18 (decide_eq_true hq30)] (by kernel_rfl) (by kernel_rfl) ?_
                    refine nT ?_
                    refine T.ret ?_
                    exact tE (.inl rfl) [.t 6 (.one (.d (.val (.bool true))))] ⟨⟨rfl, by kernel_rfl⟩, trivial⟩ [] rfl rfl rfl rfl rfl rfl trivial
                  · exact absurd (decide_eq_decide.2 (order_good hq28 hq29 ha hb)) hq30
                · refine xR [hR 1 rfl rfl (r_call (ref04_Good a ) Try.func18 rfl (by decide) [] [] (l := [(.tmp 61, .tv (.agg [.d (.val (.int .i64 a.f_Kind)), .d (.val (.int .i64 a.f_Int)), .d (.val (.bool a.f_Bool)), .d (.val (strV a.f_Text)), .d (.val (.float .f64 a.f_Num))]))]) [] rfl 0 0 rfl rfl rfl rfl rfl rfl rfl rfl rfl ⟨⟨.inl ⟨rfl, rfl⟩, ⟨.inl ⟨rfl, rfl⟩, ⟨.inl ⟨rfl, rfl⟩, ⟨.inl ⟨rfl, rfl⟩, ⟨.inl ⟨rfl, rfl⟩, trivial⟩⟩⟩⟩⟩, trivial⟩ rfl (fun b hb => by cases hb) (.inl rfl) (lt_of rfl) trivial),
                    hY 4 (congrArg Bool.not (decide_eq_true hq28)),
                    hS 5 (oY rfl rfl rfl rfl (lt_of rfl) (congrArg Bool.not (decide_eq_true hq28)) (r_call (ref04_Good b ) Try.func18 rfl (by decide) [] [] (l := [(.tmp 65, .tv (.agg [.d (.val (.int .i64 b.f_Kind)), .d (.val (.int .i64 b.f_Int)), .d (.val (.bool b.f_Bool)), .d (.val (strV b.f_Text)), .d (.val (.float .f64 b.f_Num))]))]) [] rfl 0 0 rfl rfl rfl rfl rfl rfl rfl rfl rfl ⟨⟨.inl ⟨rfl, rfl⟩, ⟨.inl ⟨rfl, rfl⟩, ⟨.inl ⟨rfl, rfl⟩, ⟨.inl ⟨rfl, rfl⟩, ⟨.inl ⟨rfl, rfl⟩, trivial⟩⟩⟩⟩⟩, trivial⟩ rfl (fun b hb => by cases hb) (.inl rfl) (lt_of rfl) trivial)),
                    hY 6 (congrArg Bool.not (decide_eq_true hq28)),
                    hP 7 (congrArg Bool.not (decide_eq_true hq28)),
                    hN 9 false (congrArg Bool.not (decide_eq_false hq29)),
                    hN 10 false (congrArg Bool.not (decide_eq_false hq29)),
                    hN 11 false (congrArg Bool.not (decide_eq_false hq29)),
                    hN 12 false (congrArg Bool.not (decide_eq_false hq29)),
                    hN 13 false (congrArg Bool.not (decide_eq_false hq29)),
                    hN 14 false (congrArg Bool.not (decide_eq_false hq29)),
                    hP 15 (congrArg Bool.not (decide_eq_false hq29)),
                    hS 17 (oY (b := true) rfl rfl rfl rfl (lt_of rfl) rfl (r_call (law_awake  ) Try.func17 rfl (by decide) [] [] (l := []) [] rfl 0 0 rfl rfl rfl rfl rfl rfl rfl rfl rfl trivial rfl (fun b hb => by cases hb) (.inl rfl) (lt_of rfl) trivial)),
                    hP 18 (b := true) (w := true) rfl] (by kernel_rfl) (by kernel_rfl) ?_
                  refine nT ?_
                  refine T.ret ?_
                  exact tE (.inl rfl) [.t 6 (.one (.d (.val (.bool true))))] ⟨⟨rfl, by kernel_rfl⟩, trivial⟩ [] rfl rfl rfl rfl rfl rfl trivial
              · refine xR [hR 1 rfl rfl (r_call (ref04_Good a ) Try.func18 rfl (by decide) [] [] (l := [(.tmp 61, .tv (.agg [.d (.val (.int .i64 a.f_Kind)), .d (.val (.int .i64 a.f_Int)), .d (.val (.bool a.f_Bool)), .d (.val (strV a.f_Text)), .d (.val (.float .f64 a.f_Num))]))]) [] rfl 0 0 rfl rfl rfl rfl rfl rfl rfl rfl rfl ⟨⟨.inl ⟨rfl, rfl⟩, ⟨.inl ⟨rfl, rfl⟩, ⟨.inl ⟨rfl, rfl⟩, ⟨.inl ⟨rfl, rfl⟩, ⟨.inl ⟨rfl, rfl⟩, trivial⟩⟩⟩⟩⟩, trivial⟩ rfl (fun b hb => by cases hb) (.inl rfl) (lt_of rfl) trivial),
                  hN 4 false (congrArg Bool.not (decide_eq_false hq28)),
                  hN 5 false (congrArg Bool.not (decide_eq_false hq28)),
                  hN 6 false (congrArg Bool.not (decide_eq_false hq28)),
                  hP 7 (congrArg Bool.not (decide_eq_false hq28)),
                  hN 9 (b := true) false rfl,
                  hN 10 (b := true) false rfl,
                  hN 11 (b := true) false rfl,
                  hN 12 (b := true) false rfl,
                  hN 13 (b := true) false rfl,
                  hN 14 (b := true) false rfl,
                  hP 15 (b := true) (w := true) rfl,
                  hS 17 (oY (b := true) rfl rfl rfl rfl (lt_of rfl) rfl (r_call (law_awake  ) Try.func17 rfl (by decide) [] [] (l := []) [] rfl 0 0 rfl rfl rfl rfl rfl rfl rfl rfl rfl trivial rfl (fun b hb => by cases hb) (.inl rfl) (lt_of rfl) trivial)),
                  hP 18 (b := true) (w := true) rfl] (by kernel_rfl) (by kernel_rfl) ?_
                refine nT ?_
                refine T.ret ?_
                exact tE (.inl rfl) [.t 6 (.one (.d (.val (.bool true))))] ⟨⟨rfl, by kernel_rfl⟩, trivial⟩ [] rfl rfl rfl rfl rfl rfl trivial
          · refine xR [hR 3 rfl rfl (r_call (value_Order b a (by assumption) (by assumption)) Try.func13 rfl (by decide) [] [] (l := [(.tmp 26, .tv (.agg [.d (.val (.int .i64 b.f_Kind)), .d (.val (.int .i64 b.f_Int)), .d (.val (.bool b.f_Bool)), .d (.val (strV b.f_Text)), .d (.val (.float .f64 b.f_Num))])), (.tmp 27, .tv (.agg [.d (.val (.int .i64 a.f_Kind)), .d (.val (.int .i64 a.f_Int)), .d (.val (.bool a.f_Bool)), .d (.val (strV a.f_Text)), .d (.val (.float .f64 a.f_Num))]))]) [] rfl 0 0 rfl rfl rfl rfl rfl rfl rfl rfl rfl ⟨⟨.inl ⟨rfl, rfl⟩, ⟨.inl ⟨rfl, rfl⟩, ⟨.inl ⟨rfl, rfl⟩, ⟨.inl ⟨rfl, rfl⟩, ⟨.inl ⟨rfl, rfl⟩, trivial⟩⟩⟩⟩⟩, ⟨⟨.inl ⟨rfl, rfl⟩, ⟨.inl ⟨rfl, rfl⟩, ⟨.inl ⟨rfl, rfl⟩, ⟨.inl ⟨rfl, rfl⟩, ⟨.inl ⟨rfl, rfl⟩, trivial⟩⟩⟩⟩⟩, trivial⟩⟩ rfl (fun b hb => by cases hb) (.inl rfl) (lt_of rfl) trivial),
              hR 4 rfl rfl (r_un (u := .int .i64 (orderV b a)) (v := .int .i64 (-(orderV b a))) (u_neg (by rw [IntKind.wrap_i64]; omega)) (lt_of rfl) trivial),
              hY 7 (decide_eq_false hq2),
              hY 8 (decide_eq_false hq2),
              hS 9 (oY rfl rfl rfl rfl (lt_of rfl) (decide_eq_false hq2) (r_call (value_Order a a (by assumption) (by assumption)) Try.func13 rfl (by decide) [] [] (l := [(.tmp 32, .tv (.agg [.d (.val (.int .i64 a.f_Kind)), .d (.val (.int .i64 a.f_Int)), .d (.val (.bool a.f_Bool)), .d (.val (strV a.f_Text)), .d (.val (.float .f64 a.f_Num))])), (.tmp 33, .tv (.agg [.d (.val (.int .i64 a.f_Kind)), .d (.val (.int .i64 a.f_Int)), .d (.val (.bool a.f_Bool)), .d (.val (strV a.f_Text)), .d (.val (.float .f64 a.f_Num))]))]) [] rfl 0 0 rfl rfl rfl rfl rfl rfl rfl rfl rfl ⟨⟨.inl ⟨rfl, rfl⟩, ⟨.inl ⟨rfl, rfl⟩, ⟨.inl ⟨rfl, rfl⟩, ⟨.inl ⟨rfl, rfl⟩, ⟨.inl ⟨rfl, rfl⟩, trivial⟩⟩⟩⟩⟩, ⟨⟨.inl ⟨rfl, rfl⟩, ⟨.inl ⟨rfl, rfl⟩, ⟨.inl ⟨rfl, rfl⟩, ⟨.inl ⟨rfl, rfl⟩, ⟨.inl ⟨rfl, rfl⟩, trivial⟩⟩⟩⟩⟩, trivial⟩⟩ rfl (fun b hb => by cases hb) (.inl rfl) (lt_of rfl) trivial)),
              hY 10 (decide_eq_false hq2),
              hP 11 (decide_eq_false hq2),
              hY 13 (decide_eq_false hq3),
              hY 14 (decide_eq_false hq3),
              hY 15 (decide_eq_false hq3),
              hN 16 true (decide_eq_false hq4),
              hN 17 true (decide_eq_false hq4),
              hS 18 (oY rfl rfl rfl rfl (lt_of rfl) (decide_eq_false hq3) (r_pickF (b := (decide ((orderV a b) ≤ 0))) (av := dv (.bool false)) (lt_of rfl) ⟨rfl, trivial⟩ (decide_eq_false hq4))),
              hY 19 (decide_eq_false hq3),
              hN 20 (b := false) true rfl,
              hN 21 (b := false) true rfl,
              hS 22 (oY rfl rfl rfl rfl (lt_of rfl) (decide_eq_false hq3) (r_pickF (b := false) (av := dv (.bool false)) (lt_of rfl) ⟨rfl, trivial⟩ rfl)),
              hP 23 (decide_eq_false hq3),
              hY 25 (b := false) (w := false) rfl,
              hY 26 (b := false) (w := false) rfl,
              hY 27 (b := false) (w := false) rfl,
              hN 28 true (decide_eq_false hq22),
              hN 29 true (decide_eq_false hq22),
              hS 30 (oY (b := false) rfl rfl rfl rfl (lt_of rfl) rfl (r_pickF (b := (decide ((orderV a b) < 0))) (av := dv (.bool false)) (lt_of rfl) ⟨rfl, trivial⟩ (decide_eq_false hq22))),
              hY 31 (b := false) (w := false) rfl,
              hN 32 (b := false) true rfl,
              hN 33 (b := false) true rfl,
              hS 34 (oY (b := false) rfl rfl rfl rfl (lt_of rfl) rfl (r_pickF (b := false) (av := dv (.bool false)) (lt_of rfl) ⟨rfl, trivial⟩ rfl)),
              hP 35 (b := false) (w := false) rfl] (by kernel_rfl) (by kernel_rfl) ?_
            refine nT ?_
            refine T.condF (b := false) (by kernel_rfl) rfl ?_
            refine T.skip ?_
            refine nT ?_
            refine T.seq ?_
            by_cases hq31 : goodV a
            · by_cases hq32 : goodV b
              · by_cases hq33 : (decide ((orderV a b) = 0)) = (decide (sameV a b))
                · refine xR [hR 1 rfl rfl (r_call (ref04_Good a ) Try.func18 rfl (by decide) [] [] (l := [(.tmp 61, .tv (.agg [.d (.val (.int .i64 a.f_Kind)), .d (.val (.int .i64 a.f_Int)), .d (.val (.bool a.f_Bool)), .d (.val (strV a.f_Text)), .d (.val (.float .f64 a.f_Num))]))]) [] rfl 0 0 rfl rfl rfl rfl rfl rfl rfl rfl rfl ⟨⟨.inl ⟨rfl, rfl⟩, ⟨.inl ⟨rfl, rfl⟩, ⟨.inl ⟨rfl, rfl⟩, ⟨.inl ⟨rfl, rfl⟩, ⟨.inl ⟨rfl, rfl⟩, trivial⟩⟩⟩⟩⟩, trivial⟩ rfl (fun b hb => by cases hb) (.inl rfl) (lt_of rfl) trivial),
                    hY 4 (congrArg Bool.not (decide_eq_true hq31)),
                    hS 5 (oY rfl rfl rfl rfl (lt_of rfl) (congrArg Bool.not (decide_eq_true hq31)) (r_call (ref04_Good b ) Try.func18 rfl (by decide) [] [] (l := [(.tmp 65, .tv (.agg [.d (.val (.int .i64 b.f_Kind)), .d (.val (.int .i64 b.f_Int)), .d (.val (.bool b.f_Bool)), .d (.val (strV b.f_Text)), .d (.val (.float .f64 b.f_Num))]))]) [] rfl 0 0 rfl rfl rfl rfl rfl rfl rfl rfl rfl ⟨⟨.inl ⟨rfl, rfl⟩, ⟨.inl ⟨rfl, rfl⟩, ⟨.inl ⟨rfl, rfl⟩, ⟨.inl ⟨rfl, rfl⟩, ⟨.inl ⟨rfl, rfl⟩, trivial⟩⟩⟩⟩⟩, trivial⟩ rfl (fun b hb => by cases hb) (.inl rfl) (lt_of rfl) trivial)),
                    hY 6 (congrArg Bool.not (decide_eq_true hq31)),
                    hP 7 (congrArg Bool.not (decide_eq_true hq31)),
                    hY 9 (congrArg Bool.not (decide_eq_true hq32)),
                    hY 10 (congrArg Bool.not (decide_eq_true hq32)),
                    hY 11 (congrArg Bool.not (decide_eq_true hq32)),
                    hY 12 (congrArg Bool.not (decide_eq_true hq32)),
                    hS 13 (oY rfl rfl rfl rfl (lt_of rfl) (congrArg Bool.not (decide_eq_true hq32)) (r_call (value_Same a b ) Try.func15 rfl (by decide) [] [] (l := [(.tmp 72, .tv (.agg [.d (.val (.int .i64 a.f_Kind)), .d (.val (.int .i64 a.f_Int)), .d (.val (.bool a.f_Bool)), .d (.val (strV a.f_Text)), .d (.val (.float .f64 a.f_Num))])), (.tmp 73, .tv (.agg [.d (.val (.int .i64 b.f_Kind)), .d (.val (.int .i64 b.f_Int)), .d (.val (.bool b.f_Bool)), .d (.val (strV b.f_Text)), .d (.val (.float .f64 b.f_Num))]))]) [] rfl 0 0 rfl rfl rfl rfl rfl rfl rfl rfl rfl ⟨⟨.inl ⟨rfl, rfl⟩, ⟨.inl ⟨rfl, rfl⟩, ⟨.inl ⟨rfl, rfl⟩, ⟨.inl ⟨rfl, rfl⟩, ⟨.inl ⟨rfl, rfl⟩, trivial⟩⟩⟩⟩⟩, ⟨⟨.inl ⟨rfl, rfl⟩, ⟨.inl ⟨rfl, rfl⟩, ⟨.inl ⟨rfl, rfl⟩, ⟨.inl ⟨rfl, rfl⟩, ⟨.inl ⟨rfl, rfl⟩, trivial⟩⟩⟩⟩⟩, trivial⟩⟩ rfl (fun b hb => by cases hb) (.inl rfl) (lt_of rfl) trivial)),
                    hY 14 (congrArg Bool.not (decide_eq_true hq32)),
                    hP 15 (congrArg Bool.not (decide_eq_true hq32)),
                    hS 17 (oY rfl rfl rfl rfl (lt_of rfl) (decide_eq_true hq33) (r_call (law_awake  ) Try.func17 rfl (by decide) [] [] (l := []) [] rfl 0 0 rfl rfl rfl rfl rfl rfl rfl rfl rfl trivial rfl (fun b hb => by cases hb) (.inl rfl) (lt_of rfl) trivial)),
                    hP 18 (decide_eq_true hq33)] (by kernel_rfl) (by kernel_rfl) ?_
                  refine nT ?_
                  refine T.ret ?_
                  exact tE (.inl rfl) [.t 6 (.one (.d (.val (.bool true))))] ⟨⟨rfl, by kernel_rfl⟩, trivial⟩ [] rfl rfl rfl rfl rfl rfl trivial
                · exact absurd (decide_eq_decide.2 (order_good hq31 hq32 ha hb)) hq33
              · refine xR [hR 1 rfl rfl (r_call (ref04_Good a ) Try.func18 rfl (by decide) [] [] (l := [(.tmp 61, .tv (.agg [.d (.val (.int .i64 a.f_Kind)), .d (.val (.int .i64 a.f_Int)), .d (.val (.bool a.f_Bool)), .d (.val (strV a.f_Text)), .d (.val (.float .f64 a.f_Num))]))]) [] rfl 0 0 rfl rfl rfl rfl rfl rfl rfl rfl rfl ⟨⟨.inl ⟨rfl, rfl⟩, ⟨.inl ⟨rfl, rfl⟩, ⟨.inl ⟨rfl, rfl⟩, ⟨.inl ⟨rfl, rfl⟩, ⟨.inl ⟨rfl, rfl⟩, trivial⟩⟩⟩⟩⟩, trivial⟩ rfl (fun b hb => by cases hb) (.inl rfl) (lt_of rfl) trivial),
                  hY 4 (congrArg Bool.not (decide_eq_true hq31)),
                  hS 5 (oY rfl rfl rfl rfl (lt_of rfl) (congrArg Bool.not (decide_eq_true hq31)) (r_call (ref04_Good b ) Try.func18 rfl (by decide) [] [] (l := [(.tmp 65, .tv (.agg [.d (.val (.int .i64 b.f_Kind)), .d (.val (.int .i64 b.f_Int)), .d (.val (.bool b.f_Bool)), .d (.val (strV b.f_Text)), .d (.val (.float .f64 b.f_Num))]))]) [] rfl 0 0 rfl rfl rfl rfl rfl rfl rfl rfl rfl ⟨⟨.inl ⟨rfl, rfl⟩, ⟨.inl ⟨rfl, rfl⟩, ⟨.inl ⟨rfl, rfl⟩, ⟨.inl ⟨rfl, rfl⟩, ⟨.inl ⟨rfl, rfl⟩, trivial⟩⟩⟩⟩⟩, trivial⟩ rfl (fun b hb => by cases hb) (.inl rfl) (lt_of rfl) trivial)),
                  hY 6 (congrArg Bool.not (decide_eq_true hq31)),
                  hP 7 (congrArg Bool.not (decide_eq_true hq31)),
                  hN 9 false (congrArg Bool.not (decide_eq_false hq32)),
                  hN 10 false (congrArg Bool.not (decide_eq_false hq32)),
                  hN 11 false (congrArg Bool.not (decide_eq_false hq32)),
                  hN 12 false (congrArg Bool.not (decide_eq_false hq32)),
                  hN 13 false (congrArg Bool.not (decide_eq_false hq32)),
                  hN 14 false (congrArg Bool.not (decide_eq_false hq32)),
                  hP 15 (congrArg Bool.not (decide_eq_false hq32)),
                  hS 17 (oY (b := true) rfl rfl rfl rfl (lt_of rfl) rfl (r_call (law_awake  ) Try.func17 rfl (by decide) [] [] (l := []) [] rfl 0 0 rfl rfl rfl rfl rfl rfl rfl rfl rfl trivial rfl (fun b hb => by cases hb) (.inl rfl) (lt_of rfl) trivial)),
                  hP 18 (b := true) (w := true) rfl] (by kernel_rfl) (by kernel_rfl) ?_
                refine nT ?_
                refine T.ret ?_
                exact tE (.inl rfl) [.t 6 (.one (.d (.val (.bool true))))] ⟨⟨rfl, by kernel_rfl⟩, trivial⟩ [] rfl rfl rfl rfl rfl rfl trivial
            · refine xR [hR 1 rfl rfl (r_call (ref04_Good a ) Try.func18 rfl (by decide) [] [] (l := [(.tmp 61, .tv (.agg [.d (.val (.int .i64 a.f_Kind)), .d (.val (.int .i64 a.f_Int)), .d (.val (.bool a.f_Bool)), .d (.val (strV a.f_Text)), .d (.val (.float .f64 a.f_Num))]))]) [] rfl 0 0 rfl rfl rfl rfl rfl rfl rfl rfl rfl ⟨⟨.inl ⟨rfl, rfl⟩, ⟨.inl ⟨rfl, rfl⟩, ⟨.inl ⟨rfl, rfl⟩, ⟨.inl ⟨rfl, rfl⟩, ⟨.inl ⟨rfl, rfl⟩, trivial⟩⟩⟩⟩⟩, trivial⟩ rfl (fun b hb => by cases hb) (.inl rfl) (lt_of rfl) trivial),
                hN 4 false (congrArg Bool.not (decide_eq_false hq31)),
                hN 5 false (congrArg Bool.not (decide_eq_false hq31)),
                hN 6 false (congrArg Bool.not (decide_eq_false hq31)),
                hP 7 (congrArg Bool.not (decide_eq_false hq31)),
                hN 9 (b := true) false rfl,
                hN 10 (b := true) false rfl,
                hN 11 (b := true) false rfl,
                hN 12 (b := true) false rfl,
                hN 13 (b := true) false rfl,
                hN 14 (b := true) false rfl,
                hP 15 (b := true) (w := true) rfl,
                hS 17 (oY (b := true) rfl rfl rfl rfl (lt_of rfl) rfl (r_call (law_awake  ) Try.func17 rfl (by decide) [] [] (l := []) [] rfl 0 0 rfl rfl rfl rfl rfl rfl rfl rfl rfl trivial rfl (fun b hb => by cases hb) (.inl rfl) (lt_of rfl) trivial)),
                hP 18 (b := true) (w := true) rfl] (by kernel_rfl) (by kernel_rfl) ?_
              refine nT ?_
              refine T.ret ?_
              exact tE (.inl rfl) [.t 6 (.one (.d (.val (.bool true))))] ⟨⟨rfl, by kernel_rfl⟩, trivial⟩ [] rfl rfl rfl rfl rfl rfl trivial
  · refine T.condT (by kernel_rfl) (congrArg Bool.not (decide_eq_false hq1)) ?_
    refine T.seq ?_
    refine xR [] (by kernel_rfl) (by kernel_rfl) ?_
    refine nT ?_
    refine T.ret ?_
    refine rT ?_
    exact tE (.inl rfl) [.t 6 (.one (.d (.val (.bool true))))] ⟨⟨rfl, by kernel_rfl⟩, trivial⟩ [] rfl rfl rfl rfl rfl rfl trivial
end Go.Proofs.Ytlabmehgcfgigaa.Q
