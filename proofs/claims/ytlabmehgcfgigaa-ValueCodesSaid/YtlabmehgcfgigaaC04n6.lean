import Derived.Test.YtlabmehgcfgigaaC04n5
namespace Go.Proofs.Ytlabmehgcfgigaa.Q
open Go Go.RowKit
set_option linter.unusedVariables false
set_option linter.unusedSimpArgs false
set_option maxRecDepth 100000
set_option maxHeartbeats 4000000
-- quaestor/quaestorref04.Same
theorem ref04_Same (a : api_Value) (b : api_Value) : Holds Try.prog 16 ⟨[.tv (.agg [.d (.val (.int .i64 a.f_Kind)), .d (.val (.int .i64 a.f_Int)), .d (.val (.bool a.f_Bool)), .d (.val (strV a.f_Text)), .d (.val (.float .f64 a.f_Num))]), .tv (.agg [.d (.val (.int .i64 b.f_Kind)), .d (.val (.int .i64 b.f_Int)), .d (.val (.bool b.f_Bool)), .d (.val (strV b.f_Text)), .d (.val (.float .f64 b.f_Num))])], [], dv (.bool (decide (sameV a b))), []⟩ := by
  refine Holds.of Try.func16 rfl (N := 40) Try.ntmps16 rfl fun w0 B0 S0 U0 => ?_
  show T _ (mkBase 40 0 w0 S0 U0 B0) ⟨[.tv (.agg [.d (.val (.int .i64 a.f_Kind)), .d (.val (.int .i64 a.f_Int)), .d (.val (.bool a.f_Bool)), .d (.val (strV a.f_Text)), .d (.val (.float .f64 a.f_Num))]), .tv (.agg [.d (.val (.int .i64 b.f_Kind)), .d (.val (.int .i64 b.f_Int)), .d (.val (.bool b.f_Bool)), .d (.val (strV b.f_Text)), .d (.val (.float .f64 b.f_Num))])], []⟩ _ _
  refine T.seq ?_
  refine xR [] (by kernel_rfl) (by kernel_rfl) ?_
  refine nT ?_
  refine T.seq ?_
  by_cases hq1 : a.f_Kind = b.f_Kind
  · by_cases hq2 : a.f_Int = b.f_Int
    · by_cases hq3 : a.f_Bool = b.f_Bool
      · by_cases hq4 : a.f_Text = b.f_Text
        · refine xD [[], [0], [], [2], [0, 1, 2, 3], [0, 1, 2, 3, 4], [0, 1, 2, 3, 4, 5], [0, 1, 2, 3, 4, 5, 6], [0, 1, 2, 3, 4, 5], [0, 1, 2, 3, 4, 5, 8], [0, 1, 2, 3, 4, 5, 6, 7, 8, 9], [0, 1, 2, 3, 4, 5, 6, 7, 8, 9, 10], [0, 1, 2, 3, 4, 5, 6, 7, 8, 9, 10, 11], [0, 1, 2, 3, 4, 5, 6, 7, 8, 9, 10, 11, 12], [0, 1, 2, 3, 4, 5, 6, 7, 8, 9, 10, 11, 12, 13], [0, 1, 2, 3, 4, 5, 6, 7, 8, 9, 10, 11, 12], [0, 1, 2, 3, 4, 5, 6, 7, 8, 9, 10, 11, 12, 15], [0, 1, 2, 3, 4, 5, 6, 7, 8, 9, 10, 11, 12, 13, 14, 15, 16], [0, 1, 2, 3, 4, 5, 6, 7, 8, 9, 10, 11, 12, 13, 14, 15, 16, 17], [0, 1, 2, 3, 4, 5, 6, 7, 8, 9, 10, 11, 12, 13, 14, 15, 16, 17, 18], [0, 1, 2, 3, 4, 5, 6, 7, 8, 9, 10, 11, 12, 13, 14, 15, 16, 17, 18, 19], [0, 1, 2, 3, 4, 5, 6, 7, 8, 9, 10, 11, 12, 13, 14, 15, 16, 17, 18, 19, 20], [0, 1, 2, 3, 4, 5, 6, 7, 8, 9, 10, 11, 12, 13, 14, 15, 16, 17, 18, 19], [0, 1, 2, 3, 4, 5, 6, 7, 8, 9, 10, 11, 12, 13, 14, 15, 16, 17, 18, 19, 22], [0, 1, 2, 3, 4, 5, 6, 7, 8, 9, 10, 11, 12, 13, 14, 15, 16, 17, 18, 19, 20, 21, 22, 23], [0, 1, 2, 3, 4, 5, 6, 7, 8, 9, 10, 11, 12, 13, 14, 15, 16, 17, 18, 19, 20, 21, 22, 23, 24], [0, 1, 2, 3, 4, 5, 6, 7, 8, 9, 10, 11, 12, 13, 14, 15, 16, 17, 18, 19, 20, 21, 22, 23, 24, 25], [0, 1, 2, 3, 4, 5, 6, 7, 8, 9, 10, 11, 12, 13, 14, 15, 16, 17, 18, 19, 20, 21, 22, 23, 24, 25, 26], [0, 1, 2, 3, 4, 5, 6, 7, 8, 9, 10, 11, 12, 13, 14, 15, 16, 17, 18, 19, 20, 21, 22, 23, 24, 25, 26, 27], [0, 1, 2, 3, 4, 5, 6, 7, 8, 9, 10, 11, 12, 13, 14, 15, 16, 17, 18, 19, 20, 21, 22, 23, 24, 25, 26, 27, 28], [0, 1, 2, 3, 4, 5, 6, 7, 8, 9, 10, 11, 12, 13, 14, 15, 16, 17, 18, 19, 20, 21, 22, 23, 24, 25, 26], [0, 1, 2, 3, 4, 5, 6, 7, 8, 9, 10, 11, 12, 13, 14, 15, 16, 17, 18, 19, 20, 21, 22, 23, 24, 25, 26, 30], [0, 1, 2, 3, 4, 5, 6, 7, 8, 9, 10, 11, 12, 13, 14, 15, 16, 17, 18, 19, 20, 21, 22, 23, 24, 25, 26, 27, 28, 29, 30, 31], [0, 1, 2, 3, 4, 5, 6, 7, 8, 9, 10, 11, 12, 13, 14, 15, 16, 17, 18, 19, 20, 21, 22, 23, 24, 25, 26, 27, 28, 29, 30, 31, 32], [0, 1, 2, 3, 4, 5, 6, 7, 8, 9, 10, 11, 12, 13, 14, 15, 16, 17, 18, 19, 20, 21, 22, 23, 24, 25, 26, 27, 28, 29, 30, 31, 32, 33], [0, 1, 2, 3, 4, 5, 6, 7, 8, 9, 10, 11, 12, 13, 14, 15, 16, 17, 18, 19, 20, 21, 22, 23, 24, 25, 26, 27, 28, 29, 30, 31, 32, 33, 34]] [hY 6 (decide_eq_true hq1),
            hY 7 (decide_eq_true hq1),
            hY 8 (decide_eq_true hq1),
            hY 9 (decide_eq_true hq1),
            hY 10 (decide_eq_true hq1),
            hP 11 (decide_eq_true hq1),
            hY 13 (decide_eq_true hq2),
            hY 14 (decide_eq_true hq2),
            hY 15 (decide_eq_true hq2),
            hY 16 (decide_eq_true hq2),
            hY 17 (decide_eq_true hq2),
            hP 18 (decide_eq_true hq2),
            hY 20 (decide_eq_true hq3),
            hY 21 (decide_eq_true hq3),
            hY 22 (decide_eq_true hq3),
            hY 23 (decide_eq_true hq3),
            hY 24 (decide_eq_true hq3),
            hP 25 (decide_eq_true hq3),
            hY 27 (decide_eq_true hq4),
            hY 28 (decide_eq_true hq4),
            hS 29 (oY rfl rfl rfl rfl (lt_of rfl) (decide_eq_true hq4) (r_call (ref01_Bits a.f_Num ) Try.func48 rfl (by decide) [] [] (l := [(.tmp 33, dv (.float .f64 a.f_Num))]) [] rfl 0 0 rfl rfl rfl rfl rfl rfl rfl rfl rfl ⟨.inl ⟨rfl, rfl⟩, trivial⟩ rfl (fun b hb => by cases hb) (.inl rfl) (lt_of rfl) trivial)),
            hY 30 (decide_eq_true hq4),
            hY 31 (decide_eq_true hq4),
            hS 32 (oY rfl rfl rfl rfl (lt_of rfl) (decide_eq_true hq4) (r_call (ref01_Bits b.f_Num ) Try.func48 rfl (by decide) [] [] (l := [(.tmp 36, dv (.float .f64 b.f_Num))]) [] rfl 0 0 rfl rfl rfl rfl rfl rfl rfl rfl rfl ⟨.inl ⟨rfl, rfl⟩, trivial⟩ rfl (fun b hb => by cases hb) (.inl rfl) (lt_of rfl) trivial)),
            hY 33 (decide_eq_true hq4),
            hP 34 (decide_eq_true hq4)] (by kernel_rfl) (by kernel_rfl) (by kernel_rfl) (by kernel_rfl) (by kernel_rfl) (by kernel_rfl) ?_
          refine nT ?_
          refine T.ret ?_
          exact tE (.inl rfl) [.t 4 (.one (.d (.val (.bool (decide (((bitsF a.f_Num : Nat) : Int) = ((bitsF b.f_Num : Nat) : Int)))))))] ⟨⟨rfl, by kernel_rfl⟩, trivial⟩ [] (by have e1 : ((decide (sameV a b)) : Bool) = (decide (((bitsF a.f_Num : Nat) : Int) = ((bitsF b.f_Num : Nat) : Int))) := (by (exact decide_eq_decide.2 ⟨fun h9 => by rw [h9.2.2.2.2], fun h9 => ⟨by assumption, by assumption, by assumption, by assumption, Int.ofNat_inj.1 h9⟩⟩)); have hE := congrArg (fun (q1 : Bool) => (dv (.bool q1) : AV)) e1; exact hE) rfl rfl rfl rfl rfl trivial
        · refine xD [[], [0], [], [2], [0, 1, 2, 3], [0, 1, 2, 3, 4], [0, 1, 2, 3, 4, 5], [0, 1, 2, 3, 4, 5, 6], [0, 1, 2, 3, 4, 5], [0, 1, 2, 3, 4, 5, 8], [0, 1, 2, 3, 4, 5, 6, 7, 8, 9], [0, 1, 2, 3, 4, 5, 6, 7, 8, 9, 10], [0, 1, 2, 3, 4, 5, 6, 7, 8, 9, 10, 11], [0, 1, 2, 3, 4, 5, 6, 7, 8, 9, 10, 11, 12], [0, 1, 2, 3, 4, 5, 6, 7, 8, 9, 10, 11, 12, 13], [0, 1, 2, 3, 4, 5, 6, 7, 8, 9, 10, 11, 12], [0, 1, 2, 3, 4, 5, 6, 7, 8, 9, 10, 11, 12, 15], [0, 1, 2, 3, 4, 5, 6, 7, 8, 9, 10, 11, 12, 13, 14, 15, 16], [0, 1, 2, 3, 4, 5, 6, 7, 8, 9, 10, 11, 12, 13, 14, 15, 16, 17], [0, 1, 2, 3, 4, 5, 6, 7, 8, 9, 10, 11, 12, 13, 14, 15, 16, 17, 18], [0, 1, 2, 3, 4, 5, 6, 7, 8, 9, 10, 11, 12, 13, 14, 15, 16, 17, 18, 19], [0, 1, 2, 3, 4, 5, 6, 7, 8, 9, 10, 11, 12, 13, 14, 15, 16, 17, 18, 19, 20], [0, 1, 2, 3, 4, 5, 6, 7, 8, 9, 10, 11, 12, 13, 14, 15, 16, 17, 18, 19], [0, 1, 2, 3, 4, 5, 6, 7, 8, 9, 10, 11, 12, 13, 14, 15, 16, 17, 18, 19, 22], [0, 1, 2, 3, 4, 5, 6, 7, 8, 9, 10, 11, 12, 13, 14, 15, 16, 17, 18, 19, 20, 21, 22, 23], [0, 1, 2, 3, 4, 5, 6, 7, 8, 9, 10, 11, 12, 13, 14, 15, 16, 17, 18, 19, 20, 21, 22, 23, 24], [0, 1, 2, 3, 4, 5, 6, 7, 8, 9, 10, 11, 12, 13, 14, 15, 16, 17, 18, 19, 20, 21, 22, 23, 24, 25], [0, 1, 2, 3, 4, 5, 6, 7, 8, 9, 10, 11, 12, 13, 14, 15, 16, 17, 18, 19, 20, 21, 22, 23, 24, 25, 26], [0, 1, 2, 3, 4, 5, 6, 7, 8, 9, 10, 11, 12, 13, 14, 15, 16, 17, 18, 19, 20, 21, 22, 23, 24, 25, 26, 27], [0, 1, 2, 3, 4, 5, 6, 7, 8, 9, 10, 11, 12, 13, 14, 15, 16, 17, 18, 19, 20, 21, 22, 23, 24, 25, 26, 27, 28], [0, 1, 2, 3, 4, 5, 6, 7, 8, 9, 10, 11, 12, 13, 14, 15, 16, 17, 18, 19, 20, 21, 22, 23, 24, 25, 26], [0, 1, 2, 3, 4, 5, 6, 7, 8, 9, 10, 11, 12, 13, 14, 15, 16, 17, 18, 19, 20, 21, 22, 23, 24, 25, 26, 30], [0, 1, 2, 3, 4, 5, 6, 7, 8, 9, 10, 11, 12, 13, 14, 15, 16, 17, 18, 19, 20, 21, 22, 23, 24, 25, 26, 27, 28, 29, 30, 31], [0, 1, 2, 3, 4, 5, 6, 7, 8, 9, 10, 11, 12, 13, 14, 15, 16, 17, 18, 19, 20, 21, 22, 23, 24, 25, 26, 27, 28, 29, 30, 31, 32], [0, 1, 2, 3, 4, 5, 6, 7, 8, 9, 10, 11, 12, 13, 14, 15, 16, 17, 18, 19, 20, 21, 22, 23, 24, 25, 26, 27, 28, 29, 30, 31, 32, 33], [0, 1, 2, 3, 4, 5, 6, 7, 8, 9, 10, 11, 12, 13, 14, 15, 16, 17, 18, 19, 20, 21, 22, 23, 24, 25, 26, 27, 28, 29, 30, 31, 32, 33, 34]] [hY 6 (decide_eq_true hq1),
            hY 7 (decide_eq_true hq1),
            hY 8 (decide_eq_true hq1),
            hY 9 (decide_eq_true hq1),
            hY 10 (decide_eq_true hq1),
            hP 11 (decide_eq_true hq1),
            hY 13 (decide_eq_true hq2),
            hY 14 (decide_eq_true hq2),
            hY 15 (decide_eq_true hq2),
            hY 16 (decide_eq_true hq2),
            hY 17 (decide_eq_true hq2),
            hP 18 (decide_eq_true hq2),
            hY 20 (decide_eq_true hq3),
            hY 21 (decide_eq_true hq3),
            hY 22 (decide_eq_true hq3),
            hY 23 (decide_eq_true hq3),
            hY 24 (decide_eq_true hq3),
            hP 25 (decide_eq_true hq3),
            hN 27 true (decide_eq_false hq4),
            hN 28 true (decide_eq_false hq4),
            hN 29 true (decide_eq_false hq4),
            hN 30 true (decide_eq_false hq4),
            hN 31 true (decide_eq_false hq4),
            hN 32 true (decide_eq_false hq4),
            hN 33 true (decide_eq_false hq4),
            hP 34 (decide_eq_false hq4)] (by kernel_rfl) (by kernel_rfl) (by kernel_rfl) (by kernel_rfl) (by kernel_rfl) (by kernel_rfl) ?_
          refine nT ?_
          refine T.ret ?_
          exact tE (.inl rfl) [.t 4 (.one (.d (.val (.bool false))))] ⟨⟨rfl, by kernel_rfl⟩, trivial⟩ [] (by have e1 : ((decide (sameV a b)) : Bool) = false := (by (exact decide_eq_false (fun h9 => by obtain ⟨g1, g2, g3, g4, g5⟩ := h9; simp_all))); have hE := congrArg (fun (q1 : Bool) => (dv (.bool q1) : AV)) e1; exact hE) rfl rfl rfl rfl rfl trivial
      · refine xD [[], [0], [], [2], [0, 1, 2, 3], [0, 1, 2, 3, 4], [0, 1, 2, 3, 4, 5], [0, 1, 2, 3, 4, 5, 6], [0, 1, 2, 3, 4, 5], [0, 1, 2, 3, 4, 5, 8], [0, 1, 2, 3, 4, 5, 6, 7, 8, 9], [0, 1, 2, 3, 4, 5, 6, 7, 8, 9, 10], [0, 1, 2, 3, 4, 5, 6, 7, 8, 9, 10, 11], [0, 1, 2, 3, 4, 5, 6, 7, 8, 9, 10, 11, 12], [0, 1, 2, 3, 4, 5, 6, 7, 8, 9, 10, 11, 12, 13], [0, 1, 2, 3, 4, 5, 6, 7, 8, 9, 10, 11, 12], [0, 1, 2, 3, 4, 5, 6, 7, 8, 9, 10, 11, 12, 15], [0, 1, 2, 3, 4, 5, 6, 7, 8, 9, 10, 11, 12, 13, 14, 15, 16], [0, 1, 2, 3, 4, 5, 6, 7, 8, 9, 10, 11, 12, 13, 14, 15, 16, 17], [0, 1, 2, 3, 4, 5, 6, 7, 8, 9, 10, 11, 12, 13, 14, 15, 16, 17, 18], [0, 1, 2, 3, 4, 5, 6, 7, 8, 9, 10, 11, 12, 13, 14, 15, 16, 17, 18, 19], [0, 1, 2, 3, 4, 5, 6, 7, 8, 9, 10, 11, 12, 13, 14, 15, 16, 17, 18, 19, 20], [0, 1, 2, 3, 4, 5, 6, 7, 8, 9, 10, 11, 12, 13, 14, 15, 16, 17, 18, 19], [0, 1, 2, 3, 4, 5, 6, 7, 8, 9, 10, 11, 12, 13, 14, 15, 16, 17, 18, 19, 22], [0, 1, 2, 3, 4, 5, 6, 7, 8, 9, 10, 11, 12, 13, 14, 15, 16, 17, 18, 19, 20, 21, 22, 23], [0, 1, 2, 3, 4, 5, 6, 7, 8, 9, 10, 11, 12, 13, 14, 15, 16, 17, 18, 19, 20, 21, 22, 23, 24], [0, 1, 2, 3, 4, 5, 6, 7, 8, 9, 10, 11, 12, 13, 14, 15, 16, 17, 18, 19, 20, 21, 22, 23, 24, 25], [0, 1, 2, 3, 4, 5, 6, 7, 8, 9, 10, 11, 12, 13, 14, 15, 16, 17, 18, 19, 20, 21, 22, 23, 24, 25, 26], [0, 1, 2, 3, 4, 5, 6, 7, 8, 9, 10, 11, 12, 13, 14, 15, 16, 17, 18, 19, 20, 21, 22, 23, 24, 25, 26, 27], [0, 1, 2, 3, 4, 5, 6, 7, 8, 9, 10, 11, 12, 13, 14, 15, 16, 17, 18, 19, 20, 21, 22, 23, 24, 25, 26, 27, 28], [0, 1, 2, 3, 4, 5, 6, 7, 8, 9, 10, 11, 12, 13, 14, 15, 16, 17, 18, 19, 20, 21, 22, 23, 24, 25, 26], [0, 1, 2, 3, 4, 5, 6, 7, 8, 9, 10, 11, 12, 13, 14, 15, 16, 17, 18, 19, 20, 21, 22, 23, 24, 25, 26, 30], [0, 1, 2, 3, 4, 5, 6, 7, 8, 9, 10, 11, 12, 13, 14, 15, 16, 17, 18, 19, 20, 21, 22, 23, 24, 25, 26, 27, 28, 29, 30, 31], [0, 1, 2, 3, 4, 5, 6, 7, 8, 9, 10, 11, 12, 13, 14, 15, 16, 17, 18, 19, 20, 21, 22, 23, 24, 25, 26, 27, 28, 29, 30, 31, 32], [0, 1, 2, 3, 4, 5, 6, 7, 8, 9, 10, 11, 12, 13, 14, 15, 16, 17, 18, 19, 20, 21, 22, 23, 24, 25, 26, 27, 28, 29, 30, 31, 32, 33], [0, 1, 2, 3, 4, 5, 6, 7, 8, 9, 10, 11, 12, 13, 14, 15, 16, 17, 18, 19, 20, 21, 22, 23, 24, 25, 26, 27, 28, 29, 30, 31, 32, 33, 34]] [hY 6 (decide_eq_true hq1),
          hY 7 (decide_eq_true hq1),
          hY 8 (decide_eq_true hq1),
          hY 9 (decide_eq_true hq1),
          hY 10 (decide_eq_true hq1),
          hP 11 (decide_eq_true hq1),
          hY 13 (decide_eq_true hq2),
          hY 14 (decide_eq_true hq2),
          hY 15 (decide_eq_true hq2),
          hY 16 (decide_eq_true hq2),
          hY 17 (decide_eq_true hq2),
          hP 18 (decide_eq_true hq2),
          hN 20 true (decide_eq_false hq3),
          hN 21 true (decide_eq_false hq3),
          hN 22 true (decide_eq_false hq3),
          hN 23 true (decide_eq_false hq3),
          hN 24 true (decide_eq_false hq3),
          hP 25 (decide_eq_false hq3),
          hN 27 (b := false) true rfl,
          hN 28 (b := false) true rfl,
          hN 29 (b := false) true rfl,
          hN 30 (b := false) true rfl,
          hN 31 (b := false) true rfl,
          hN 32 (b := false) true rfl,
          hN 33 (b := false) true rfl,
          hP 34 (b := false) (w := false) rfl] (by kernel_rfl) (by kernel_rfl) (by kernel_rfl) (by kernel_rfl) (by kernel_rfl) (by kernel_rfl) ?_
        refine nT ?_
        refine T.ret ?_
        exact tE (.inl rfl) [.t 4 (.one (.d (.val (.bool false))))] ⟨⟨rfl, by kernel_rfl⟩, trivial⟩ [] (by have e1 : ((decide (sameV a b)) : Bool) = false := (by (exact decide_eq_false (fun h9 => by obtain ⟨g1, g2, g3, g4, g5⟩ := h9; simp_all))); have hE := congrArg (fun (q1 : Bool) => (dv (.bool q1) : AV)) e1; exact hE) rfl rfl rfl rfl rfl trivial
    · refine xD [[], [0], [], [2], [0, 1, 2, 3], [0, 1, 2, 3, 4], [0, 1, 2, 3, 4, 5], [0, 1, 2, 3, 4, 5, 6], [0, 1, 2, 3, 4, 5], [0, 1, 2, 3, 4, 5, 8], [0, 1, 2, 3, 4, 5, 6, 7, 8, 9], [0, 1, 2, 3, 4, 5, 6, 7, 8, 9, 10], [0, 1, 2, 3, 4, 5, 6, 7, 8, 9, 10, 11], [0, 1, 2, 3, 4, 5, 6, 7, 8, 9, 10, 11, 12], [0, 1, 2, 3, 4, 5, 6, 7, 8, 9, 10, 11, 12, 13], [0, 1, 2, 3, 4, 5, 6, 7, 8, 9, 10, 11, 12], [0, 1, 2, 3, 4, 5, 6, 7, 8, 9, 10, 11, 12, 15], [0, 1, 2, 3, 4, 5, 6, 7, 8, 9, 10, 11, 12, 13, 14, 15, 16], [0, 1, 2, 3, 4, 5, 6, 7, 8, 9, 10, 11, 12, 13, 14, 15, 16, 17], [0, 1, 2, 3, 4, 5, 6, 7, 8, 9, 10, 11, 12, 13, 14, 15, 16, 17, 18], [0, 1, 2, 3, 4, 5, 6, 7, 8, 9, 10, 11, 12, 13, 14, 15, 16, 17, 18, 19], [0, 1, 2, 3, 4, 5, 6, 7, 8, 9, 10, 11, 12, 13, 14, 15, 16, 17, 18, 19, 20], [0, 1, 2, 3, 4, 5, 6, 7, 8, 9, 10, 11, 12, 13, 14, 15, 16, 17, 18, 19], [0, 1, 2, 3, 4, 5, 6, 7, 8, 9, 10, 11, 12, 13, 14, 15, 16, 17, 18, 19, 22], [0, 1, 2, 3, 4, 5, 6, 7, 8, 9, 10, 11, 12, 13, 14, 15, 16, 17, 18, 19, 20, 21, 22, 23], [0, 1, 2, 3, 4, 5, 6, 7, 8, 9, 10, 11, 12, 13, 14, 15, 16, 17, 18, 19, 20, 21, 22, 23, 24], [0, 1, 2, 3, 4, 5, 6, 7, 8, 9, 10, 11, 12, 13, 14, 15, 16, 17, 18, 19, 20, 21, 22, 23, 24, 25], [0, 1, 2, 3, 4, 5, 6, 7, 8, 9, 10, 11, 12, 13, 14, 15, 16, 17, 18, 19, 20, 21, 22, 23, 24, 25, 26], [0, 1, 2, 3, 4, 5, 6, 7, 8, 9, 10, 11, 12, 13, 14, 15, 16, 17, 18, 19, 20, 21, 22, 23, 24, 25, 26, 27], [0, 1, 2, 3, 4, 5, 6, 7, 8, 9, 10, 11, 12, 13, 14, 15, 16, 17, 18, 19, 20, 21, 22, 23, 24, 25, 26, 27, 28], [0, 1, 2, 3, 4, 5, 6, 7, 8, 9, 10, 11, 12, 13, 14, 15, 16, 17, 18, 19, 20, 21, 22, 23, 24, 25, 26], [0, 1, 2, 3, 4, 5, 6, 7, 8, 9, 10, 11, 12, 13, 14, 15, 16, 17, 18, 19, 20, 21, 22, 23, 24, 25, 26, 30], [0, 1, 2, 3, 4, 5, 6, 7, 8, 9, 10, 11, 12, 13, 14, 15, 16, 17, 18, 19, 20, 21, 22, 23, 24, 25, 26, 27, 28, 29, 30, 31], [0, 1, 2, 3, 4, 5, 6, 7, 8, 9, 10, 11, 12, 13, 14, 15, 16, 17, 18, 19, 20, 21, 22, 23, 24, 25, 26, 27, 28, 29, 30, 31, 32], [0, 1, 2, 3, 4, 5, 6, 7, 8, 9, 10, 11, 12, 13, 14, 15, 16, 17, 18, 19, 20, 21, 22, 23, 24, 25, 26, 27, 28, 29, 30, 31, 32, 33], [0, 1, 2, 3, 4, 5, 6, 7, 8, 9, 10, 11, 12, 13, 14, 15, 16, 17, 18, 19, 20, 21, 22, 23, 24, 25, 26, 27, 28, 29, 30, 31, 32, 33, 34]] [hY 6 (decide_eq_true hq1),
        hY 7 (decide_eq_true hq1),
        hY 8 (decide_eq_true hq1),
        hY 9 (decide_eq_true hq1),
        hY 10 (decide_eq_true hq1),
        hP 11 (decide_eq_true hq1),
        hN 13 true (decide_eq_false hq2),
        hN 14 true (decide_eq_false hq2),
        hN 15 true (decide_eq_false hq2),
        hN 16 true (decide_eq_false hq2),
        hN 17 true (decide_eq_false hq2),
        hP 18 (decide_eq_false hq2),
        hN 20 (b := false) true rfl,
        hN 21 (b := false) true rfl,
        hN 22 (b := false) true rfl,
        hN 23 (b := false) true rfl,
        hN 24 (b := false) true rfl,
        hP 25 (b := false) (w := false) rfl,
        hN 27 (b := false) true rfl,
        hN 28 (b := false) true rfl,
        hN 29 (b := false) true rfl,
        hN 30 (b := false) true rfl,
        hN 31 (b := false) true rfl,
        hN 32 (b := false) true rfl,
        hN 33 (b := false) true rfl,
        hP 34 (b := false) (w := false) rfl] (by kernel_rfl) (by kernel_rfl) (by kernel_rfl) (by kernel_rfl) (by kernel_rfl) (by kernel_rfl) ?_
      refine nT ?_
      refine T.ret ?_
      exact tE (.inl rfl) [.t 4 (.one (.d (.val (.bool false))))] ⟨⟨rfl, by kernel_rfl⟩, trivial⟩ [] (by have e1 : ((decide (sameV a b)) : Bool) = false := (by (exact decide_eq_false (fun h9 => by obtain ⟨g1, g2, g3, g4, g5⟩ := h9; simp_all))); have hE := congrArg (fun (q1 : Bool) => (dv (.bool q1) : AV)) e1; exact hE) rfl rfl rfl rfl rfl trivial
  · refine xD [[], [0], [], [2], [0, 1, 2, 3], [0, 1, 2, 3, 4], [0, 1, 2, 3, 4, 5], [0, 1, 2, 3, 4, 5, 6], [0, 1, 2, 3, 4, 5], [0, 1, 2, 3, 4, 5, 8], [0, 1, 2, 3, 4, 5, 6, 7, 8, 9], [0, 1, 2, 3, 4, 5, 6, 7, 8, 9, 10], [0, 1, 2, 3, 4, 5, 6, 7, 8, 9, 10, 11], [0, 1, 2, 3, 4, 5, 6, 7, 8, 9, 10, 11, 12], [0, 1, 2, 3, 4, 5, 6, 7, 8, 9, 10, 11, 12, 13], [0, 1, 2, 3, 4, 5, 6, 7, 8, 9, 10, 11, 12], [0, 1, 2, 3, 4, 5, 6, 7, 8, 9, 10, 11, 12, 15], [0, 1, 2, 3, 4, 5, 6, 7, 8, 9, 10, 11, 12, 13, 14, 15, 16], [0, 1, 2, 3, 4, 5, 6, 7, 8, 9, 10, 11, 12, 13, 14, 15, 16, 17], [0, 1, 2, 3, 4, 5, 6, 7, 8, 9, 10, 11, 12, 13, 14, 15, 16, 17, 18], [0, 1, 2, 3, 4, 5, 6, 7, 8, 9, 10, 11, 12, 13, 14, 15, 16, 17, 18, 19], [0, 1, 2, 3, 4, 5, 6, 7, 8, 9, 10, 11, 12, 13, 14, 15, 16, 17, 18, 19, 20], [0, 1, 2, 3, 4, 5, 6, 7, 8, 9, 10, 11, 12, 13, 14, 15, 16, 17, 18, 19], [0, 1, 2, 3, 4, 5, 6, 7, 8, 9, 10, 11, 12, 13, 14, 15, 16, 17, 18, 19, 22], [0, 1, 2, 3, 4, 5, 6, 7, 8, 9, 10, 11, 12, 13, 14, 15, 16, 17, 18, 19, 20, 21, 22, 23], [0, 1, 2, 3, 4, 5, 6, 7, 8, 9, 10, 11, 12, 13, 14, 15, 16, 17, 18, 19, 20, 21, 22, 23, 24], [0, 1, 2, 3, 4, 5, 6, 7, 8, 9, 10, 11, 12, 13, 14, 15, 16, 17, 18, 19, 20, 21, 22, 23, 24, 25], [0, 1, 2, 3, 4, 5, 6, 7, 8, 9, 10, 11, 12, 13, 14, 15, 16, 17, 18, 19, 20, 21, 22, 23, 24, 25, 26], [0, 1, 2, 3, 4, 5, 6, 7, 8, 9, 10, 11, 12, 13, 14, 15, 16, 17, 18, 19, 20, 21, 22, 23, 24, 25, 26, 27], [0, 1, 2, 3, 4, 5, 6, 7, 8, 9, 10, 11, 12, 13, 14, 15, 16, 17, 18, 19, 20, 21, 22, 23, 24, 25, 26, 27, 28], [0, 1, 2, 3, 4, 5, 6, 7, 8, 9, 10, 11, 12, 13, 14, 15, 16, 17, 18, 19, 20, 21, 22, 23, 24, 25, 26], [0, 1, 2, 3, 4, 5, 6, 7, 8, 9, 10, 11, 12, 13, 14, 15, 16, 17, 18, 19, 20, 21, 22, 23, 24, 25, 26, 30], [0, 1, 2, 3, 4, 5, 6, 7, 8, 9, 10, 11, 12, 13, 14, 15, 16, 17, 18, 19, 20, 21, 22, 23, 24, 25, 26, 27, 28, 29, 30, 31], [0, 1, 2, 3, 4, 5, 6, 7, 8, 9, 10, 11, 12, 13, 14, 15, 16, 17, 18, 19, 20, 21, 22, 23, 24, 25, 26, 27, 28, 29, 30, 31, 32], [0, 1, 2, 3, 4, 5, 6, 7, 8, 9, 10, 11, 12, 13, 14, 15, 16, 17, 18, 19, 20, 21, 22, 23, 24, 25, 26, 27, 28, 29, 30, 31, 32, 33], [0, 1, 2, 3, 4, 5, 6, 7, 8, 9, 10, 11, 12, 13, 14, 15, 16, 17, 18, 19, 20, 21, 22, 23, 24, 25, 26, 27, 28, 29, 30, 31, 32, 33, 34]] [hN 6 true (decide_eq_false hq1),
      hN 7 true (decide_eq_false hq1),
      hN 8 true (decide_eq_false hq1),
      hN 9 true (decide_eq_false hq1),
      hN 10 true (decide_eq_false hq1),
      hP 11 (decide_eq_false hq1),
      hN 13 (b := false) true rfl,
      hN 14 (b := false) true rfl,
      hN 15 (b := false) true rfl,
      hN 16 (b := false) true rfl,
      hN 17 (b := false) true rfl,
      hP 18 (b := false) (w := false) rfl,
      hN 20 (b := false) true rfl,
      hN 21 (b := false) true rfl,
      hN 22 (b := false) true rfl,
      hN 23 (b := false) true rfl,
      hN 24 (b := false) true rfl,
      hP 25 (b := false) (w := false) rfl,
      hN 27 (b := false) true rfl,
      hN 28 (b := false) true rfl,
      hN 29 (b := false) true rfl,
      hN 30 (b := false) true rfl,
      hN 31 (b := false) true rfl,
      hN 32 (b := false) true rfl,
      hN 33 (b := false) true rfl,
      hP 34 (b := false) (w := false) rfl] (by kernel_rfl) (by kernel_rfl) (by kernel_rfl) (by kernel_rfl) (by kernel_rfl) (by kernel_rfl) ?_
    refine nT ?_
    refine T.ret ?_
    exact tE (.inl rfl) [.t 4 (.one (.d (.val (.bool false))))] ⟨⟨rfl, by kernel_rfl⟩, trivial⟩ [] (by have e1 : ((decide (sameV a b)) : Bool) = false := (by (exact decide_eq_false (fun h9 => by obtain ⟨g1, g2, g3, g4, g5⟩ := h9; simp_all))); have hE := congrArg (fun (q1 : Bool) => (dv (.bool q1) : AV)) e1; exact hE) rfl rfl rfl rfl rfl trivial
end Go.Proofs.Ytlabmehgcfgigaa.Q
namespace Go.Proofs.Ytlabmehgcfgigaa.Q
open Go Go.RowKit
set_option linter.unusedVariables false
set_option linter.unusedSimpArgs false
set_option maxRecDepth 100000
set_option maxHeartbeats 4000000
-- quaestor/quaestorref04.Equal
theorem ref04_Equal (a : api_Value) (b : api_Value) : Holds Try.prog 27 ⟨[.tv (.agg [.d (.val (.int .i64 a.f_Kind)), .d (.val (.int .i64 a.f_Int)), .d (.val (.bool a.f_Bool)), .d (.val (strV a.f_Text)), .d (.val (.float .f64 a.f_Num))]), .tv (.agg [.d (.val (.int .i64 b.f_Kind)), .d (.val (.int .i64 b.f_Int)), .d (.val (.bool b.f_Bool)), .d (.val (strV b.f_Text)), .d (.val (.float .f64 b.f_Num))])], [], .tup [.one (.d (.val (.bool (eqV a b)))), .one (.d (.val (.int .i64 (eqE a b))))], []⟩ := by
  refine Holds.of Try.func27 rfl (N := 47) Try.ntmps27 rfl fun w0 B0 S0 U0 => ?_
  show T _ (mkBase 47 0 w0 S0 U0 B0) ⟨[.tv (.agg [.d (.val (.int .i64 a.f_Kind)), .d (.val (.int .i64 a.f_Int)), .d (.val (.bool a.f_Bool)), .d (.val (strV a.f_Text)), .d (.val (.float .f64 a.f_Num))]), .tv (.agg [.d (.val (.int .i64 b.f_Kind)), .d (.val (.int .i64 b.f_Int)), .d (.val (.bool b.f_Bool)), .d (.val (strV b.f_Text)), .d (.val (.float .f64 b.f_Num))])], []⟩ _ _
  refine T.seq ?_
  refine xR [] (by kernel_rfl) (by kernel_rfl) ?_
  refine nT ?_
  refine T.seq ?_
  refine T.seq ?_
  by_cases hq1 : goodV a
  · by_cases hq2 : goodV b
    · refine xR [hR 1 rfl rfl (r_call (ref04_Good a ) Try.func18 rfl (by decide) [] [] (l := [(.tmp 6, .tv (.agg [.d (.val (.int .i64 a.f_Kind)), .d (.val (.int .i64 a.f_Int)), .d (.val (.bool a.f_Bool)), .d (.val (strV a.f_Text)), .d (.val (.float .f64 a.f_Num))]))]) [] rfl 0 0 rfl rfl rfl rfl rfl rfl rfl rfl rfl ⟨⟨.inl ⟨rfl, rfl⟩, ⟨.inl ⟨rfl, rfl⟩, ⟨.inl ⟨rfl, rfl⟩, ⟨.inl ⟨rfl, rfl⟩, ⟨.inl ⟨rfl, rfl⟩, trivial⟩⟩⟩⟩⟩, trivial⟩ rfl (fun b hb => by cases hb) (.inl rfl) (lt_of rfl) trivial),
        hY 4 (congrArg Bool.not (decide_eq_true hq1)),
        hS 5 (oY rfl rfl rfl rfl (lt_of rfl) (congrArg Bool.not (decide_eq_true hq1)) (r_call (ref04_Good b ) Try.func18 rfl (by decide) [] [] (l := [(.tmp 10, .tv (.agg [.d (.val (.int .i64 b.f_Kind)), .d (.val (.int .i64 b.f_Int)), .d (.val (.bool b.f_Bool)), .d (.val (strV b.f_Text)), .d (.val (.float .f64 b.f_Num))]))]) [] rfl 0 0 rfl rfl rfl rfl rfl rfl rfl rfl rfl ⟨⟨.inl ⟨rfl, rfl⟩, ⟨.inl ⟨rfl, rfl⟩, ⟨.inl ⟨rfl, rfl⟩, ⟨.inl ⟨rfl, rfl⟩, ⟨.inl ⟨rfl, rfl⟩, trivial⟩⟩⟩⟩⟩, trivial⟩ rfl (fun b hb => by cases hb) (.inl rfl) (lt_of rfl) trivial)),
        hY 6 (congrArg Bool.not (decide_eq_true hq1)),
        hP 7 (congrArg Bool.not (decide_eq_true hq1)),
        hY 9 (congrArg Bool.not (decide_eq_true hq2)),
        hY 10 (congrArg Bool.not (decide_eq_true hq2)),
        hY 11 (congrArg Bool.not (decide_eq_true hq2)),
        hY 12 (congrArg Bool.not (decide_eq_true hq2)),
        hY 13 (congrArg Bool.not (decide_eq_true hq2)),
        hP 14 (congrArg Bool.not (decide_eq_true hq2))] (by kernel_rfl) (by kernel_rfl) ?_
      refine nT ?_
      by_cases hq3 : a.f_Kind ≠ b.f_Kind
      · refine T.condT (by kernel_rfl) (decide_eq_true hq3) ?_
        refine T.seq ?_
        refine xR [] (by kernel_rfl) (by kernel_rfl) ?_
        refine nT ?_
        refine T.ret ?_
        refine rT ?_
        exact tE (.inl rfl) [.t 4 (.one (.d (.val (.bool false)))), .t 5 (.one (.d (.val (.int .i64 40))))] ⟨⟨rfl, by kernel_rfl⟩, ⟨⟨rfl, by kernel_rfl⟩, trivial⟩⟩ [] (by have e1 : ((eqV a b) : Bool) = false := (by (exact if_neg (fun h9 => by obtain ⟨g1, g2, g3⟩ := h9; exact absurd g3 (by assumption)))); have e2 : (eqE a b : Int) = 40 := (by (exact if_neg (fun h9 => by obtain ⟨g1, g2, g3⟩ := h9; exact absurd g3 (by assumption)))); have hE := congr (congrArg (fun (q1 : Bool) (q2 : Int) => (.tup [.one (.d (.val (.bool q1))), .one (.d (.val (.int .i64 q2)))] : AV)) e1) e2; exact hE) rfl rfl rfl rfl rfl trivial
      · have hbo : bothV a b := ⟨by assumption, by assumption, Classical.not_not.1 hq3⟩
        refine T.condF (by kernel_rfl) (decide_eq_false hq3) ?_
        refine T.skip ?_
        refine nT ?_
        refine T.seq ?_
        by_cases hq4 : a.f_Int = b.f_Int
        · by_cases hq5 : a.f_Bool = b.f_Bool
          · by_cases hq6 : a.f_Text = b.f_Text
            · refine xR [hY 6 (decide_eq_true hq4),
                hY 7 (decide_eq_true hq4),
                hY 8 (decide_eq_true hq4),
                hY 9 (decide_eq_true hq4),
                hY 10 (decide_eq_true hq4),
                hP 11 (decide_eq_true hq4),
                hY 13 (decide_eq_true hq5),
                hY 14 (decide_eq_true hq5),
                hY 15 (decide_eq_true hq5),
                hY 16 (decide_eq_true hq5),
                hY 17 (decide_eq_true hq5),
                hP 18 (decide_eq_true hq5),
                hY 20 (decide_eq_true hq6),
                hY 21 (decide_eq_true hq6),
                hY 22 (decide_eq_true hq6),
                hY 23 (decide_eq_true hq6),
                hS 24 (oY rfl rfl rfl rfl (lt_of rfl) (decide_eq_true hq6) (r_bin (u1 := .float .f64 a.f_Num) (u2 := .float .f64 b.f_Num) (v := .bool (feqF a.f_Num b.f_Num)) b_feq (lt_of rfl) trivial)),
                hP 25 (decide_eq_true hq6)] (by kernel_rfl) (by kernel_rfl) ?_
              refine nT ?_
              refine T.ret ?_
              exact tE (.inl rfl) [.t 4 (.one (.d (.val (.bool (feqF a.f_Num b.f_Num))))), .t 5 (.one (.d (.val (.int .i64 0))))] ⟨⟨rfl, by kernel_rfl⟩, ⟨⟨rfl, by kernel_rfl⟩, trivial⟩⟩ [] (by have e1 : ((eqV a b) : Bool) = (feqF a.f_Num b.f_Num) := (by ((rw [eqV_parts hbo, eqS_parts hbo.2.2]; simp [*]; done))); have e2 : (eqE a b : Int) = 0 := (by ((rw [eqE, if_pos hbo]))); have hE := congr (congrArg (fun (q1 : Bool) (q2 : Int) => (.tup [.one (.d (.val (.bool q1))), .one (.d (.val (.int .i64 q2)))] : AV)) e1) e2; exact hE) rfl rfl rfl rfl rfl trivial
            · refine xR [hY 6 (decide_eq_true hq4),
                hY 7 (decide_eq_true hq4),
                hY 8 (decide_eq_true hq4),
                hY 9 (decide_eq_true hq4),
                hY 10 (decide_eq_true hq4),
                hP 11 (decide_eq_true hq4),
                hY 13 (decide_eq_true hq5),
                hY 14 (decide_eq_true hq5),
                hY 15 (decide_eq_true hq5),
                hY 16 (decide_eq_true hq5),
                hY 17 (decide_eq_true hq5),
                hP 18 (decide_eq_true hq5),
                hN 20 true (decide_eq_false hq6),
                hN 21 true (decide_eq_false hq6),
                hN 22 true (decide_eq_false hq6),
                hN 23 true (decide_eq_false hq6),
                hN 24 true (decide_eq_false hq6),
                hP 25 (decide_eq_false hq6)] (by kernel_rfl) (by kernel_rfl) ?_
              refine nT ?_
              refine T.ret ?_
              exact tE (.inl rfl) [.t 4 (.one (.d (.val (.bool false)))), .t 5 (.one (.d (.val (.int .i64 0))))] ⟨⟨rfl, by kernel_rfl⟩, ⟨⟨rfl, by kernel_rfl⟩, trivial⟩⟩ [] (by have e1 : ((eqV a b) : Bool) = false := (by ((rw [eqV_parts hbo, eqS_parts hbo.2.2]; simp [*]; done))); have e2 : (eqE a b : Int) = 0 := (by ((rw [eqE, if_pos hbo]))); have hE := congr (congrArg (fun (q1 : Bool) (q2 : Int) => (.tup [.one (.d (.val (.bool q1))), .one (.d (.val (.int .i64 q2)))] : AV)) e1) e2; exact hE) rfl rfl rfl rfl rfl trivial
          · refine xR [hY 6 (decide_eq_true hq4),
              hY 7 (decide_eq_true hq4),
              hY 8 (decide_eq_true hq4),
              hY 9 (decide_eq_true hq4),
              hY 10 (decide_eq_true hq4),
              hP 11 (decide_eq_true hq4),
              hN 13 true (decide_eq_false hq5),
              hN 14 true (decide_eq_false hq5),
              hN 15 true (decide_eq_false hq5),
              hN 16 true (decide_eq_false hq5),
              hN 17 true (decide_eq_false hq5),
              hP 18 (decide_eq_false hq5),
              hN 20 (b := false) true rfl,
              hN 21 (b := false) true rfl,
              hN 22 (b := false) true rfl,
              hN 23 (b := false) true rfl,
              hN 24 (b := false) true rfl,
              hP 25 (b := false) (w := false) rfl] (by kernel_rfl) (by kernel_rfl) ?_
            refine nT ?_
            refine T.ret ?_
            exact tE (.inl rfl) [.t 4 (.one (.d (.val (.bool false)))), .t 5 (.one (.d (.val (.int .i64 0))))] ⟨⟨rfl, by kernel_rfl⟩, ⟨⟨rfl, by kernel_rfl⟩, trivial⟩⟩ [] (by have e1 : ((eqV a b) : Bool) = false := (by ((rw [eqV_parts hbo, eqS_parts hbo.2.2]; simp [*]; done))); have e2 : (eqE a b : Int) = 0 := (by ((rw [eqE, if_pos hbo]))); have hE := congr (congrArg (fun (q1 : Bool) (q2 : Int) => (.tup [.one (.d (.val (.bool q1))), .one (.d (.val (.int .i64 q2)))] : AV)) e1) e2; exact hE) rfl rfl rfl rfl rfl trivial
        · refine xR [hN 6 true (decide_eq_false hq4),
            hN 7 true (decide_eq_false hq4),
            hN 8 true (decide_eq_false hq4),
            hN 9 true (decide_eq_false hq4),
            hN 10 true (decide_eq_false hq4),
            hP 11 (decide_eq_false hq4),
            hN 13 (b := false) true rfl,
            hN 14 (b := false) true rfl,
            hN 15 (b := false) true rfl,
            hN 16 (b := false) true rfl,
            hN 17 (b := false) true rfl,
            hP 18 (b := false) (w := false) rfl,
            hN 20 (b := false) true rfl,
            hN 21 (b := false) true rfl,
            hN 22 (b := false) true rfl,
            hN 23 (b := false) true rfl,
            hN 24 (b := false) true rfl,
            hP 25 (b := false) (w := false) rfl] (by kernel_rfl) (by kernel_rfl) ?_
          refine nT ?_
          refine T.ret ?_
          exact tE (.inl rfl) [.t 4 (.one (.d (.val (.bool false)))), .t 5 (.one (.d (.val (.int .i64 0))))] ⟨⟨rfl, by kernel_rfl⟩, ⟨⟨rfl, by kernel_rfl⟩, trivial⟩⟩ [] (by have e1 : ((eqV a b) : Bool) = false := (by ((rw [eqV_parts hbo, eqS_parts hbo.2.2]; simp [*]; done))); have e2 : (eqE a b : Int) = 0 := (by ((rw [eqE, if_pos hbo]))); have hE := congr (congrArg (fun (q1 : Bool) (q2 : Int) => (.tup [.one (.d (.val (.bool q1))), .one (.d (.val (.int .i64 q2)))] : AV)) e1) e2; exact hE) rfl rfl rfl rfl rfl trivial
    · refine xR [hR 1 rfl rfl (r_call (ref04_Good a ) Try.func18 rfl (by decide) [] [] (l := [(.tmp 6, .tv (.agg [.d (.val (.int .i64 a.f_Kind)), .d (.val (.int .i64 a.f_Int)), .d (.val (.bool a.f_Bool)), .d (.val (strV a.f_Text)), .d (.val (.float .f64 a.f_Num))]))]) [] rfl 0 0 rfl rfl rfl rfl rfl rfl rfl rfl rfl ⟨⟨.inl ⟨rfl, rfl⟩, ⟨.inl ⟨rfl, rfl⟩, ⟨.inl ⟨rfl, rfl⟩, ⟨.inl ⟨rfl, rfl⟩, ⟨.inl ⟨rfl, rfl⟩, trivial⟩⟩⟩⟩⟩, trivial⟩ rfl (fun b hb => by cases hb) (.inl rfl) (lt_of rfl) trivial),
        hY 4 (congrArg Bool.not (decide_eq_true hq1)),
        hS 5 (oY rfl rfl rfl rfl (lt_of rfl) (congrArg Bool.not (decide_eq_true hq1)) (r_call (ref04_Good b ) Try.func18 rfl (by decide) [] [] (l := [(.tmp 10, .tv (.agg [.d (.val (.int .i64 b.f_Kind)), .d (.val (.int .i64 b.f_Int)), .d (.val (.bool b.f_Bool)), .d (.val (strV b.f_Text)), .d (.val (.float .f64 b.f_Num))]))]) [] rfl 0 0 rfl rfl rfl rfl rfl rfl rfl rfl rfl ⟨⟨.inl ⟨rfl, rfl⟩, ⟨.inl ⟨rfl, rfl⟩, ⟨.inl ⟨rfl, rfl⟩, ⟨.inl ⟨rfl, rfl⟩, ⟨.inl ⟨rfl, rfl⟩, trivial⟩⟩⟩⟩⟩, trivial⟩ rfl (fun b hb => by cases hb) (.inl rfl) (lt_of rfl) trivial)),
        hY 6 (congrArg Bool.not (decide_eq_true hq1)),
        hP 7 (congrArg Bool.not (decide_eq_true hq1)),
        hN 9 false (congrArg Bool.not (decide_eq_false hq2)),
        hN 10 false (congrArg Bool.not (decide_eq_false hq2)),
        hN 11 false (congrArg Bool.not (decide_eq_false hq2)),
        hN 12 false (congrArg Bool.not (decide_eq_false hq2)),
        hN 13 false (congrArg Bool.not (decide_eq_false hq2)),
        hP 14 (congrArg Bool.not (decide_eq_false hq2))] (by kernel_rfl) (by kernel_rfl) ?_
      refine nT ?_
      refine T.condT (b := true) (by kernel_rfl) rfl ?_
      refine T.seq ?_
      refine xR [] (by kernel_rfl) (by kernel_rfl) ?_
      refine nT ?_
      refine T.ret ?_
      refine rT ?_
      exact tE (.inl rfl) [.t 4 (.one (.d (.val (.bool false)))), .t 5 (.one (.d (.val (.int .i64 40))))] ⟨⟨rfl, by kernel_rfl⟩, ⟨⟨rfl, by kernel_rfl⟩, trivial⟩⟩ [] (by have e1 : ((eqV a b) : Bool) = false := (by (exact if_neg (fun h9 => by obtain ⟨g1, g2, g3⟩ := h9; exact absurd g2 (by assumption)))); have e2 : (eqE a b : Int) = 40 := (by (exact if_neg (fun h9 => by obtain ⟨g1, g2, g3⟩ := h9; exact absurd g2 (by assumption)))); have hE := congr (congrArg (fun (q1 : Bool) (q2 : Int) => (.tup [.one (.d (.val (.bool q1))), .one (.d (.val (.int .i64 q2)))] : AV)) e1) e2; exact hE) rfl rfl rfl rfl rfl trivial
  · refine xR [hR 1 rfl rfl (r_call (ref04_Good a ) Try.func18 rfl (by decide) [] [] (l := [(.tmp 6, .tv (.agg [.d (.val (.int .i64 a.f_Kind)), .d (.val (.int .i64 a.f_Int)), .d (.val (.bool a.f_Bool)), .d (.val (strV a.f_Text)), .d (.val (.float .f64 a.f_Num))]))]) [] rfl 0 0 rfl rfl rfl rfl rfl rfl rfl rfl rfl ⟨⟨.inl ⟨rfl, rfl⟩, ⟨.inl ⟨rfl, rfl⟩, ⟨.inl ⟨rfl, rfl⟩, ⟨.inl ⟨rfl, rfl⟩, ⟨.inl ⟨rfl, rfl⟩, trivial⟩⟩⟩⟩⟩, trivial⟩ rfl (fun b hb => by cases hb) (.inl rfl) (lt_of rfl) trivial),
      hN 4 false (congrArg Bool.not (decide_eq_false hq1)),
      hN 5 false (congrArg Bool.not (decide_eq_false hq1)),
      hN 6 false (congrArg Bool.not (decide_eq_false hq1)),
      hP 7 (congrArg Bool.not (decide_eq_false hq1)),
      hN 9 (b := true) false rfl,
      hN 10 (b := true) false rfl,
      hN 11 (b := true) false rfl,
      hN 12 (b := true) false rfl,
      hN 13 (b := true) false rfl,
      hP 14 (b := true) (w := true) rfl] (by kernel_rfl) (by kernel_rfl) ?_
    refine nT ?_
    refine T.condT (b := true) (by kernel_rfl) rfl ?_
    refine T.seq ?_
    refine xR [] (by kernel_rfl) (by kernel_rfl) ?_
    refine nT ?_
    refine T.ret ?_
    refine rT ?_
    exact tE (.inl rfl) [.t 4 (.one (.d (.val (.bool false)))), .t 5 (.one (.d (.val (.int .i64 40))))] ⟨⟨rfl, by kernel_rfl⟩, ⟨⟨rfl, by kernel_rfl⟩, trivial⟩⟩ [] (by have e1 : ((eqV a b) : Bool) = false := (by (exact if_neg (fun h9 => by obtain ⟨g1, g2, g3⟩ := h9; exact absurd g1 (by assumption)))); have e2 : (eqE a b : Int) = 40 := (by (exact if_neg (fun h9 => by obtain ⟨g1, g2, g3⟩ := h9; exact absurd g1 (by assumption)))); have hE := congr (congrArg (fun (q1 : Bool) (q2 : Int) => (.tup [.one (.d (.val (.bool q1))), .one (.d (.val (.int .i64 q2)))] : AV)) e1) e2; exact hE) rfl rfl rfl rfl rfl trivial
end Go.Proofs.Ytlabmehgcfgigaa.Q
namespace Go.Proofs.Ytlabmehgcfgigaa.Q
open Go Go.RowKit
set_option linter.unusedVariables false
set_option linter.unusedSimpArgs false
set_option maxRecDepth 100000
set_option maxHeartbeats 4000000
-- quaestor/value.Less
theorem value_Less (a : api_Value) (b : api_Value) : Holds Try.prog 28 ⟨[.tv (.agg [.d (.val (.int .i64 a.f_Kind)), .d (.val (.int .i64 a.f_Int)), .d (.val (.bool a.f_Bool)), .d (.val (strV a.f_Text)), .d (.val (.float .f64 a.f_Num))]), .tv (.agg [.d (.val (.int .i64 b.f_Kind)), .d (.val (.int .i64 b.f_Int)), .d (.val (.bool b.f_Bool)), .d (.val (strV b.f_Text)), .d (.val (.float .f64 b.f_Num))])], [], .tup [.one (.d (.val (.bool (lessV a b)))), .one (.d (.val (.int .i64 (lessE a b))))], []⟩ := by
  refine Holds.of Try.func28 rfl (N := 33) Try.ntmps28 rfl fun w0 B0 S0 U0 => ?_
  show T _ (mkBase 33 0 w0 S0 U0 B0) ⟨[.tv (.agg [.d (.val (.int .i64 a.f_Kind)), .d (.val (.int .i64 a.f_Int)), .d (.val (.bool a.f_Bool)), .d (.val (strV a.f_Text)), .d (.val (.float .f64 a.f_Num))]), .tv (.agg [.d (.val (.int .i64 b.f_Kind)), .d (.val (.int .i64 b.f_Int)), .d (.val (.bool b.f_Bool)), .d (.val (strV b.f_Text)), .d (.val (.float .f64 b.f_Num))])], []⟩ _ _
  refine T.seq ?_
  refine xR [] (by kernel_rfl) (by kernel_rfl) ?_
  refine nT ?_
  refine T.seq ?_
  refine T.seq ?_
  refine xR [hR 2 rfl rfl (r_call (value_both a b ) Try.func51 rfl (by decide) [] [] (l := [(.tmp 6, .tv (.agg [.d (.val (.int .i64 a.f_Kind)), .d (.val (.int .i64 a.f_Int)), .d (.val (.bool a.f_Bool)), .d (.val (strV a.f_Text)), .d (.val (.float .f64 a.f_Num))])), (.tmp 7, .tv (.agg [.d (.val (.int .i64 b.f_Kind)), .d (.val (.int .i64 b.f_Int)), .d (.val (.bool b.f_Bool)), .d (.val (strV b.f_Text)), .d (.val (.float .f64 b.f_Num))]))]) [] rfl 0 0 rfl rfl rfl rfl rfl rfl rfl rfl rfl ⟨⟨.inl ⟨rfl, rfl⟩, ⟨.inl ⟨rfl, rfl⟩, ⟨.inl ⟨rfl, rfl⟩, ⟨.inl ⟨rfl, rfl⟩, ⟨.inl ⟨rfl, rfl⟩, trivial⟩⟩⟩⟩⟩, ⟨⟨.inl ⟨rfl, rfl⟩, ⟨.inl ⟨rfl, rfl⟩, ⟨.inl ⟨rfl, rfl⟩, ⟨.inl ⟨rfl, rfl⟩, ⟨.inl ⟨rfl, rfl⟩, trivial⟩⟩⟩⟩⟩, trivial⟩⟩ rfl (fun b hb => by cases hb) (.inl rfl) (lt_of rfl) trivial)] (by kernel_rfl) (by kernel_rfl) ?_
  refine nT ?_
  by_cases hq1 : bothV a b
  · refine T.condF (by kernel_rfl) (congrArg Bool.not (decide_eq_true hq1)) ?_
    refine T.skip ?_
    refine nT ?_
    refine T.seq ?_
    refine T.seq ?_
    refine xR [] (by kernel_rfl) (by kernel_rfl) ?_
    refine nT ?_
    refine T.block ?_
    refine T.seq ?_
    refine xR [] (by kernel_rfl) (by kernel_rfl) ?_
    refine nT ?_
    by_cases hq2 : a.f_Kind = 1
    · refine T.condT (by kernel_rfl) (decide_eq_true hq2) ?_
      refine T.seq ?_
      refine xR [] (by kernel_rfl) (by kernel_rfl) ?_
      refine nT ?_
      refine T.ret ?_
      refine rB ?_
      refine rT ?_
      exact tE (.inl rfl) [.t 4 (.one (.d (.val (.bool (decide (a.f_Int < b.f_Int)))))), .t 5 (.one (.d (.val (.int .i64 0))))] ⟨⟨rfl, by kernel_rfl⟩, ⟨⟨rfl, by kernel_rfl⟩, trivial⟩⟩ [] (by have e1 : ((lessV a b) : Bool) = (decide (a.f_Int < b.f_Int)) := (by ((rw [lessV, if_pos (by assumption)]; simp [*]; done))); have e2 : (lessE a b : Int) = 0 := (by ((rw [lessE, if_pos (by assumption), if_neg (by omega)]))); have hE := congr (congrArg (fun (q1 : Bool) (q2 : Int) => (.tup [.one (.d (.val (.bool q1))), .one (.d (.val (.int .i64 q2)))] : AV)) e1) e2; exact hE) rfl rfl rfl rfl rfl trivial
    · refine T.condF (by kernel_rfl) (decide_eq_false hq2) ?_
      refine T.seq ?_
      refine xR [] (by kernel_rfl) (by kernel_rfl) ?_
      refine nT ?_
      by_cases hq3 : a.f_Kind = 3
      · refine T.condT (by kernel_rfl) (decide_eq_true hq3) ?_
        refine T.seq ?_
        refine xR [hR 4 rfl rfl (r_bin (u1 := strV a.f_Text) (u2 := strV b.f_Text) (v := .bool (ltS a.f_Text b.f_Text)) b_ltS (lt_of rfl) trivial)] (by kernel_rfl) (by kernel_rfl) ?_
        refine nT ?_
        refine T.ret ?_
        refine rB ?_
        refine rT ?_
        exact tE (.inl rfl) [.t 4 (.one (.d (.val (.bool (ltS a.f_Text b.f_Text))))), .t 5 (.one (.d (.val (.int .i64 0))))] ⟨⟨rfl, by kernel_rfl⟩, ⟨⟨rfl, by kernel_rfl⟩, trivial⟩⟩ [] (by have e1 : ((lessV a b) : Bool) = (ltS a.f_Text b.f_Text) := (by ((rw [lessV, if_pos (by assumption)]; simp [*]; done))); have e2 : (lessE a b : Int) = 0 := (by ((rw [lessE, if_pos (by assumption), if_neg (by omega)]))); have hE := congr (congrArg (fun (q1 : Bool) (q2 : Int) => (.tup [.one (.d (.val (.bool q1))), .one (.d (.val (.int .i64 q2)))] : AV)) e1) e2; exact hE) rfl rfl rfl rfl rfl trivial
      · refine T.condF (by kernel_rfl) (decide_eq_false hq3) ?_
        refine T.seq ?_
        refine xR [] (by kernel_rfl) (by kernel_rfl) ?_
        refine nT ?_
        by_cases hq4 : a.f_Kind = 4
        · refine T.condT (by kernel_rfl) (decide_eq_true hq4) ?_
          refine T.seq ?_
          refine xR [hR 4 rfl rfl (r_bin (u1 := .float .f64 a.f_Num) (u2 := .float .f64 b.f_Num) (v := .bool (fltF a.f_Num b.f_Num)) b_flt (lt_of rfl) trivial)] (by kernel_rfl) (by kernel_rfl) ?_
          refine nT ?_
          refine T.ret ?_
          refine rB ?_
          refine rT ?_
          exact tE (.inl rfl) [.t 4 (.one (.d (.val (.bool (fltF a.f_Num b.f_Num))))), .t 5 (.one (.d (.val (.int .i64 0))))] ⟨⟨rfl, by kernel_rfl⟩, ⟨⟨rfl, by kernel_rfl⟩, trivial⟩⟩ [] (by have e1 : ((lessV a b) : Bool) = (fltF a.f_Num b.f_Num) := (by ((rw [lessV, if_pos (by assumption)]; simp [*]; done))); have e2 : (lessE a b : Int) = 0 := (by ((rw [lessE, if_pos (by assumption), if_neg (by omega)]))); have hE := congr (congrArg (fun (q1 : Bool) (q2 : Int) => (.tup [.one (.d (.val (.bool q1))), .one (.d (.val (.int .i64 q2)))] : AV)) e1) e2; exact hE) rfl rfl rfl rfl rfl trivial
        · refine T.condF (by kernel_rfl) (decide_eq_false hq4) ?_
          refine T.skip ?_
          refine nB ?_
          refine nT ?_
          refine T.seq ?_
          refine xR [] (by kernel_rfl) (by kernel_rfl) ?_
          refine nT ?_
          refine T.ret ?_
          exact tE (.inl rfl) [.t 4 (.one (.d (.val (.bool false)))), .t 5 (.one (.d (.val (.int .i64 40))))] ⟨⟨rfl, by kernel_rfl⟩, ⟨⟨rfl, by kernel_rfl⟩, trivial⟩⟩ [] (by have e1 : ((lessV a b) : Bool) = false := (by ((rw [lessV, if_pos (by assumption)]; simp [*]; done))); have e2 : (lessE a b : Int) = 40 := (by ((have hk9 := (good_iff.1 (by assumption : bothV a b).1).1; (rw [lessE, if_pos (by assumption), if_pos (by omega)])))); have hE := congr (congrArg (fun (q1 : Bool) (q2 : Int) => (.tup [.one (.d (.val (.bool q1))), .one (.d (.val (.int .i64 q2)))] : AV)) e1) e2; exact hE) rfl rfl rfl rfl rfl trivial
  · refine T.condT (by kernel_rfl) (congrArg Bool.not (decide_eq_false hq1)) ?_
    refine T.seq ?_
    refine xR [] (by kernel_rfl) (by kernel_rfl) ?_
    refine nT ?_
    refine T.ret ?_
    refine rT ?_
    exact tE (.inl rfl) [.t 4 (.one (.d (.val (.bool false)))), .t 5 (.one (.d (.val (.int .i64 40))))] ⟨⟨rfl, by kernel_rfl⟩, ⟨⟨rfl, by kernel_rfl⟩, trivial⟩⟩ [] (by have e1 : ((lessV a b) : Bool) = false := (by (exact if_neg (by assumption))); have e2 : (lessE a b : Int) = 40 := (by (exact if_neg (by assumption))); have hE := congr (congrArg (fun (q1 : Bool) (q2 : Int) => (.tup [.one (.d (.val (.bool q1))), .one (.d (.val (.int .i64 q2)))] : AV)) e1) e2; exact hE) rfl rfl rfl rfl rfl trivial
end Go.Proofs.Ytlabmehgcfgigaa.Q
namespace Go.Proofs.Ytlabmehgcfgigaa.Q
open Go Go.RowKit
set_option linter.unusedVariables false
set_option linter.unusedSimpArgs false
set_option maxRecDepth 100000
set_option maxHeartbeats 4000000
-- quaestor/quaestorref04.Less
theorem ref04_Less (a : api_Value) (b : api_Value) : Holds Try.prog 29 ⟨[.tv (.agg [.d (.val (.int .i64 a.f_Kind)), .d (.val (.int .i64 a.f_Int)), .d (.val (.bool a.f_Bool)), .d (.val (strV a.f_Text)), .d (.val (.float .f64 a.f_Num))]), .tv (.agg [.d (.val (.int .i64 b.f_Kind)), .d (.val (.int .i64 b.f_Int)), .d (.val (.bool b.f_Bool)), .d (.val (strV b.f_Text)), .d (.val (.float .f64 b.f_Num))])], [], .tup [.one (.d (.val (.bool (lessV a b)))), .one (.d (.val (.int .i64 (lessE a b))))], []⟩ := by
  refine Holds.of Try.func29 rfl (N := 45) Try.ntmps29 rfl fun w0 B0 S0 U0 => ?_
  show T _ (mkBase 45 0 w0 S0 U0 B0) ⟨[.tv (.agg [.d (.val (.int .i64 a.f_Kind)), .d (.val (.int .i64 a.f_Int)), .d (.val (.bool a.f_Bool)), .d (.val (strV a.f_Text)), .d (.val (.float .f64 a.f_Num))]), .tv (.agg [.d (.val (.int .i64 b.f_Kind)), .d (.val (.int .i64 b.f_Int)), .d (.val (.bool b.f_Bool)), .d (.val (strV b.f_Text)), .d (.val (.float .f64 b.f_Num))])], []⟩ _ _
  refine T.seq ?_
  refine xR [] (by kernel_rfl) (by kernel_rfl) ?_
  refine nT ?_
  refine T.seq ?_
  refine T.seq ?_
  by_cases hq1 : goodV a
  · by_cases hq2 : goodV b
    · by_cases hq3 : a.f_Kind ≠ b.f_Kind
      · refine xR [hR 1 rfl rfl (r_call (ref04_Good a ) Try.func18 rfl (by decide) [] [] (l := [(.tmp 6, .tv (.agg [.d (.val (.int .i64 a.f_Kind)), .d (.val (.int .i64 a.f_Int)), .d (.val (.bool a.f_Bool)), .d (.val (strV a.f_Text)), .d (.val (.float .f64 a.f_Num))]))]) [] rfl 0 0 rfl rfl rfl rfl rfl rfl rfl rfl rfl ⟨⟨.inl ⟨rfl, rfl⟩, ⟨.inl ⟨rfl, rfl⟩, ⟨.inl ⟨rfl, rfl⟩, ⟨.inl ⟨rfl, rfl⟩, ⟨.inl ⟨rfl, rfl⟩, trivial⟩⟩⟩⟩⟩, trivial⟩ rfl (fun b hb => by cases hb) (.inl rfl) (lt_of rfl) trivial),
          hY 4 (congrArg Bool.not (decide_eq_true hq1)),
          hS 5 (oY rfl rfl rfl rfl (lt_of rfl) (congrArg Bool.not (decide_eq_true hq1)) (r_call (ref04_Good b ) Try.func18 rfl (by decide) [] [] (l := [(.tmp 10, .tv (.agg [.d (.val (.int .i64 b.f_Kind)), .d (.val (.int .i64 b.f_Int)), .d (.val (.bool b.f_Bool)), .d (.val (strV b.f_Text)), .d (.val (.float .f64 b.f_Num))]))]) [] rfl 0 0 rfl rfl rfl rfl rfl rfl rfl rfl rfl ⟨⟨.inl ⟨rfl, rfl⟩, ⟨.inl ⟨rfl, rfl⟩, ⟨.inl ⟨rfl, rfl⟩, ⟨.inl ⟨rfl, rfl⟩, ⟨.inl ⟨rfl, rfl⟩, trivial⟩⟩⟩⟩⟩, trivial⟩ rfl (fun b hb => by cases hb) (.inl rfl) (lt_of rfl) trivial)),
          hY 6 (congrArg Bool.not (decide_eq_true hq1)),
          hP 7 (congrArg Bool.not (decide_eq_true hq1)),
          hY 9 (congrArg Bool.not (decide_eq_true hq2)),
          hY 10 (congrArg Bool.not (decide_eq_true hq2)),
          hY 11 (congrArg Bool.not (decide_eq_true hq2)),
          hY 12 (congrArg Bool.not (decide_eq_true hq2)),
          hY 13 (congrArg Bool.not (decide_eq_true hq2)),
          hP 14 (congrArg Bool.not (decide_eq_true hq2)),
          hN 16 false (decide_eq_true hq3),
          hN 17 false (decide_eq_true hq3),
          hN 18 false (decide_eq_true hq3),
          hP 19 (decide_eq_true hq3)] (by kernel_rfl) (by kernel_rfl) ?_
        refine nT ?_
        refine T.condT (b := true) (by kernel_rfl) rfl ?_
        refine T.seq ?_
        refine xR [] (by kernel_rfl) (by kernel_rfl) ?_
        refine nT ?_
        refine T.ret ?_
        refine rT ?_
        exact tE (.inl rfl) [.t 4 (.one (.d (.val (.bool false)))), .t 5 (.one (.d (.val (.int .i64 40))))] ⟨⟨rfl, by kernel_rfl⟩, ⟨⟨rfl, by kernel_rfl⟩, trivial⟩⟩ [] (by have e1 : ((lessV a b) : Bool) = false := (by (exact if_neg (fun h9 => by obtain ⟨g1, g2, g3⟩ := h9; exact absurd g3 (by assumption)))); have e2 : (lessE a b : Int) = 40 := (by (exact if_neg (fun h9 => by obtain ⟨g1, g2, g3⟩ := h9; exact absurd g3 (by assumption)))); have hE := congr (congrArg (fun (q1 : Bool) (q2 : Int) => (.tup [.one (.d (.val (.bool q1))), .one (.d (.val (.int .i64 q2)))] : AV)) e1) e2; exact hE) rfl rfl rfl rfl rfl trivial
      · have hbo : bothV a b := ⟨by assumption, by assumption, Classical.not_not.1 hq3⟩
        refine xR [hR 1 rfl rfl (r_call (ref04_Good a ) Try.func18 rfl (by decide) [] [] (l := [(.tmp 6, .tv (.agg [.d (.val (.int .i64 a.f_Kind)), .d (.val (.int .i64 a.f_Int)), .d (.val (.bool a.f_Bool)), .d (.val (strV a.f_Text)), .d (.val (.float .f64 a.f_Num))]))]) [] rfl 0 0 rfl rfl rfl rfl rfl rfl rfl rfl rfl ⟨⟨.inl ⟨rfl, rfl⟩, ⟨.inl ⟨rfl, rfl⟩, ⟨.inl ⟨rfl, rfl⟩, ⟨.inl ⟨rfl, rfl⟩, ⟨.inl ⟨rfl, rfl⟩, trivial⟩⟩⟩⟩⟩, trivial⟩ rfl (fun b hb => by cases hb) (.inl rfl) (lt_of rfl) trivial),
          hY 4 (congrArg Bool.not (decide_eq_true hq1)),
          hS 5 (oY rfl rfl rfl rfl (lt_of rfl) (congrArg Bool.not (decide_eq_true hq1)) (r_call (ref04_Good b ) Try.func18 rfl (by decide) [] [] (l := [(.tmp 10, .tv (.agg [.d (.val (.int .i64 b.f_Kind)), .d (.val (.int .i64 b.f_Int)), .d (.val (.bool b.f_Bool)), .d (.val (strV b.f_Text)), .d (.val (.float .f64 b.f_Num))]))]) [] rfl 0 0 rfl rfl rfl rfl rfl rfl rfl rfl rfl ⟨⟨.inl ⟨rfl, rfl⟩, ⟨.inl ⟨rfl, rfl⟩, ⟨.inl ⟨rfl, rfl⟩, ⟨.inl ⟨rfl, rfl⟩, ⟨.inl ⟨rfl, rfl⟩, trivial⟩⟩⟩⟩⟩, trivial⟩ rfl (fun b hb => by cases hb) (.inl rfl) (lt_of rfl) trivial)),
          hY 6 (congrArg Bool.not (decide_eq_true hq1)),
          hP 7 (congrArg Bool.not (decide_eq_true hq1)),
          hY 9 (congrArg Bool.not (decide_eq_true hq2)),
          hY 10 (congrArg Bool.not (decide_eq_true hq2)),
          hY 11 (congrArg Bool.not (decide_eq_true hq2)),
          hY 12 (congrArg Bool.not (decide_eq_true hq2)),
          hY 13 (congrArg Bool.not (decide_eq_true hq2)),
          hP 14 (congrArg Bool.not (decide_eq_true hq2)),
          hY 16 (decide_eq_false hq3),
          hY 17 (decide_eq_false hq3),
          hY 18 (decide_eq_false hq3),
          hP 19 (decide_eq_false hq3)] (by kernel_rfl) (by kernel_rfl) ?_
        refine nT ?_
        by_cases hq4 : a.f_Kind = 2
        · refine T.condT (by kernel_rfl) (decide_eq_true hq4) ?_
          refine T.seq ?_
          refine xR [] (by kernel_rfl) (by kernel_rfl) ?_
          refine nT ?_
          refine T.ret ?_
          refine rT ?_
          exact tE (.inl rfl) [.t 4 (.one (.d (.val (.bool false)))), .t 5 (.one (.d (.val (.int .i64 40))))] ⟨⟨rfl, by kernel_rfl⟩, ⟨⟨rfl, by kernel_rfl⟩, trivial⟩⟩ [] (by have e1 : ((lessV a b) : Bool) = false := (by ((rw [lessV, if_pos hbo, if_neg (by omega), if_neg (by omega), if_neg (by omega)]))); have e2 : (lessE a b : Int) = 40 := (by ((rw [lessE, if_pos hbo, if_pos (by assumption)]))); have hE := congr (congrArg (fun (q1 : Bool) (q2 : Int) => (.tup [.one (.d (.val (.bool q1))), .one (.d (.val (.int .i64 q2)))] : AV)) e1) e2; exact hE) rfl rfl rfl rfl rfl trivial
        · refine T.condF (by kernel_rfl) (decide_eq_false hq4) ?_
          refine T.skip ?_
          refine nT ?_
          refine T.seq ?_
          by_cases hq5 : a.f_Int < b.f_Int
          · refine xR [hN 6 false (decide_eq_true hq5),
              hN 7 false (decide_eq_true hq5),
              hN 8 false (decide_eq_true hq5),
              hN 9 false (decide_eq_true hq5),
              hN 10 false (decide_eq_true hq5),
              hP 11 (decide_eq_true hq5),
              hN 13 (b := true) false rfl,
              hN 14 (b := true) false rfl,
              hN 15 (b := true) false rfl,
              hN 16 (b := true) false rfl,
              hN 17 (b := true) false rfl,
              hP 18 (b := true) (w := true) rfl] (by kernel_rfl) (by kernel_rfl) ?_
            refine nT ?_
            refine T.ret ?_
            exact tE (.inl rfl) [.t 4 (.one (.d (.val (.bool true)))), .t 5 (.one (.d (.val (.int .i64 0))))] ⟨⟨rfl, by kernel_rfl⟩, ⟨⟨rfl, by kernel_rfl⟩, trivial⟩⟩ [] (by have e1 : ((lessV a b) : Bool) = true := (by ((rw [less_parts hbo (by assumption)]; simp [*]; done))); have e2 : (lessE a b : Int) = 0 := (by ((rw [lessE, if_pos hbo, if_neg (by assumption)]))); have hE := congr (congrArg (fun (q1 : Bool) (q2 : Int) => (.tup [.one (.d (.val (.bool q1))), .one (.d (.val (.int .i64 q2)))] : AV)) e1) e2; exact hE) rfl rfl rfl rfl rfl trivial
          · by_cases hq6 : (ltS a.f_Text b.f_Text) = true
            · refine xR [hY 6 (decide_eq_false hq5),
                hY 7 (decide_eq_false hq5),
                hY 8 (decide_eq_false hq5),
                hY 9 (decide_eq_false hq5),
                hS 10 (oY rfl rfl rfl rfl (lt_of rfl) (decide_eq_false hq5) (r_bin (u1 := strV a.f_Text) (u2 := strV b.f_Text) (v := .bool (ltS a.f_Text b.f_Text)) b_ltS (lt_of rfl) trivial)),
                hP 11 (decide_eq_false hq5),
                hN 13 false hq6,
                hN 14 false hq6,
                hN 15 false hq6,
                hN 16 false hq6,
                hN 17 false hq6,
                hP 18 hq6] (by kernel_rfl) (by kernel_rfl) ?_
              refine nT ?_
              refine T.ret ?_
              exact tE (.inl rfl) [.t 4 (.one (.d (.val (.bool true)))), .t 5 (.one (.d (.val (.int .i64 0))))] ⟨⟨rfl, by kernel_rfl⟩, ⟨⟨rfl, by kernel_rfl⟩, trivial⟩⟩ [] (by have e1 : ((lessV a b) : Bool) = true := (by ((rw [less_parts hbo (by assumption)]; simp [*]; done))); have e2 : (lessE a b : Int) = 0 := (by ((rw [lessE, if_pos hbo, if_neg (by assumption)]))); have hE := congr (congrArg (fun (q1 : Bool) (q2 : Int) => (.tup [.one (.d (.val (.bool q1))), .one (.d (.val (.int .i64 q2)))] : AV)) e1) e2; exact hE) rfl rfl rfl rfl rfl trivial
            · replace hq6 := Bool.eq_false_iff.2 hq6
              refine xR [hY 6 (decide_eq_false hq5),
                hY 7 (decide_eq_false hq5),
                hY 8 (decide_eq_false hq5),
                hY 9 (decide_eq_false hq5),
                hS 10 (oY rfl rfl rfl rfl (lt_of rfl) (decide_eq_false hq5) (r_bin (u1 := strV a.f_Text) (u2 := strV b.f_Text) (v := .bool (ltS a.f_Text b.f_Text)) b_ltS (lt_of rfl) trivial)),
                hP 11 (decide_eq_false hq5),
                hY 13 hq6,
                hY 14 hq6,
                hY 15 hq6,
                hY 16 hq6,
                hS 17 (oY rfl rfl rfl rfl (lt_of rfl) hq6 (r_bin (u1 := .float .f64 a.f_Num) (u2 := .float .f64 b.f_Num) (v := .bool (fltF a.f_Num b.f_Num)) b_flt (lt_of rfl) trivial)),
                hP 18 hq6] (by kernel_rfl) (by kernel_rfl) ?_
              refine nT ?_
              refine T.ret ?_
              exact tE (.inl rfl) [.t 4 (.one (.d (.val (.bool (fltF a.f_Num b.f_Num))))), .t 5 (.one (.d (.val (.int .i64 0))))] ⟨⟨rfl, by kernel_rfl⟩, ⟨⟨rfl, by kernel_rfl⟩, trivial⟩⟩ [] (by have e1 : ((lessV a b) : Bool) = (fltF a.f_Num b.f_Num) := (by ((rw [less_parts hbo (by assumption)]; simp [*]; done))); have e2 : (lessE a b : Int) = 0 := (by ((rw [lessE, if_pos hbo, if_neg (by assumption)]))); have hE := congr (congrArg (fun (q1 : Bool) (q2 : Int) => (.tup [.one (.d (.val (.bool q1))), .one (.d (.val (.int .i64 q2)))] : AV)) e1) e2; exact hE) rfl rfl rfl rfl rfl trivial
    · refine xR [hR 1 rfl rfl (r_call (ref04_Good a ) Try.func18 rfl (by decide) [] [] (l := [(.tmp 6, .tv (.agg [.d (.val (.int .i64 a.f_Kind)), .d (.val (.int .i64 a.f_Int)), .d (.val (.bool a.f_Bool)), .d (.val (strV a.f_Text)), .d (.val (.float .f64 a.f_Num))]))]) [] rfl 0 0 rfl rfl rfl rfl rfl rfl rfl rfl rfl ⟨⟨.inl ⟨rfl, rfl⟩, ⟨.inl ⟨rfl, rfl⟩, ⟨.inl ⟨rfl, rfl⟩, ⟨.inl ⟨rfl, rfl⟩, ⟨.inl ⟨rfl, rfl⟩, trivial⟩⟩⟩⟩⟩, trivial⟩ rfl (fun b hb => by cases hb) (.inl rfl) (lt_of rfl) trivial),
        hY 4 (congrArg Bool.not (decide_eq_true hq1)),
        hS 5 (oY rfl rfl rfl rfl (lt_of rfl) (congrArg Bool.not (decide_eq_true hq1)) (r_call (ref04_Good b ) Try.func18 rfl (by decide) [] [] (l := [(.tmp 10, .tv (.agg [.d (.val (.int .i64 b.f_Kind)), .d (.val (.int .i64 b.f_Int)), .d (.val (.bool b.f_Bool)), .d (.val (strV b.f_Text)), .d (.val (.float .f64 b.f_Num))]))]) [] rfl 0 0 rfl rfl rfl rfl rfl rfl rfl rfl rfl ⟨⟨.inl ⟨rfl, rfl⟩, ⟨.inl ⟨rfl, rfl⟩, ⟨.inl ⟨rfl, rfl⟩, ⟨.inl ⟨rfl, rfl⟩, ⟨.inl ⟨rfl, rfl⟩, trivial⟩⟩⟩⟩⟩, trivial⟩ rfl (fun b hb => by cases hb) (.inl rfl) (lt_of rfl) trivial)),
        hY 6 (congrArg Bool.not (decide_eq_true hq1)),
        hP 7 (congrArg Bool.not (decide_eq_true hq1)),
        hN 9 false (congrArg Bool.not (decide_eq_false hq2)),
        hN 10 false (congrArg Bool.not (decide_eq_false hq2)),
        hN 11 false (congrArg Bool.not (decide_eq_false hq2)),
        hN 12 false (congrArg Bool.not (decide_eq_false hq2)),
        hN 13 false (congrArg Bool.not (decide_eq_false hq2)),
        hP 14 (congrArg Bool.not (decide_eq_false hq2)),
        hN 16 (b := true) false rfl,
        hN 17 (b := true) false rfl,
        hN 18 (b := true) false rfl,
        hP 19 (b := true) (w := true) rfl] (by kernel_rfl) (by kernel_rfl) ?_
      refine nT ?_
      refine T.condT (b := true) (by kernel_rfl) rfl ?_
      refine T.seq ?_
      refine xR [] (by kernel_rfl) (by kernel_rfl) ?_
      refine nT ?_
      refine T.ret ?_
      refine rT ?_
      exact tE (.inl rfl) [.t 4 (.one (.d (.val (.bool false)))), .t 5 (.one (.d (.val (.int .i64 40))))] ⟨⟨rfl, by kernel_rfl⟩, ⟨⟨rfl, by kernel_rfl⟩, trivial⟩⟩ [] (by have e1 : ((lessV a b) : Bool) = false := (by (exact if_neg (fun h9 => by obtain ⟨g1, g2, g3⟩ := h9; exact absurd g2 (by assumption)))); have e2 : (lessE a b : Int) = 40 := (by (exact if_neg (fun h9 => by obtain ⟨g1, g2, g3⟩ := h9; exact absurd g2 (by assumption)))); have hE := congr (congrArg (fun (q1 : Bool) (q2 : Int) => (.tup [.one (.d (.val (.bool q1))), .one (.d (.val (.int .i64 q2)))] : AV)) e1) e2; exact hE) rfl rfl rfl rfl rfl trivial
  · refine xR [hR 1 rfl rfl (r_call (ref04_Good a ) Try.func18 rfl (by decide) [] [] (l := [(.tmp 6, .tv (.agg [.d (.val (.int .i64 a.f_Kind)), .d (.val (.int .i64 a.f_Int)), .d (.val (.bool a.f_Bool)), .d (.val (strV a.f_Text)), .d (.val (.float .f64 a.f_Num))]))]) [] rfl 0 0 rfl rfl rfl rfl rfl rfl rfl rfl rfl ⟨⟨.inl ⟨rfl, rfl⟩, ⟨.inl ⟨rfl, rfl⟩, ⟨.inl ⟨rfl, rfl⟩, ⟨.inl ⟨rfl, rfl⟩, ⟨.inl ⟨rfl, rfl⟩, trivial⟩⟩⟩⟩⟩, trivial⟩ rfl (fun b hb => by cases hb) (.inl rfl) (lt_of rfl) trivial),
      hN 4 false (congrArg Bool.not (decide_eq_false hq1)),
      hN 5 false (congrArg Bool.not (decide_eq_false hq1)),
      hN 6 false (congrArg Bool.not (decide_eq_false hq1)),
      hP 7 (congrArg Bool.not (decide_eq_false hq1)),
      hN 9 (b := true) false rfl,
      hN 10 (b := true) false rfl,
      hN 11 (b := true) false rfl,
      hN 12 (b := true) false rfl,
      hN 13 (b := true) false rfl,
      hP 14 (b := true) (w := true) rfl,
      hN 16 (b := true) false rfl,
      hN 17 (b := true) false rfl,
      hN 18 (b := true) false rfl,
      hP 19 (b := true) (w := true) rfl] (by kernel_rfl) (by kernel_rfl) ?_
    refine nT ?_
    refine T.condT (b := true) (by kernel_rfl) rfl ?_
    refine T.seq ?_
    refine xR [] (by kernel_rfl) (by kernel_rfl) ?_
    refine nT ?_
    refine T.ret ?_
    refine rT ?_
    exact tE (.inl rfl) [.t 4 (.one (.d (.val (.bool false)))), .t 5 (.one (.d (.val (.int .i64 40))))] ⟨⟨rfl, by kernel_rfl⟩, ⟨⟨rfl, by kernel_rfl⟩, trivial⟩⟩ [] (by have e1 : ((lessV a b) : Bool) = false := (by (exact if_neg (fun h9 => by obtain ⟨g1, g2, g3⟩ := h9; exact absurd g1 (by assumption)))); have e2 : (lessE a b : Int) = 40 := (by (exact if_neg (fun h9 => by obtain ⟨g1, g2, g3⟩ := h9; exact absurd g1 (by assumption)))); have hE := congr (congrArg (fun (q1 : Bool) (q2 : Int) => (.tup [.one (.d (.val (.bool q1))), .one (.d (.val (.int .i64 q2)))] : AV)) e1) e2; exact hE) rfl rfl rfl rfl rfl trivial
end Go.Proofs.Ytlabmehgcfgigaa.Q
namespace Go.Proofs.Ytlabmehgcfgigaa.Q
open Go Go.RowKit
set_option linter.unusedVariables false
set_option linter.unusedSimpArgs false
set_option maxRecDepth 100000
set_option maxHeartbeats 4000000
-- quaestor/value.ofInt
theorem value_ofInt (n : Int) : Holds Try.prog 55 ⟨[dv (.int .i64 n)], [], .tv (.agg [.d (.val (.int .i64 (intV n).f_Kind)), .d (.val (.int .i64 (intV n).f_Int)), .d (.val (.bool (intV n).f_Bool)), .d (.val (strV (intV n).f_Text)), .d (.val (.float .f64 (intV n).f_Num))]), []⟩ := by
  refine Holds.of Try.func55 rfl (N := 5) Try.ntmps55 rfl fun w0 B0 S0 U0 => ?_
  show T _ (mkBase 5 0 w0 S0 U0 B0) ⟨[dv (.int .i64 n)], []⟩ _ _
  refine T.seq ?_
  refine xR [] (by kernel_rfl) (by kernel_rfl) ?_
  refine nT ?_
  refine T.seq ?_
  refine xR [] (by kernel_rfl) (by kernel_rfl) ?_
  refine nT ?_
  refine T.ret ?_
  exact tE (.inl rfl) [.c 2 0 24 0 24 [.d (.val (.int .i64 1)), .d (.val (.int .i64 n)), .d (.val (.bool false)), .d (.val (strV [])), .d (.val (.float .f64 0))] (.agg [.d (.val (.int .i64 1)), .d (.val (.int .i64 n)), .d (.val (.bool false)), .d (.val (strV [])), .d (.val (.float .f64 0))])] ⟨⟨rfl, rfl, by kernel_rfl, by kernel_rfl, .inl ⟨5, wide_24, rfl, Nat.le_of_ble_eq_true rfl⟩⟩, trivial⟩ [] (by have e1 : ((intV n).f_Kind : Int) = 1 := (by rfl); have e2 : ((intV n).f_Int : Int) = n := (by rfl); have e3 : ((intV n).f_Bool : Bool) = false := (by rfl); have e4 : ((intV n).f_Text : List UInt8) = [] := (by rfl); have e5 : ((intV n).f_Num : Nat) = 0 := (by rfl); have hE := congr (congr (congr (congr (congrArg (fun (q1 : Int) (q2 : Int) (q3 : Bool) (q4 : List UInt8) (q5 : Nat) => (.tv (.agg [.d (.val (.int .i64 q1)), .d (.val (.int .i64 q2)), .d (.val (.bool q3)), .d (.val (strV q4)), .d (.val (.float .f64 q5))]) : AV)) e1) e2) e3) e4) e5; exact hE) rfl rfl rfl rfl rfl trivial
end Go.Proofs.Ytlabmehgcfgigaa.Q
