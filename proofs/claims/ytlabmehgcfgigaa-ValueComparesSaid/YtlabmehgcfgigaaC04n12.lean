import Derived.Test.YtlabmehgcfgigaaC04n10
namespace Go.Proofs.Ytlabmehgcfgigaa.Q
open Go Go.RowKit
set_option linter.unusedVariables false
set_option linter.unusedSimpArgs false
set_option maxRecDepth 100000
set_option maxHeartbeats 4000000
-- quaestor/quaestorlaw04.ValueCompares
theorem law_ValueCompares (a : api_Value) (b : api_Value) : Holds Try.prog 7 ⟨[.tv (.agg [.d (.val (.int .i64 a.f_Kind)), .d (.val (.int .i64 a.f_Int)), .d (.val (.bool a.f_Bool)), .d (.val (strV a.f_Text)), .d (.val (.float .f64 a.f_Num))]), .tv (.agg [.d (.val (.int .i64 b.f_Kind)), .d (.val (.int .i64 b.f_Int)), .d (.val (.bool b.f_Bool)), .d (.val (strV b.f_Text)), .d (.val (.float .f64 b.f_Num))])], [], dv (.bool true), []⟩ := by
  refine Holds.of Try.func7 rfl (N := 63) Try.ntmps7 rfl fun w0 B0 S0 U0 => ?_
  show T _ (mkBase 63 0 w0 S0 U0 B0) ⟨[.tv (.agg [.d (.val (.int .i64 a.f_Kind)), .d (.val (.int .i64 a.f_Int)), .d (.val (.bool a.f_Bool)), .d (.val (strV a.f_Text)), .d (.val (.float .f64 a.f_Num))]), .tv (.agg [.d (.val (.int .i64 b.f_Kind)), .d (.val (.int .i64 b.f_Int)), .d (.val (.bool b.f_Bool)), .d (.val (strV b.f_Text)), .d (.val (.float .f64 b.f_Num))])], []⟩ _ _
  refine T.seq ?_
  refine xR [] (by kernel_rfl) (by kernel_rfl) ?_
  refine nT ?_
  refine T.seq ?_
  refine T.seq ?_
  refine xR [hR 2 rfl rfl (q_buildSlice 2 24 (k_api_Value false) (k_api_Value_ok false) [a, b] [⟨0, .tmp 13, .agg [.d (.val (.int .i64 a.f_Kind)), .d (.val (.int .i64 a.f_Int)), .d (.val (.bool a.f_Bool)), .d (.val (strV a.f_Text)), .d (.val (.float .f64 a.f_Num))], 0⟩, ⟨1, .tmp 14, .agg [.d (.val (.int .i64 b.f_Kind)), .d (.val (.int .i64 b.f_Int)), .d (.val (.bool b.f_Bool)), .d (.val (strV b.f_Text)), .d (.val (.float .f64 b.f_Num))], 5⟩] (cs := [.d (.val (.int .i64 a.f_Kind)), .d (.val (.int .i64 a.f_Int)), .d (.val (.bool a.f_Bool)), .d (.val (strV a.f_Text)), .d (.val (.float .f64 a.f_Num)), .d (.val (.int .i64 b.f_Kind)), .d (.val (.int .i64 b.f_Int)), .d (.val (.bool b.f_Bool)), .d (.val (strV b.f_Text)), .d (.val (.float .f64 b.f_Num))]) Try.underlying59 iat_24 rfl zero_24 rfl rfl rfl (Nat.le_of_ble_eq_true rfl) (part_cons rfl rfl (Nat.le_of_ble_eq_true rfl) (part_cons rfl rfl (Nat.le_of_ble_eq_true rfl) part_ok)) (by kernel_rfl) (wk_eq (by kernel_rfl)) (lt_of rfl) trivial),
    hR 3 rfl rfl (r_call (law_short true false [a, b] (by (simp [maxLen, -List.getD_eq_getElem?_getD] <;> omega))) Try.func12 rfl (by decide) [] [2] (l := [(.tmp 15, ownV 2 (k_api_Value false) 0 [a, b].length)]) [(2, .live (arrK 24 (k_api_Value false) [a, b]))] rfl 0 0 rfl rfl rfl rfl rfl rfl rfl rfl rfl ⟨.inr (.inl ⟨rfl, (fun h => by cases h), rfl, rfl, by simp, 24, [a, b].length, elOf (k_api_Value false) [a, b], List.Mem.head _, by omega, fun i j => by rw [Nat.zero_add]⟩), trivial⟩ rfl (by intro b hb; simp only [List.mem_cons, List.not_mem_nil, or_false] at hb; rcases hb with rfl; exact ⟨_, List.Mem.head _⟩) (.inr ⟨trivial, trivial⟩) (lt_of rfl) trivial)] (by kernel_rfl) (by kernel_rfl) ?_
  refine nT ?_
  by_cases hq1 : shortL [a, b]
  · refine T.condF (by kernel_rfl) (congrArg Bool.not (decide_eq_true hq1)) ?_
    refine T.skip ?_
    refine nT ?_
    refine T.seq ?_
    refine xR [hR 2 rfl rfl (r_call (value_Equal a b ) Try.func26 rfl (by decide) [] [] (l := [(.tmp 19, .tv (.agg [.d (.val (.int .i64 a.f_Kind)), .d (.val (.int .i64 a.f_Int)), .d (.val (.bool a.f_Bool)), .d (.val (strV a.f_Text)), .d (.val (.float .f64 a.f_Num))])), (.tmp 20, .tv (.agg [.d (.val (.int .i64 b.f_Kind)), .d (.val (.int .i64 b.f_Int)), .d (.val (.bool b.f_Bool)), .d (.val (strV b.f_Text)), .d (.val (.float .f64 b.f_Num))]))]) [] rfl 0 0 rfl rfl rfl rfl rfl rfl rfl rfl rfl ⟨⟨.inl ⟨rfl, rfl⟩, ⟨.inl ⟨rfl, rfl⟩, ⟨.inl ⟨rfl, rfl⟩, ⟨.inl ⟨rfl, rfl⟩, ⟨.inl ⟨rfl, rfl⟩, trivial⟩⟩⟩⟩⟩, ⟨⟨.inl ⟨rfl, rfl⟩, ⟨.inl ⟨rfl, rfl⟩, ⟨.inl ⟨rfl, rfl⟩, ⟨.inl ⟨rfl, rfl⟩, ⟨.inl ⟨rfl, rfl⟩, trivial⟩⟩⟩⟩⟩, trivial⟩⟩ rfl (fun b hb => by cases hb) (.inl rfl) (lt_of rfl) trivial)] (by kernel_rfl) (by kernel_rfl) ?_
    refine nT ?_
    refine T.seq ?_
    refine xR [hR 2 rfl rfl (r_call (ref04_Equal a b ) Try.func27 rfl (by decide) [] [] (l := [(.tmp 25, .tv (.agg [.d (.val (.int .i64 a.f_Kind)), .d (.val (.int .i64 a.f_Int)), .d (.val (.bool a.f_Bool)), .d (.val (strV a.f_Text)), .d (.val (.float .f64 a.f_Num))])), (.tmp 26, .tv (.agg [.d (.val (.int .i64 b.f_Kind)), .d (.val (.int .i64 b.f_Int)), .d (.val (.bool b.f_Bool)), .d (.val (strV b.f_Text)), .d (.val (.float .f64 b.f_Num))]))]) [] rfl 0 0 rfl rfl rfl rfl rfl rfl rfl rfl rfl ⟨⟨.inl ⟨rfl, rfl⟩, ⟨.inl ⟨rfl, rfl⟩, ⟨.inl ⟨rfl, rfl⟩, ⟨.inl ⟨rfl, rfl⟩, ⟨.inl ⟨rfl, rfl⟩, trivial⟩⟩⟩⟩⟩, ⟨⟨.inl ⟨rfl, rfl⟩, ⟨.inl ⟨rfl, rfl⟩, ⟨.inl ⟨rfl, rfl⟩, ⟨.inl ⟨rfl, rfl⟩, ⟨.inl ⟨rfl, rfl⟩, trivial⟩⟩⟩⟩⟩, trivial⟩⟩ rfl (fun b hb => by cases hb) (.inl rfl) (lt_of rfl) trivial)] (by kernel_rfl) (by kernel_rfl) ?_
    refine nT ?_
    refine T.seq ?_
    refine xR [hR 2 rfl rfl (r_call (value_Less a b ) Try.func28 rfl (by decide) [] [] (l := [(.tmp 31, .tv (.agg [.d (.val (.int .i64 a.f_Kind)), .d (.val (.int .i64 a.f_Int)), .d (.val (.bool a.f_Bool)), .d (.val (strV a.f_Text)), .d (.val (.float .f64 a.f_Num))])), (.tmp 32, .tv (.agg [.d (.val (.int .i64 b.f_Kind)), .d (.val (.int .i64 b.f_Int)), .d (.val (.bool b.f_Bool)), .d (.val (strV b.f_Text)), .d (.val (.float .f64 b.f_Num))]))]) [] rfl 0 0 rfl rfl rfl rfl rfl rfl rfl rfl rfl ⟨⟨.inl ⟨rfl, rfl⟩, ⟨.inl ⟨rfl, rfl⟩, ⟨.inl ⟨rfl, rfl⟩, ⟨.inl ⟨rfl, rfl⟩, ⟨.inl ⟨rfl, rfl⟩, trivial⟩⟩⟩⟩⟩, ⟨⟨.inl ⟨rfl, rfl⟩, ⟨.inl ⟨rfl, rfl⟩, ⟨.inl ⟨rfl, rfl⟩, ⟨.inl ⟨rfl, rfl⟩, ⟨.inl ⟨rfl, rfl⟩, trivial⟩⟩⟩⟩⟩, trivial⟩⟩ rfl (fun b hb => by cases hb) (.inl rfl) (lt_of rfl) trivial)] (by kernel_rfl) (by kernel_rfl) ?_
    refine nT ?_
    refine T.seq ?_
    refine xR [hR 2 rfl rfl (r_call (ref04_Less a b ) Try.func29 rfl (by decide) [] [] (l := [(.tmp 37, .tv (.agg [.d (.val (.int .i64 a.f_Kind)), .d (.val (.int .i64 a.f_Int)), .d (.val (.bool a.f_Bool)), .d (.val (strV a.f_Text)), .d (.val (.float .f64 a.f_Num))])), (.tmp 38, .tv (.agg [.d (.val (.int .i64 b.f_Kind)), .d (.val (.int .i64 b.f_Int)), .d (.val (.bool b.f_Bool)), .d (.val (strV b.f_Text)), .d (.val (.float .f64 b.f_Num))]))]) [] rfl 0 0 rfl rfl rfl rfl rfl rfl rfl rfl rfl ⟨⟨.inl ⟨rfl, rfl⟩, ⟨.inl ⟨rfl, rfl⟩, ⟨.inl ⟨rfl, rfl⟩, ⟨.inl ⟨rfl, rfl⟩, ⟨.inl ⟨rfl, rfl⟩, trivial⟩⟩⟩⟩⟩, ⟨⟨.inl ⟨rfl, rfl⟩, ⟨.inl ⟨rfl, rfl⟩, ⟨.inl ⟨rfl, rfl⟩, ⟨.inl ⟨rfl, rfl⟩, ⟨.inl ⟨rfl, rfl⟩, trivial⟩⟩⟩⟩⟩, trivial⟩⟩ rfl (fun b hb => by cases hb) (.inl rfl) (lt_of rfl) trivial)] (by kernel_rfl) (by kernel_rfl) ?_
    refine nT ?_
    refine T.seq ?_
    refine xR [hY 4 (show decide ((eqV a b) = (eqV a b)) = true from decide_eq_true (Eq.refl _)),
      hY 5 (show decide ((eqV a b) = (eqV a b)) = true from decide_eq_true (Eq.refl _)),
      hY 6 (show decide ((eqV a b) = (eqV a b)) = true from decide_eq_true (Eq.refl _)),
      hP 7 (show decide ((eqV a b) = (eqV a b)) = true from decide_eq_true (Eq.refl _)),
      hY 9 (show decide ((eqE a b) = (eqE a b)) = true from decide_eq_true (Eq.refl _)),
      hY 10 (show decide ((eqE a b) = (eqE a b)) = true from decide_eq_true (Eq.refl _)),
      hY 11 (show decide ((eqE a b) = (eqE a b)) = true from decide_eq_true (Eq.refl _)),
      hP 12 (show decide ((eqE a b) = (eqE a b)) = true from decide_eq_true (Eq.refl _)),
      hY 14 (show decide ((lessV a b) = (lessV a b)) = true from decide_eq_true (Eq.refl _)),
      hY 15 (show decide ((lessV a b) = (lessV a b)) = true from decide_eq_true (Eq.refl _)),
      hY 16 (show decide ((lessV a b) = (lessV a b)) = true from decide_eq_true (Eq.refl _)),
      hP 17 (show decide ((lessV a b) = (lessV a b)) = true from decide_eq_true (Eq.refl _)),
      hS 19 (oY rfl rfl rfl rfl (lt_of rfl) (show decide ((lessE a b) = (lessE a b)) = true from decide_eq_true (Eq.refl _)) (r_call (law_awake  ) Try.func17 rfl (by decide) [] [] (l := []) [] rfl 0 0 rfl rfl rfl rfl rfl rfl rfl rfl rfl trivial rfl (fun b hb => by cases hb) (.inl rfl) (lt_of rfl) trivial)),
      hP 20 (show decide ((lessE a b) = (lessE a b)) = true from decide_eq_true (Eq.refl _))] (by kernel_rfl) (by kernel_rfl) ?_
    refine nT ?_
    refine T.ret ?_
    exact tE (.inl rfl) [.t 4 (.one (.d (.val (.bool true))))] ⟨⟨rfl, by kernel_rfl⟩, trivial⟩ [] rfl rfl rfl rfl rfl rfl trivial
  · refine T.condT (by kernel_rfl) (congrArg Bool.not (decide_eq_false hq1)) ?_
    refine T.seq ?_
    refine xR [] (by kernel_rfl) (by kernel_rfl) ?_
    refine nT ?_
    refine T.ret ?_
    refine rT ?_
    exact tE (.inl rfl) [.t 4 (.one (.d (.val (.bool true))))] ⟨⟨rfl, by kernel_rfl⟩, trivial⟩ [] rfl rfl rfl rfl rfl rfl trivial
end Go.Proofs.Ytlabmehgcfgigaa.Q
