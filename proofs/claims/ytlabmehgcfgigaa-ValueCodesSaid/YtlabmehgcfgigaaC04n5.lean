import Derived.Test.YtlabmehgcfgigaaC04n4
namespace Go.Proofs.Ytlabmehgcfgigaa.Q
open Go Go.RowKit
set_option linter.unusedVariables false
set_option linter.unusedSimpArgs false
set_option maxRecDepth 100000
set_option maxHeartbeats 4000000
-- internal/bytealg.CompareString
theorem bytealg_CompareString (a : List UInt8) (b : List UInt8) : Holds Try.prog 82 ⟨[dv (strV a), dv (strV b)], [], dv (.int .i64 (cmpS a b)), []⟩ := by
  refine Holds.of Try.func82 rfl (N := 8) Try.ntmps82 rfl fun w0 B0 S0 U0 => ?_
  show T _ (mkBase 8 0 w0 S0 U0 B0) ⟨[dv (strV a), dv (strV b)], []⟩ _ _
  refine T.seq ?_
  refine xR [] (by kernel_rfl) (by kernel_rfl) ?_
  refine nT ?_
  refine T.seq ?_
  refine xR [hR 2 rfl rfl (r_ext2 (u1 := strV a) (u2 := strV b) (v := .int .i64 (cmpS a b)) (e := Extern.BytealgCompare.compare) Try.func102 (by kernel_rfl) (by kernel_rfl) (by kernel_rfl) (by kernel_rfl) (run_cmpS _ _) (lt_of rfl) trivial)] (by kernel_rfl) (by kernel_rfl) ?_
  refine nT ?_
  refine T.ret ?_
  exact tE (.inl rfl) [.t 4 (.one (.d (.val (.int .i64 (cmpS a b)))))] ⟨⟨rfl, by kernel_rfl⟩, trivial⟩ [] rfl rfl rfl rfl rfl rfl trivial
end Go.Proofs.Ytlabmehgcfgigaa.Q
namespace Go.Proofs.Ytlabmehgcfgigaa.Q
open Go Go.RowKit
set_option linter.unusedVariables false
set_option linter.unusedSimpArgs false
set_option maxRecDepth 100000
set_option maxHeartbeats 4000000
-- strings.Compare
theorem strings_Compare (a : List UInt8) (b : List UInt8) : Holds Try.prog 44 ⟨[dv (strV a), dv (strV b)], [], dv (.int .i64 (cmpS a b)), []⟩ := by
  refine Holds.of Try.func44 rfl (N := 8) Try.ntmps44 rfl fun w0 B0 S0 U0 => ?_
  show T _ (mkBase 8 0 w0 S0 U0 B0) ⟨[dv (strV a), dv (strV b)], []⟩ _ _
  refine T.seq ?_
  refine xR [] (by kernel_rfl) (by kernel_rfl) ?_
  refine nT ?_
  refine T.seq ?_
  refine xR [hR 2 rfl rfl (r_call (bytealg_CompareString a b ) Try.func82 rfl (by decide) [] [] (l := [(.tmp 5, dv (strV a)), (.tmp 6, dv (strV b))]) [] rfl 0 0 rfl rfl rfl rfl rfl rfl rfl rfl rfl ⟨.inl ⟨rfl, rfl⟩, ⟨.inl ⟨rfl, rfl⟩, trivial⟩⟩ rfl (fun b hb => by cases hb) (.inl rfl) (lt_of rfl) trivial)] (by kernel_rfl) (by kernel_rfl) ?_
  refine nT ?_
  refine T.ret ?_
  exact tE (.inl rfl) [.t 4 (.one (.d (.val (.int .i64 (cmpS a b)))))] ⟨⟨rfl, by kernel_rfl⟩, trivial⟩ [] rfl rfl rfl rfl rfl rfl trivial
end Go.Proofs.Ytlabmehgcfgigaa.Q
namespace Go.Proofs.Ytlabmehgcfgigaa.Q
open Go Go.RowKit
set_option linter.unusedVariables false
set_option linter.unusedSimpArgs false
set_option maxRecDepth 100000
set_option maxHeartbeats 4000000
-- quaestor/value.sorts
theorem value_sorts (x : Nat) (hx : x < 18446744073709551616) : Holds Try.prog 45 ⟨[dv (.float .f64 x)], [], dv (.int .i64 (sortF x)), []⟩ := by
  refine Holds.of Try.func45 rfl (N := 15) Try.ntmps45 rfl fun w0 B0 S0 U0 => ?_
  show T _ (mkBase 15 0 w0 S0 U0 B0) ⟨[dv (.float .f64 x)], []⟩ _ _
  have ht : -9223372036854775808 ≤ toI64 x ∧ toI64 x ≤ 9223372036854775807 := by unfold toI64; split <;> omega
  refine T.seq ?_
  refine xR [] (by kernel_rfl) (by kernel_rfl) ?_
  refine nT ?_
  refine T.seq ?_
  refine T.seq ?_
  refine xR [hR 1 rfl rfl (r_call (math_IsNaN x ) Try.func83 rfl (by decide) [] [] (l := [(.tmp 4, dv (.float .f64 x))]) [] rfl 0 0 rfl rfl rfl rfl rfl rfl rfl rfl rfl ⟨.inl ⟨rfl, rfl⟩, trivial⟩ rfl (fun b hb => by cases hb) (.inl rfl) (lt_of rfl) trivial)] (by kernel_rfl) (by kernel_rfl) ?_
  refine nT ?_
  by_cases hq1 : (nanB x) = true
  · refine T.condT (by kernel_rfl) hq1 ?_
    refine T.seq ?_
    refine xR [] (by kernel_rfl) (by kernel_rfl) ?_
    refine nT ?_
    refine T.ret ?_
    refine rT ?_
    exact tE (.inl rfl) [.t 2 (.one (.d (.val (.int .i64 (-9223372036854775808)))))] ⟨⟨rfl, by kernel_rfl⟩, trivial⟩ [] (by have e1 : (sortF x : Int) = (-9223372036854775808) := (by ((simp [sortF, *]; done))); have hE := congrArg (fun (q1 : Int) => (dv (.int .i64 q1) : AV)) e1; exact hE) rfl rfl rfl rfl rfl trivial
  · replace hq1 := Bool.eq_false_iff.2 hq1
    refine T.condF (by kernel_rfl) hq1 ?_
    refine T.skip ?_
    refine nT ?_
    refine T.seq ?_
    refine xR [hR 1 rfl rfl (r_ext1 (u := .float .f64 x) (v := .int .u64 ((x : Nat) : Int)) (e := Extern.MathFloatBits.float64bits) Try.func84 (by kernel_rfl) (by kernel_rfl) (by kernel_rfl) (by kernel_rfl) (fun w => rfl) (lt_of rfl) trivial),
      hR 2 rfl rfl (r_conv (u := .int .u64 ((x : Nat) : Int)) (v := .int .i64 (toI64 x)) (c_i64 (by assumption) Try.underlying64 Try.underlying2) (lt_of rfl) trivial)] (by kernel_rfl) (by kernel_rfl) ?_
    refine nT ?_
    refine T.seq ?_
    refine T.seq ?_
    refine xR [] (by kernel_rfl) (by kernel_rfl) ?_
    refine nT ?_
    by_cases hq2 : (toI64 x) < 0
    · refine T.condT (by kernel_rfl) (decide_eq_true hq2) ?_
      refine xR [hR 1 rfl rfl (r_bin (u1 := .int .i64 (-9223372036854775808)) (u2 := .int .i64 (toI64 x)) (v := .int .i64 ((-9223372036854775808) - (toI64 x))) (b_sub (by rw [IntKind.wrap_i64]; omega)) (lt_of rfl) ⟨rfl, trivial⟩),
        hR 2 rfl rfl (r_bin (u1 := .int .i64 ((-9223372036854775808) - (toI64 x))) (u2 := .int .i64 1) (v := .int .i64 (((-9223372036854775808) - (toI64 x)) - 1)) (b_sub (by rw [IntKind.wrap_i64]; omega)) (lt_of rfl) ⟨rfl, trivial⟩)] (by kernel_rfl) (by kernel_rfl) ?_
      refine nT ?_
      refine T.seq ?_
      refine xR [] (by kernel_rfl) (by kernel_rfl) ?_
      refine nT ?_
      refine T.ret ?_
      exact tE (.inl rfl) [.t 2 (.one (.d (.val (.int .i64 (((-9223372036854775808) - (toI64 x)) - 1)))))] ⟨⟨rfl, by kernel_rfl⟩, trivial⟩ [] (by have e1 : (sortF x : Int) = ((-9223372036854775808) - (toI64 x)) - 1 := (by ((simp [sortF, *]; done))); have hE := congrArg (fun (q1 : Int) => (dv (.int .i64 q1) : AV)) e1; exact hE) rfl rfl rfl rfl rfl trivial
    · refine T.condF (by kernel_rfl) (decide_eq_false hq2) ?_
      refine T.skip ?_
      refine nT ?_
      refine T.seq ?_
      refine xR [] (by kernel_rfl) (by kernel_rfl) ?_
      refine nT ?_
      refine T.ret ?_
      exact tE (.inl rfl) [.t 2 (.one (.d (.val (.int .i64 (toI64 x)))))] ⟨⟨rfl, by kernel_rfl⟩, trivial⟩ [] (by have e1 : (sortF x : Int) = toI64 x := (by ((simp [sortF, *]; done))); have hE := congrArg (fun (q1 : Int) => (dv (.int .i64 q1) : AV)) e1; exact hE) rfl rfl rfl rfl rfl trivial
end Go.Proofs.Ytlabmehgcfgigaa.Q
namespace Go.Proofs.Ytlabmehgcfgigaa.Q
open Go Go.RowKit
set_option linter.unusedVariables false
set_option linter.unusedSimpArgs false
set_option maxRecDepth 100000
set_option maxHeartbeats 4000000
-- quaestor/value.Order
theorem value_Order (a : api_Value) (b : api_Value) (ha : a.f_Num < 18446744073709551616) (hb : b.f_Num < 18446744073709551616) : Holds Try.prog 13 ⟨[.tv (.agg [.d (.val (.int .i64 a.f_Kind)), .d (.val (.int .i64 a.f_Int)), .d (.val (.bool a.f_Bool)), .d (.val (strV a.f_Text)), .d (.val (.float .f64 a.f_Num))]), .tv (.agg [.d (.val (.int .i64 b.f_Kind)), .d (.val (.int .i64 b.f_Int)), .d (.val (.bool b.f_Bool)), .d (.val (strV b.f_Text)), .d (.val (.float .f64 b.f_Num))])], [], dv (.int .i64 (orderV a b)), []⟩ := by
  refine Holds.of Try.func13 rfl (N := 48) Try.ntmps13 rfl fun w0 B0 S0 U0 => ?_
  show T _ (mkBase 48 0 w0 S0 U0 B0) ⟨[.tv (.agg [.d (.val (.int .i64 a.f_Kind)), .d (.val (.int .i64 a.f_Int)), .d (.val (.bool a.f_Bool)), .d (.val (strV a.f_Text)), .d (.val (.float .f64 a.f_Num))]), .tv (.agg [.d (.val (.int .i64 b.f_Kind)), .d (.val (.int .i64 b.f_Int)), .d (.val (.bool b.f_Bool)), .d (.val (strV b.f_Text)), .d (.val (.float .f64 b.f_Num))])], []⟩ _ _
  refine T.seq ?_
  refine xR [] (by kernel_rfl) (by kernel_rfl) ?_
  refine nT ?_
  refine T.seq ?_
  refine T.seq ?_
  refine xR [hR 4 rfl rfl (r_call (cmp_Compare_int a.f_Kind b.f_Kind ) Try.func42 rfl (by decide) [] [] (l := [(.tmp 7, dv (.int .i64 a.f_Kind)), (.tmp 9, dv (.int .i64 b.f_Kind))]) [] rfl 0 0 rfl rfl rfl rfl rfl rfl rfl rfl rfl ⟨.inl ⟨rfl, rfl⟩, ⟨.inl ⟨rfl, rfl⟩, trivial⟩⟩ rfl (fun b hb => by cases hb) (.inl rfl) (lt_of rfl) trivial)] (by kernel_rfl) (by kernel_rfl) ?_
  refine nT ?_
  refine T.seq ?_
  refine xR [] (by kernel_rfl) (by kernel_rfl) ?_
  refine nT ?_
  by_cases hq1 : (cmpI a.f_Kind b.f_Kind) ≠ 0
  · have hkk := cmpI_ne.1 hq1
    refine T.condT (by kernel_rfl) (decide_eq_true hq1) ?_
    refine T.seq ?_
    refine xR [] (by kernel_rfl) (by kernel_rfl) ?_
    refine nT ?_
    refine T.ret ?_
    refine rT ?_
    exact tE (.inl rfl) [.t 4 (.one (.d (.val (.int .i64 (cmpI a.f_Kind b.f_Kind)))))] ⟨⟨rfl, by kernel_rfl⟩, trivial⟩ [] (by have e1 : (orderV a b : Int) = cmpI a.f_Kind b.f_Kind := (by ((rw [orderV, if_pos (by assumption)]))); have hE := congrArg (fun (q1 : Int) => (dv (.int .i64 q1) : AV)) e1; exact hE) rfl rfl rfl rfl rfl trivial
  · have hkk : a.f_Kind = b.f_Kind := Classical.not_not.1 (fun h9 => hq1 (cmpI_ne.2 h9))
    refine T.condF (by kernel_rfl) (decide_eq_false hq1) ?_
    refine T.skip ?_
    refine nT ?_
    refine T.seq ?_
    refine T.seq ?_
    refine xR [] (by kernel_rfl) (by kernel_rfl) ?_
    refine nT ?_
    refine T.block ?_
    refine T.seq ?_
    refine xR [] (by kernel_rfl) (by kernel_rfl) ?_
    refine nT ?_
    by_cases hq2 : a.f_Kind = 1
    · refine T.condT (by kernel_rfl) (decide_eq_true hq2) ?_
      refine T.seq ?_
      refine xR [hR 4 rfl rfl (r_call (cmp_Compare_int64 a.f_Int b.f_Int ) Try.func43 rfl (by decide) [] [] (l := [(.tmp 19, dv (.int .i64 a.f_Int)), (.tmp 21, dv (.int .i64 b.f_Int))]) [] rfl 0 0 rfl rfl rfl rfl rfl rfl rfl rfl rfl ⟨.inl ⟨rfl, rfl⟩, ⟨.inl ⟨rfl, rfl⟩, trivial⟩⟩ rfl (fun b hb => by cases hb) (.inl rfl) (lt_of rfl) trivial)] (by kernel_rfl) (by kernel_rfl) ?_
      refine nT ?_
      refine T.ret ?_
      refine rB ?_
      refine rT ?_
      exact tE (.inl rfl) [.t 4 (.one (.d (.val (.int .i64 (cmpI a.f_Int b.f_Int)))))] ⟨⟨rfl, by kernel_rfl⟩, trivial⟩ [] (by have e1 : (orderV a b : Int) = cmpI a.f_Int b.f_Int := (by ((rw [orderV, if_neg (by omega), if_pos (by assumption)]; done))); have hE := congrArg (fun (q1 : Int) => (dv (.int .i64 q1) : AV)) e1; exact hE) rfl rfl rfl rfl rfl trivial
    · refine T.condF (by kernel_rfl) (decide_eq_false hq2) ?_
      refine T.seq ?_
      refine xR [] (by kernel_rfl) (by kernel_rfl) ?_
      refine nT ?_
      by_cases hq3 : a.f_Kind = 3
      · refine T.condT (by kernel_rfl) (decide_eq_true hq3) ?_
        refine T.seq ?_
        refine xR [hR 4 rfl rfl (r_call (strings_Compare a.f_Text b.f_Text ) Try.func44 rfl (by decide) [] [] (l := [(.tmp 26, dv (strV a.f_Text)), (.tmp 28, dv (strV b.f_Text))]) [] rfl 0 0 rfl rfl rfl rfl rfl rfl rfl rfl rfl ⟨.inl ⟨rfl, rfl⟩, ⟨.inl ⟨rfl, rfl⟩, trivial⟩⟩ rfl (fun b hb => by cases hb) (.inl rfl) (lt_of rfl) trivial)] (by kernel_rfl) (by kernel_rfl) ?_
        refine nT ?_
        refine T.ret ?_
        refine rB ?_
        refine rT ?_
        exact tE (.inl rfl) [.t 4 (.one (.d (.val (.int .i64 (cmpS a.f_Text b.f_Text)))))] ⟨⟨rfl, by kernel_rfl⟩, trivial⟩ [] (by have e1 : (orderV a b : Int) = cmpS a.f_Text b.f_Text := (by ((rw [orderV, if_neg (by omega), if_neg (by assumption), if_pos (by assumption)]; done))); have hE := congrArg (fun (q1 : Int) => (dv (.int .i64 q1) : AV)) e1; exact hE) rfl rfl rfl rfl rfl trivial
      · refine T.condF (by kernel_rfl) (decide_eq_false hq3) ?_
        refine T.seq ?_
        refine xR [] (by kernel_rfl) (by kernel_rfl) ?_
        refine nT ?_
        by_cases hq4 : a.f_Kind = 4
        · refine T.condT (by kernel_rfl) (decide_eq_true hq4) ?_
          refine T.seq ?_
          refine xD [[], [0], [0, 1], [], [3], [0, 1, 2, 3, 4], [0, 1, 2, 3, 4, 5], [0, 1, 2, 3, 4, 5, 6]] [hR 2 rfl rfl (r_call (value_sorts a.f_Num (by assumption)) Try.func45 rfl (by decide) [] [] (l := [(.tmp 33, dv (.float .f64 a.f_Num))]) [] rfl 0 0 rfl rfl rfl rfl rfl rfl rfl rfl rfl ⟨.inl ⟨rfl, rfl⟩, trivial⟩ rfl (fun b hb => by cases hb) (.inl rfl) (lt_of rfl) trivial),
            hR 5 rfl rfl (r_call (value_sorts b.f_Num (by assumption)) Try.func45 rfl (by decide) [] [] (l := [(.tmp 36, dv (.float .f64 b.f_Num))]) [] rfl 0 0 rfl rfl rfl rfl rfl rfl rfl rfl rfl ⟨.inl ⟨rfl, rfl⟩, trivial⟩ rfl (fun b hb => by cases hb) (.inl rfl) (lt_of rfl) trivial),
            hR 6 rfl rfl (r_call (cmp_Compare_int64 (sortF a.f_Num) (sortF b.f_Num) ) Try.func43 rfl (by decide) [] [] (l := [(.tmp 34, dv (.int .i64 (sortF a.f_Num))), (.tmp 37, dv (.int .i64 (sortF b.f_Num)))]) [] rfl 0 0 rfl rfl rfl rfl rfl rfl rfl rfl rfl ⟨.inl ⟨rfl, rfl⟩, ⟨.inl ⟨rfl, rfl⟩, trivial⟩⟩ rfl (fun b hb => by cases hb) (.inl rfl) (lt_of rfl) trivial)] (by kernel_rfl) (by kernel_rfl) (by kernel_rfl) (by kernel_rfl) (by kernel_rfl) (by kernel_rfl) ?_
          refine nT ?_
          refine T.ret ?_
          refine rB ?_
          refine rT ?_
          exact tE (.inl rfl) [.t 4 (.one (.d (.val (.int .i64 (cmpI (sortF a.f_Num) (sortF b.f_Num))))))] ⟨⟨rfl, by kernel_rfl⟩, trivial⟩ [] (by have e1 : (orderV a b : Int) = cmpI (sortF a.f_Num) (sortF b.f_Num) := (by ((rw [orderV, if_neg (by omega), if_neg (by assumption), if_neg (by assumption), if_pos (by assumption)]; done))); have hE := congrArg (fun (q1 : Int) => (dv (.int .i64 q1) : AV)) e1; exact hE) rfl rfl rfl rfl rfl trivial
        · refine T.condF (by kernel_rfl) (decide_eq_false hq4) ?_
          refine T.seq ?_
          refine xR [] (by kernel_rfl) (by kernel_rfl) ?_
          refine nT ?_
          by_cases hq5 : a.f_Kind = 2
          · refine T.condT (by kernel_rfl) (decide_eq_true hq5) ?_
            refine T.seq ?_
            refine xR [] (by kernel_rfl) (by kernel_rfl) ?_
            refine nT ?_
            by_cases hq6 : a.f_Bool ≠ b.f_Bool
            · refine T.condT (by kernel_rfl) (decide_eq_true hq6) ?_
              refine T.seq ?_
              refine T.seq ?_
              refine xR [] (by kernel_rfl) (by kernel_rfl) ?_
              refine nT ?_
              by_cases hq7 : a.f_Bool = true
              · refine T.condT (by kernel_rfl) hq7 ?_
                refine T.seq ?_
                refine xR [] (by kernel_rfl) (by kernel_rfl) ?_
                refine nT ?_
                refine T.ret ?_
                refine rT ?_
                refine rB ?_
                refine rT ?_
                exact tE (.inl rfl) [.t 4 (.one (.d (.val (.int .i64 1))))] ⟨⟨rfl, by kernel_rfl⟩, trivial⟩ [] (by have e1 : (orderV a b : Int) = 1 := (by ((rw [order_bool (by omega) (by assumption), if_neg (by assumption), if_pos (by assumption)]))); have hE := congrArg (fun (q1 : Int) => (dv (.int .i64 q1) : AV)) e1; exact hE) rfl rfl rfl rfl rfl trivial
              · replace hq7 := Bool.eq_false_iff.2 hq7
                refine T.condF (by kernel_rfl) hq7 ?_
                refine T.skip ?_
                refine nT ?_
                refine T.seq ?_
                refine xR [] (by kernel_rfl) (by kernel_rfl) ?_
                refine nT ?_
                refine T.ret ?_
                refine rB ?_
                refine rT ?_
                exact tE (.inl rfl) [.t 4 (.one (.d (.val (.int .i64 (-1)))))] ⟨⟨rfl, by kernel_rfl⟩, trivial⟩ [] (by have e1 : (orderV a b : Int) = (-1) := (by ((rw [order_bool (by omega) (by assumption), if_neg (by assumption), if_neg (by simp [*])]))); have hE := congrArg (fun (q1 : Int) => (dv (.int .i64 q1) : AV)) e1; exact hE) rfl rfl rfl rfl rfl trivial
            · refine T.condF (by kernel_rfl) (decide_eq_false hq6) ?_
              refine T.skip ?_
              refine nB ?_
              refine nT ?_
              refine T.seq ?_
              refine xR [] (by kernel_rfl) (by kernel_rfl) ?_
              refine nT ?_
              refine T.ret ?_
              exact tE (.inl rfl) [.t 4 (.one (.d (.val (.int .i64 0))))] ⟨⟨rfl, by kernel_rfl⟩, trivial⟩ [] (by have e1 : (orderV a b : Int) = 0 := (by ((rw [order_bool (by omega) (by assumption), if_pos (Classical.not_not.1 (by assumption))]))); have hE := congrArg (fun (q1 : Int) => (dv (.int .i64 q1) : AV)) e1; exact hE) rfl rfl rfl rfl rfl trivial
          · refine T.condF (by kernel_rfl) (decide_eq_false hq5) ?_
            refine T.skip ?_
            refine nB ?_
            refine nT ?_
            refine T.seq ?_
            refine xR [] (by kernel_rfl) (by kernel_rfl) ?_
            refine nT ?_
            refine T.ret ?_
            exact tE (.inl rfl) [.t 4 (.one (.d (.val (.int .i64 0))))] ⟨⟨rfl, by kernel_rfl⟩, trivial⟩ [] (by have e1 : (orderV a b : Int) = 0 := (by (exact order_none (by omega) (by assumption) (by assumption) (by assumption) (by assumption))); have hE := congrArg (fun (q1 : Int) => (dv (.int .i64 q1) : AV)) e1; exact hE) rfl rfl rfl rfl rfl trivial
end Go.Proofs.Ytlabmehgcfgigaa.Q
namespace Go.Proofs.Ytlabmehgcfgigaa.Q
open Go Go.RowKit
set_option linter.unusedVariables false
set_option linter.unusedSimpArgs false
set_option maxRecDepth 100000
set_option maxHeartbeats 4000000
-- quaestor/quaestorref04.rank
theorem ref04_rank (x : Nat) (hx : x < 18446744073709551616) : Holds Try.prog 46 ⟨[dv (.float .f64 x)], [], dv (.int .u64 ((rankF x : Nat) : Int)), []⟩ := by
  refine Holds.of Try.func46 rfl (N := 16) Try.ntmps46 rfl fun w0 B0 S0 U0 => ?_
  show T _ (mkBase 16 0 w0 S0 U0 B0) ⟨[dv (.float .f64 x)], []⟩ _ _
  have hbx := bitsF_lt hx
  refine T.seq ?_
  refine xR [] (by kernel_rfl) (by kernel_rfl) ?_
  refine nT ?_
  refine T.seq ?_
  refine T.seq ?_
  refine xR [hR 2 rfl rfl (r_bin (u1 := .float .f64 x) (u2 := .float .f64 x) (v := .bool (nanB x)) b_nan (lt_of rfl) trivial)] (by kernel_rfl) (by kernel_rfl) ?_
  refine nT ?_
  by_cases hq1 : (nanB x) = true
  · refine T.condT (by kernel_rfl) hq1 ?_
    refine T.seq ?_
    refine xR [] (by kernel_rfl) (by kernel_rfl) ?_
    refine nT ?_
    refine T.ret ?_
    refine rT ?_
    exact tE (.inl rfl) [.t 2 (.one (.d (.val (.int .u64 0))))] ⟨⟨rfl, by kernel_rfl⟩, trivial⟩ [] (by have e1 : (((rankF x : Nat) : Int) : Int) = 0 := (by ((rw [rankF, if_pos (by assumption)]; rfl))); have hE := congrArg (fun (q1 : Int) => (dv (.int .u64 q1) : AV)) e1; exact hE) rfl rfl rfl rfl rfl trivial
  · have hbe : bitsF x = x := if_neg hq1
    replace hq1 := Bool.eq_false_iff.2 hq1
    refine T.condF (by kernel_rfl) hq1 ?_
    refine T.skip ?_
    refine nT ?_
    refine T.seq ?_
    refine xR [hR 1 rfl rfl (r_call (ref01_Bits x ) Try.func48 rfl (by decide) [] [] (l := [(.tmp 7, dv (.float .f64 x))]) [] rfl 0 0 rfl rfl rfl rfl rfl rfl rfl rfl rfl ⟨.inl ⟨rfl, rfl⟩, trivial⟩ rfl (fun b hb => by cases hb) (.inl rfl) (lt_of rfl) trivial)] (by kernel_rfl) (by kernel_rfl) ?_
    refine nT ?_
    refine T.seq ?_
    refine T.seq ?_
    refine xR [hR 1 rfl rfl (r_bin (u1 := .int .u64 ((bitsF x : Nat) : Int)) (u2 := .int .u64 63) (v := .int .u64 (((bitsF x) / 2 ^ 63 : Nat) : Int)) (b_shrN (n := 63) rfl (Nat.le_trans (by omega) (by decide : 64 ≤ _))) (lt_of rfl) ⟨rfl, trivial⟩)] (by kernel_rfl) (by kernel_rfl) ?_
    refine nT ?_
    by_cases hq2 : (((bitsF x) / 2 ^ 63 : Nat) : Int) = 1
    · refine T.condT (by kernel_rfl) (decide_eq_true hq2) ?_
      refine T.seq ?_
      refine xR [hR 1 rfl rfl (r_un (u := .int .u64 ((bitsF x : Nat) : Int)) (v := .int .u64 ((18446744073709551615 - (bitsF x) : Nat) : Int)) (u_xorU (by assumption)) (lt_of rfl) trivial)] (by kernel_rfl) (by kernel_rfl) ?_
      refine nT ?_
      refine T.ret ?_
      refine rT ?_
      exact tE (.inl rfl) [.t 2 (.one (.d (.val (.int .u64 ((18446744073709551615 - (bitsF x) : Nat) : Int)))))] ⟨⟨rfl, by kernel_rfl⟩, trivial⟩ [] (by have e1 : (((rankF x : Nat) : Int) : Int) = ((18446744073709551615 - (bitsF x) : Nat) : Int) := (by ((rw [rankF, if_neg (by simp [*]), if_pos (by rw [← hbe]; omega), hbe]))); have hE := congrArg (fun (q1 : Int) => (dv (.int .u64 q1) : AV)) e1; exact hE) rfl rfl rfl rfl rfl trivial
    · refine T.condF (by kernel_rfl) (decide_eq_false hq2) ?_
      refine T.skip ?_
      refine nT ?_
      refine T.seq ?_
      refine xR [hR 1 rfl rfl (r_bin (u1 := .int .u64 ((bitsF x : Nat) : Int)) (u2 := .int .u64 9223372036854775808) (v := .int .u64 (((bitsF x) ||| 9223372036854775808 : Nat) : Int)) (b_orU (by assumption) (by (simp [maxLen, -List.getD_eq_getElem?_getD] <;> omega))) (lt_of rfl) ⟨rfl, trivial⟩)] (by kernel_rfl) (by kernel_rfl) ?_
      refine nT ?_
      refine T.ret ?_
      exact tE (.inl rfl) [.t 2 (.one (.d (.val (.int .u64 (((bitsF x) ||| 9223372036854775808 : Nat) : Int)))))] ⟨⟨rfl, by kernel_rfl⟩, trivial⟩ [] (by have e1 : (((rankF x : Nat) : Int) : Int) = (((bitsF x) ||| 9223372036854775808 : Nat) : Int) := (by ((rw [rankF, if_neg (by simp [*]), if_neg (by rw [← hbe]; omega), hbe]))); have hE := congrArg (fun (q1 : Int) => (dv (.int .u64 q1) : AV)) e1; exact hE) rfl rfl rfl rfl rfl trivial
end Go.Proofs.Ytlabmehgcfgigaa.Q
namespace Go.Proofs.Ytlabmehgcfgigaa.Q
open Go Go.RowKit
set_option linter.unusedVariables false
set_option linter.unusedSimpArgs false
set_option maxRecDepth 100000
set_option maxHeartbeats 4000000
-- quaestor/quaestorref04.Order
theorem ref04_Order (a : api_Value) (b : api_Value) (ha : a.f_Num < 18446744073709551616) (hb : b.f_Num < 18446744073709551616) : Holds Try.prog 14 ⟨[.tv (.agg [.d (.val (.int .i64 a.f_Kind)), .d (.val (.int .i64 a.f_Int)), .d (.val (.bool a.f_Bool)), .d (.val (strV a.f_Text)), .d (.val (.float .f64 a.f_Num))]), .tv (.agg [.d (.val (.int .i64 b.f_Kind)), .d (.val (.int .i64 b.f_Int)), .d (.val (.bool b.f_Bool)), .d (.val (strV b.f_Text)), .d (.val (.float .f64 b.f_Num))])], [], dv (.int .i64 (orderV a b)), []⟩ := by
  refine Holds.of Try.func14 rfl (N := 81) Try.ntmps14 rfl fun w0 B0 S0 U0 => ?_
  show T _ (mkBase 81 0 w0 S0 U0 B0) ⟨[.tv (.agg [.d (.val (.int .i64 a.f_Kind)), .d (.val (.int .i64 a.f_Int)), .d (.val (.bool a.f_Bool)), .d (.val (strV a.f_Text)), .d (.val (.float .f64 a.f_Num))]), .tv (.agg [.d (.val (.int .i64 b.f_Kind)), .d (.val (.int .i64 b.f_Int)), .d (.val (.bool b.f_Bool)), .d (.val (strV b.f_Text)), .d (.val (.float .f64 b.f_Num))])], []⟩ _ _
  refine T.seq ?_
  refine xR [] (by kernel_rfl) (by kernel_rfl) ?_
  refine nT ?_
  refine T.seq ?_
  refine T.block ?_
  refine T.seq ?_
  refine xR [] (by kernel_rfl) (by kernel_rfl) ?_
  refine nT ?_
  by_cases hq1 : a.f_Kind < b.f_Kind
  · refine T.condT (by kernel_rfl) (decide_eq_true hq1) ?_
    refine T.seq ?_
    refine xR [] (by kernel_rfl) (by kernel_rfl) ?_
    refine nT ?_
    refine T.ret ?_
    refine rB ?_
    refine rT ?_
    exact tE (.inl rfl) [.t 4 (.one (.d (.val (.int .i64 (-1)))))] ⟨⟨rfl, by kernel_rfl⟩, trivial⟩ [] (by have e1 : (orderV a b : Int) = (-1) := (by ((rw [orderV, if_pos (by omega), cmpI, if_pos (by assumption)]))); have hE := congrArg (fun (q1 : Int) => (dv (.int .i64 q1) : AV)) e1; exact hE) rfl rfl rfl rfl rfl trivial
  · refine T.condF (by kernel_rfl) (decide_eq_false hq1) ?_
    refine T.seq ?_
    refine xR [] (by kernel_rfl) (by kernel_rfl) ?_
    refine nT ?_
    by_cases hq2 : a.f_Kind > b.f_Kind
    · refine T.condT (by kernel_rfl) (decide_eq_true hq2) ?_
      refine T.seq ?_
      refine xR [] (by kernel_rfl) (by kernel_rfl) ?_
      refine nT ?_
      refine T.ret ?_
      refine rB ?_
      refine rT ?_
      exact tE (.inl rfl) [.t 4 (.one (.d (.val (.int .i64 1))))] ⟨⟨rfl, by kernel_rfl⟩, trivial⟩ [] (by have e1 : (orderV a b : Int) = 1 := (by ((rw [orderV, if_pos (by omega), cmpI, if_neg (by assumption), if_pos (by assumption)]))); have hE := congrArg (fun (q1 : Int) => (dv (.int .i64 q1) : AV)) e1; exact hE) rfl rfl rfl rfl rfl trivial
    · refine T.condF (by kernel_rfl) (decide_eq_false hq2) ?_
      refine T.skip ?_
      refine nB ?_
      refine nT ?_
      refine T.seq ?_
      refine xR [] (by kernel_rfl) (by kernel_rfl) ?_
      refine nT ?_
      refine T.seq ?_
      refine T.seq ?_
      refine xR [] (by kernel_rfl) (by kernel_rfl) ?_
      refine nT ?_
      refine T.block ?_
      refine T.seq ?_
      refine xR [] (by kernel_rfl) (by kernel_rfl) ?_
      refine nT ?_
      by_cases hq3 : a.f_Kind = 1
      · refine T.condT (by kernel_rfl) (decide_eq_true hq3) ?_
        refine T.seq ?_
        refine xR [] (by kernel_rfl) (by kernel_rfl) ?_
        refine nT ?_
        refine xR [] (by kernel_rfl) (by kernel_rfl) ?_
        refine nB ?_
        refine nT ?_
        refine T.seq ?_
        refine T.block ?_
        refine T.seq ?_
        refine xR [] (by kernel_rfl) (by kernel_rfl) ?_
        refine nT ?_
        by_cases hq4 : a.f_Int < b.f_Int
        · refine T.condT (by kernel_rfl) (decide_eq_true hq4) ?_
          refine T.seq ?_
          refine xR [] (by kernel_rfl) (by kernel_rfl) ?_
          refine nT ?_
          refine T.ret ?_
          refine rB ?_
          refine rT ?_
          exact tE (.inl rfl) [.t 4 (.one (.d (.val (.int .i64 (-1)))))] ⟨⟨rfl, by kernel_rfl⟩, trivial⟩ [] (by have e1 : (orderV a b : Int) = (-1) := (by ((rw [order_same (by omega), if_pos (by assumption), cmpI, if_pos (by assumption)]))); have hE := congrArg (fun (q1 : Int) => (dv (.int .i64 q1) : AV)) e1; exact hE) rfl rfl rfl rfl rfl trivial
        · refine T.condF (by kernel_rfl) (decide_eq_false hq4) ?_
          refine T.seq ?_
          refine xR [] (by kernel_rfl) (by kernel_rfl) ?_
          refine nT ?_
          by_cases hq5 : a.f_Int > b.f_Int
          · refine T.condT (by kernel_rfl) (decide_eq_true hq5) ?_
            refine T.seq ?_
            refine xR [] (by kernel_rfl) (by kernel_rfl) ?_
            refine nT ?_
            refine T.ret ?_
            refine rB ?_
            refine rT ?_
            exact tE (.inl rfl) [.t 4 (.one (.d (.val (.int .i64 1))))] ⟨⟨rfl, by kernel_rfl⟩, trivial⟩ [] (by have e1 : (orderV a b : Int) = 1 := (by ((rw [order_same (by omega), if_pos (by assumption), cmpI, if_neg (by assumption), if_pos (by assumption)]))); have hE := congrArg (fun (q1 : Int) => (dv (.int .i64 q1) : AV)) e1; exact hE) rfl rfl rfl rfl rfl trivial
          · refine T.condF (by kernel_rfl) (decide_eq_false hq5) ?_
            refine T.skip ?_
            refine nB ?_
            refine nT ?_
            refine T.seq ?_
            refine xR [] (by kernel_rfl) (by kernel_rfl) ?_
            refine nT ?_
            refine T.ret ?_
            exact tE (.inl rfl) [.t 4 (.one (.d (.val (.int .i64 0))))] ⟨⟨rfl, by kernel_rfl⟩, trivial⟩ [] (by have e1 : (orderV a b : Int) = 0 := (by ((rw [order_same (by omega), if_pos (by assumption), cmpI, if_neg (by assumption), if_neg (by assumption)]))); have hE := congrArg (fun (q1 : Int) => (dv (.int .i64 q1) : AV)) e1; exact hE) rfl rfl rfl rfl rfl trivial
      · refine T.condF (by kernel_rfl) (decide_eq_false hq3) ?_
        refine T.seq ?_
        refine xR [] (by kernel_rfl) (by kernel_rfl) ?_
        refine nT ?_
        by_cases hq6 : a.f_Kind = 2
        · refine T.condT (by kernel_rfl) (decide_eq_true hq6) ?_
          refine T.seq ?_
          by_cases hq7 : a.f_Bool = true
          · refine xR [hN 4 true (congrArg Bool.not hq7),
              hN 5 true (congrArg Bool.not hq7),
              hP 6 (congrArg Bool.not hq7)] (by kernel_rfl) (by kernel_rfl) ?_
            refine nT ?_
            refine xR [hY 3 hq7,
              hY 4 hq7,
              hY 5 hq7,
              hP 6 hq7] (by kernel_rfl) (by kernel_rfl) ?_
            refine nB ?_
            refine nT ?_
            refine T.seq ?_
            refine T.block ?_
            refine T.seq ?_
            refine xR [] (by kernel_rfl) (by kernel_rfl) ?_
            refine nT ?_
            refine T.condF (b := false) (by kernel_rfl) rfl ?_
            refine T.seq ?_
            refine xR [] (by kernel_rfl) (by kernel_rfl) ?_
            refine nT ?_
            by_cases hq8 : b.f_Bool = true
            · refine T.condF (by kernel_rfl) (congrArg Bool.not hq8) ?_
              refine T.skip ?_
              refine nB ?_
              refine nT ?_
              refine T.seq ?_
              refine xR [] (by kernel_rfl) (by kernel_rfl) ?_
              refine nT ?_
              refine T.ret ?_
              exact tE (.inl rfl) [.t 4 (.one (.d (.val (.int .i64 0))))] ⟨⟨rfl, by kernel_rfl⟩, trivial⟩ [] (by have e1 : (orderV a b : Int) = 0 := (by ((rw [order_bool (by omega) (by assumption)]; simp [*]; done))); have hE := congrArg (fun (q1 : Int) => (dv (.int .i64 q1) : AV)) e1; exact hE) rfl rfl rfl rfl rfl trivial
            · replace hq8 := Bool.eq_false_iff.2 hq8
              refine T.condT (by kernel_rfl) (congrArg Bool.not hq8) ?_
              refine T.seq ?_
              refine xR [] (by kernel_rfl) (by kernel_rfl) ?_
              refine nT ?_
              refine T.ret ?_
              refine rB ?_
              refine rT ?_
              exact tE (.inl rfl) [.t 4 (.one (.d (.val (.int .i64 1))))] ⟨⟨rfl, by kernel_rfl⟩, trivial⟩ [] (by have e1 : (orderV a b : Int) = 1 := (by ((rw [order_bool (by omega) (by assumption)]; simp [*]; done))); have hE := congrArg (fun (q1 : Int) => (dv (.int .i64 q1) : AV)) e1; exact hE) rfl rfl rfl rfl rfl trivial
          · replace hq7 := Bool.eq_false_iff.2 hq7
            refine xR [hY 4 (congrArg Bool.not hq7),
              hY 5 (congrArg Bool.not hq7),
              hP 6 (congrArg Bool.not hq7)] (by kernel_rfl) (by kernel_rfl) ?_
            refine nT ?_
            refine xR [hN 3 true hq7,
              hN 4 true hq7,
              hN 5 true hq7,
              hP 6 hq7] (by kernel_rfl) (by kernel_rfl) ?_
            refine nB ?_
            refine nT ?_
            refine T.seq ?_
            refine T.block ?_
            refine T.seq ?_
            refine xR [] (by kernel_rfl) (by kernel_rfl) ?_
            refine nT ?_
            by_cases hq9 : b.f_Bool = true
            · refine T.condT (by kernel_rfl) hq9 ?_
              refine T.seq ?_
              refine xR [] (by kernel_rfl) (by kernel_rfl) ?_
              refine nT ?_
              refine T.ret ?_
              refine rB ?_
              refine rT ?_
              exact tE (.inl rfl) [.t 4 (.one (.d (.val (.int .i64 (-1)))))] ⟨⟨rfl, by kernel_rfl⟩, trivial⟩ [] (by have e1 : (orderV a b : Int) = (-1) := (by ((rw [order_bool (by omega) (by assumption)]; simp [*]; done))); have hE := congrArg (fun (q1 : Int) => (dv (.int .i64 q1) : AV)) e1; exact hE) rfl rfl rfl rfl rfl trivial
            · replace hq9 := Bool.eq_false_iff.2 hq9
              refine T.condF (by kernel_rfl) hq9 ?_
              refine T.seq ?_
              refine xR [] (by kernel_rfl) (by kernel_rfl) ?_
              refine nT ?_
              refine T.condF (b := false) (by kernel_rfl) rfl ?_
              refine T.skip ?_
              refine nB ?_
              refine nT ?_
              refine T.seq ?_
              refine xR [] (by kernel_rfl) (by kernel_rfl) ?_
              refine nT ?_
              refine T.ret ?_
              exact tE (.inl rfl) [.t 4 (.one (.d (.val (.int .i64 0))))] ⟨⟨rfl, by kernel_rfl⟩, trivial⟩ [] (by have e1 : (orderV a b : Int) = 0 := (by ((rw [order_bool (by omega) (by assumption)]; simp [*]; done))); have hE := congrArg (fun (q1 : Int) => (dv (.int .i64 q1) : AV)) e1; exact hE) rfl rfl rfl rfl rfl trivial
        · refine T.condF (by kernel_rfl) (decide_eq_false hq6) ?_
          refine T.seq ?_
          refine xR [] (by kernel_rfl) (by kernel_rfl) ?_
          refine nT ?_
          by_cases hq10 : a.f_Kind = 3
          · refine T.condT (by kernel_rfl) (decide_eq_true hq10) ?_
            refine T.seq ?_
            refine xR [hR 4 rfl rfl (r_bin (u1 := strV a.f_Text) (u2 := strV b.f_Text) (v := .bool (ltS a.f_Text b.f_Text)) b_ltS (lt_of rfl) trivial)] (by kernel_rfl) (by kernel_rfl) ?_
            refine nT ?_
            refine xR [hR 4 rfl rfl (r_bin (u1 := strV a.f_Text) (u2 := strV b.f_Text) (v := .bool (ltS b.f_Text a.f_Text)) b_gtS (lt_of rfl) trivial)] (by kernel_rfl) (by kernel_rfl) ?_
            refine nB ?_
            refine nT ?_
            refine T.seq ?_
            refine T.block ?_
            refine T.seq ?_
            refine xR [] (by kernel_rfl) (by kernel_rfl) ?_
            refine nT ?_
            by_cases hq11 : (ltS a.f_Text b.f_Text) = true
            · refine T.condT (by kernel_rfl) hq11 ?_
              refine T.seq ?_
              refine xR [] (by kernel_rfl) (by kernel_rfl) ?_
              refine nT ?_
              refine T.ret ?_
              refine rB ?_
              refine rT ?_
              exact tE (.inl rfl) [.t 4 (.one (.d (.val (.int .i64 (-1)))))] ⟨⟨rfl, by kernel_rfl⟩, trivial⟩ [] (by have e1 : (orderV a b : Int) = (-1) := (by ((rw [order_same (by omega), if_neg (by assumption), if_pos (by assumption), cmpS_lt (by assumption)]))); have hE := congrArg (fun (q1 : Int) => (dv (.int .i64 q1) : AV)) e1; exact hE) rfl rfl rfl rfl rfl trivial
            · replace hq11 := Bool.eq_false_iff.2 hq11
              refine T.condF (by kernel_rfl) hq11 ?_
              refine T.seq ?_
              refine xR [] (by kernel_rfl) (by kernel_rfl) ?_
              refine nT ?_
              by_cases hq12 : (ltS b.f_Text a.f_Text) = true
              · refine T.condT (by kernel_rfl) hq12 ?_
                refine T.seq ?_
                refine xR [] (by kernel_rfl) (by kernel_rfl) ?_
                refine nT ?_
                refine T.ret ?_
                refine rB ?_
                refine rT ?_
                exact tE (.inl rfl) [.t 4 (.one (.d (.val (.int .i64 1))))] ⟨⟨rfl, by kernel_rfl⟩, trivial⟩ [] (by have e1 : (orderV a b : Int) = 1 := (by ((rw [order_same (by omega), if_neg (by assumption), if_pos (by assumption), cmpS_gt (by assumption)]))); have hE := congrArg (fun (q1 : Int) => (dv (.int .i64 q1) : AV)) e1; exact hE) rfl rfl rfl rfl rfl trivial
              · replace hq12 := Bool.eq_false_iff.2 hq12
                refine T.condF (by kernel_rfl) hq12 ?_
                refine T.skip ?_
                refine nB ?_
                refine nT ?_
                refine T.seq ?_
                refine xR [] (by kernel_rfl) (by kernel_rfl) ?_
                refine nT ?_
                refine T.ret ?_
                exact tE (.inl rfl) [.t 4 (.one (.d (.val (.int .i64 0))))] ⟨⟨rfl, by kernel_rfl⟩, trivial⟩ [] (by have e1 : (orderV a b : Int) = 0 := (by ((rw [order_same (by omega), if_neg (by assumption), if_pos (by assumption), cmpS_eq (by simp [*]) (by simp [*])]))); have hE := congrArg (fun (q1 : Int) => (dv (.int .i64 q1) : AV)) e1; exact hE) rfl rfl rfl rfl rfl trivial
          · refine T.condF (by kernel_rfl) (decide_eq_false hq10) ?_
            refine T.seq ?_
            refine xR [] (by kernel_rfl) (by kernel_rfl) ?_
            refine nT ?_
            by_cases hq13 : a.f_Kind = 4
            · refine T.condT (by kernel_rfl) (decide_eq_true hq13) ?_
              refine T.seq ?_
              refine xD [[], [0], [0, 1], [], [3], [0, 1, 2, 3, 4], [0, 1, 2, 3, 4, 5], [0, 1, 2, 3, 4, 5, 6]] [hR 2 rfl rfl (r_call (ref04_rank a.f_Num (by assumption)) Try.func46 rfl (by decide) [] [] (l := [(.tmp 64, dv (.float .f64 a.f_Num))]) [] rfl 0 0 rfl rfl rfl rfl rfl rfl rfl rfl rfl ⟨.inl ⟨rfl, rfl⟩, trivial⟩ rfl (fun b hb => by cases hb) (.inl rfl) (lt_of rfl) trivial),
                hR 5 rfl rfl (r_call (ref04_rank b.f_Num (by assumption)) Try.func46 rfl (by decide) [] [] (l := [(.tmp 67, dv (.float .f64 b.f_Num))]) [] rfl 0 0 rfl rfl rfl rfl rfl rfl rfl rfl rfl ⟨.inl ⟨rfl, rfl⟩, trivial⟩ rfl (fun b hb => by cases hb) (.inl rfl) (lt_of rfl) trivial)] (by kernel_rfl) (by kernel_rfl) (by kernel_rfl) (by kernel_rfl) (by kernel_rfl) (by kernel_rfl) ?_
              refine nT ?_
              refine xD [[], [0], [0, 1], [], [3], [0, 1, 2, 3, 4], [0, 1, 2, 3, 4, 5], [0, 1, 2, 3, 4, 5, 6]] [hR 2 rfl rfl (r_call (ref04_rank a.f_Num (by assumption)) Try.func46 rfl (by decide) [] [] (l := [(.tmp 71, dv (.float .f64 a.f_Num))]) [] rfl 0 0 rfl rfl rfl rfl rfl rfl rfl rfl rfl ⟨.inl ⟨rfl, rfl⟩, trivial⟩ rfl (fun b hb => by cases hb) (.inl rfl) (lt_of rfl) trivial),
                hR 5 rfl rfl (r_call (ref04_rank b.f_Num (by assumption)) Try.func46 rfl (by decide) [] [] (l := [(.tmp 74, dv (.float .f64 b.f_Num))]) [] rfl 0 0 rfl rfl rfl rfl rfl rfl rfl rfl rfl ⟨.inl ⟨rfl, rfl⟩, trivial⟩ rfl (fun b hb => by cases hb) (.inl rfl) (lt_of rfl) trivial)] (by kernel_rfl) (by kernel_rfl) (by kernel_rfl) (by kernel_rfl) (by kernel_rfl) (by kernel_rfl) ?_
              refine nB ?_
              refine nT ?_
              refine T.seq ?_
              refine T.block ?_
              refine T.seq ?_
              refine xR [] (by kernel_rfl) (by kernel_rfl) ?_
              refine nT ?_
              by_cases hq14 : ((rankF a.f_Num : Nat) : Int) < ((rankF b.f_Num : Nat) : Int)
              · refine T.condT (by kernel_rfl) (decide_eq_true hq14) ?_
                refine T.seq ?_
                refine xR [] (by kernel_rfl) (by kernel_rfl) ?_
                refine nT ?_
                refine T.ret ?_
                refine rB ?_
                refine rT ?_
                exact tE (.inl rfl) [.t 4 (.one (.d (.val (.int .i64 (-1)))))] ⟨⟨rfl, by kernel_rfl⟩, trivial⟩ [] (by have e1 : (orderV a b : Int) = (-1) := (by ((rw [order_same (by omega), if_neg (by assumption), if_neg (by assumption), if_pos (by assumption), cmp_sort ha hb, cmpI, if_pos (by assumption)]))); have hE := congrArg (fun (q1 : Int) => (dv (.int .i64 q1) : AV)) e1; exact hE) rfl rfl rfl rfl rfl trivial
              · refine T.condF (by kernel_rfl) (decide_eq_false hq14) ?_
                refine T.seq ?_
                refine xR [] (by kernel_rfl) (by kernel_rfl) ?_
                refine nT ?_
                by_cases hq15 : ((rankF a.f_Num : Nat) : Int) > ((rankF b.f_Num : Nat) : Int)
                · refine T.condT (by kernel_rfl) (decide_eq_true hq15) ?_
                  refine T.seq ?_
                  refine xR [] (by kernel_rfl) (by kernel_rfl) ?_
                  refine nT ?_
                  refine T.ret ?_
                  refine rB ?_
                  refine rT ?_
                  exact tE (.inl rfl) [.t 4 (.one (.d (.val (.int .i64 1))))] ⟨⟨rfl, by kernel_rfl⟩, trivial⟩ [] (by have e1 : (orderV a b : Int) = 1 := (by ((rw [order_same (by omega), if_neg (by assumption), if_neg (by assumption), if_pos (by assumption), cmp_sort ha hb, cmpI, if_neg (by assumption), if_pos (by assumption)]))); have hE := congrArg (fun (q1 : Int) => (dv (.int .i64 q1) : AV)) e1; exact hE) rfl rfl rfl rfl rfl trivial
                · refine T.condF (by kernel_rfl) (decide_eq_false hq15) ?_
                  refine T.skip ?_
                  refine nB ?_
                  refine nT ?_
                  refine T.seq ?_
                  refine xR [] (by kernel_rfl) (by kernel_rfl) ?_
                  refine nT ?_
                  refine T.ret ?_
                  exact tE (.inl rfl) [.t 4 (.one (.d (.val (.int .i64 0))))] ⟨⟨rfl, by kernel_rfl⟩, trivial⟩ [] (by have e1 : (orderV a b : Int) = 0 := (by ((rw [order_same (by omega), if_neg (by assumption), if_neg (by assumption), if_pos (by assumption), cmp_sort ha hb, cmpI, if_neg (by assumption), if_neg (by assumption)]))); have hE := congrArg (fun (q1 : Int) => (dv (.int .i64 q1) : AV)) e1; exact hE) rfl rfl rfl rfl rfl trivial
            · refine T.condF (by kernel_rfl) (decide_eq_false hq13) ?_
              refine T.skip ?_
              refine nB ?_
              refine nT ?_
              refine T.seq ?_
              refine T.block ?_
              refine T.seq ?_
              refine xR [] (by kernel_rfl) (by kernel_rfl) ?_
              refine nT ?_
              refine T.condF (b := false) (by kernel_rfl) rfl ?_
              refine T.seq ?_
              refine xR [] (by kernel_rfl) (by kernel_rfl) ?_
              refine nT ?_
              refine T.condF (b := false) (by kernel_rfl) rfl ?_
              refine T.skip ?_
              refine nB ?_
              refine nT ?_
              refine T.seq ?_
              refine xR [] (by kernel_rfl) (by kernel_rfl) ?_
              refine nT ?_
              refine T.ret ?_
              exact tE (.inl rfl) [.t 4 (.one (.d (.val (.int .i64 0))))] ⟨⟨rfl, by kernel_rfl⟩, trivial⟩ [] (by have e1 : (orderV a b : Int) = 0 := (by (exact order_none (by omega) (by assumption) (by assumption) (by assumption) (by assumption))); have hE := congrArg (fun (q1 : Int) => (dv (.int .i64 q1) : AV)) e1; exact hE) rfl rfl rfl rfl rfl trivial
end Go.Proofs.Ytlabmehgcfgigaa.Q
