import Derived.Test.YtlabmehgcfgigaaC04n3
namespace Go.Proofs.Ytlabmehgcfgigaa.Q
open Go Go.RowKit
set_option linter.unusedVariables false
set_option linter.unusedSimpArgs false
set_option maxRecDepth 100000
set_option maxHeartbeats 4000000
theorem cmp_isNaN_int64 (a : Int) : Holds Try.prog 81 ⟨[vI a], [], vB false, []⟩ := by
 refine Holds.of Try.func81 rfl (N := 6) Try.ntmps81 rfl fun w0 B0 S0 U0 => ?_
 show T _ (mkBase 6 0 w0 S0 U0 B0) ⟨[vI a], []⟩ _ _
 refine sR [] ?_
 refine sR [] ?_
 refine T.ret ?_
 exact eRt 2 (.one (dB (decide (a ≠ a)))) [] (by have e1 : (false : Bool) = (decide (a ≠ a)) := (by (simp; done)); have hE := cB e1; exact hE) trivial
theorem cmp_Compare_int64 (a : Int) (b : Int) : Holds Try.prog 43 ⟨[vI a, vI b], [], vI (cmpI a b), []⟩ := by
 refine Holds.of Try.func43 rfl (N := 20) Try.ntmps43 rfl fun w0 B0 S0 U0 => ?_
 show T _ (mkBase 20 0 w0 S0 U0 B0) ⟨[vI a, vI b], []⟩ _ _
 refine sR [] ?_
 refine sR [hR 1 rfl rfl (rCa (cmp_isNaN_int64 a ) Try.func81 [] [(.tmp 7, vI a)] 0 0)] ?_
 refine sR [hR 1 rfl rfl (rCa (cmp_isNaN_int64 b ) Try.func81 [] [(.tmp 9, vI b)] 0 0)] ?_
 refine T.seq ?_
 refine sR [] ?_
 refine cF (b := false) rfl ?_
 refine T.skip (nT (T.seq ?_))
 refine sR [] ?_
 refine cF (b := false) rfl ?_
 refine T.skip (nT (T.seq ?_))
 refine sR [] ?_
 by_cases hq1 : a < b
 ·refine cT (dT hq1) ?_
  refine sR [] ?_
  refine T.ret (rT ?_)
  exact eRt 4 (.one (dI (-1))) [] (by have e1 : (cmpI a b : Int) = (-1) := (by ((rw [cmpI, if_pos ‹_›]))); have hE := cI e1; exact hE) trivial
 refine cF (dF hq1) ?_
 refine T.skip (nT (T.seq ?_))
 refine sR [] ?_
 by_cases hq2 : a > b
 ·refine cT (dT hq2) ?_
  refine sR [] ?_
  refine T.ret (rT ?_)
  exact eRt 4 (.one (dI 1)) [] (by have e1 : (cmpI a b : Int) = 1 := (by ((rw [cmpI, if_neg ‹_›, if_pos ‹_›]))); have hE := cI e1; exact hE) trivial
 refine cF (dF hq2) ?_
 refine T.skip (nT ?_)
 refine sR [] ?_
 refine T.ret ?_
 exact eRt 4 (.one (dI 0)) [] (by have e1 : (cmpI a b : Int) = 0 := (by ((rw [cmpI, if_neg ‹_›, if_neg ‹_›]))); have hE := cI e1; exact hE) trivial
theorem bytealg_CompareString (a : List UInt8) (b : List UInt8) : Holds Try.prog 82 ⟨[dv (strV a), dv (strV b)], [], vI (cmpS a b), []⟩ := by
 refine Holds.of Try.func82 rfl (N := 8) Try.ntmps82 rfl fun w0 B0 S0 U0 => ?_
 show T _ (mkBase 8 0 w0 S0 U0 B0) ⟨[dv (strV a), dv (strV b)], []⟩ _ _
 refine sR [] ?_
 refine sR [hR 2 rfl rfl (r_ext2 (u1 := strV a) (u2 := strV b) (v := .int .i64 (cmpS a b)) (e := Extern.BytealgCompare.compare) Try.func102 (by kernel_rfl) (by kernel_rfl) (by kernel_rfl) (by kernel_rfl) (run_cmpS _ _) (lt_of rfl) trivial)] ?_
 refine T.ret ?_
 exact eRt 4 (.one (dI (cmpS a b))) [] rfl trivial
theorem strings_Compare (a : List UInt8) (b : List UInt8) : Holds Try.prog 44 ⟨[dv (strV a), dv (strV b)], [], vI (cmpS a b), []⟩ := by
 refine Holds.of Try.func44 rfl (N := 8) Try.ntmps44 rfl fun w0 B0 S0 U0 => ?_
 show T _ (mkBase 8 0 w0 S0 U0 B0) ⟨[dv (strV a), dv (strV b)], []⟩ _ _
 refine sR [] ?_
 refine sR [hR 2 rfl rfl (rCa (bytealg_CompareString a b ) Try.func82 [] [(.tmp 5, dv (strV a)), (.tmp 6, dv (strV b))] 0 0)] ?_
 refine T.ret ?_
 exact eRt 4 (.one (dI (cmpS a b))) [] rfl trivial
theorem value_sorts (x : Nat) (hx : x < 18446744073709551616) : Holds Try.prog 45 ⟨[dv (.float .f64 x)], [], vI (sortF x), []⟩ := by
 refine Holds.of Try.func45 rfl (N := 15) Try.ntmps45 rfl fun w0 B0 S0 U0 => ?_
 show T _ (mkBase 15 0 w0 S0 U0 B0) ⟨[dv (.float .f64 x)], []⟩ _ _
 have ht : -9223372036854775808 ≤ toI64 x ∧ toI64 x ≤ 9223372036854775807 := by unfold toI64; split <;> omega
 refine sR [] ?_
 refine T.seq ?_
 refine sR [hR 1 rfl rfl (rCa (math_IsNaN x ) Try.func83 [] [(.tmp 4, dv (.float .f64 x))] 0 0)] ?_
 by_cases hq1 : (nanB x) = true
 ·refine cT hq1 ?_
  refine sR [] ?_
  refine T.ret (rT ?_)
  exact eRt 2 (.one (dI (-9223372036854775808))) [] (by have e1 : (sortF x : Int) = (-9223372036854775808) := (by ((simp [sortF, *]; done))); have hE := cI e1; exact hE) trivial
 replace hq1 := Bool.eq_false_iff.2 hq1
 refine cF hq1 ?_
 refine T.skip (nT ?_)
 refine sR [hR 1 rfl rfl (r_ext1 (u := .float .f64 x) (v := .int .u64 ((x : Nat) : Int)) (e := Extern.MathFloatBits.float64bits) Try.func84 (by kernel_rfl) (by kernel_rfl) (by kernel_rfl) (by kernel_rfl) (fun w => rfl) (lt_of rfl) trivial),
   hR 2 rfl rfl (r_conv (u := .int .u64 ((x : Nat) : Int)) (v := .int .i64 (toI64 x)) (c_i64 ‹_› Try.underlying64 Try.underlying2) (lt_of rfl) trivial)] ?_
 refine T.seq ?_
 refine sR [] ?_
 by_cases hq2 : (toI64 x) < 0
 ·refine cT (dT hq2) ?_
  refine xR [hR 1 rfl rfl (r_bin (u1 := .int .i64 (-9223372036854775808)) (u2 := .int .i64 (toI64 x)) (v := .int .i64 ((-9223372036854775808) - (toI64 x))) (b_sub (by rw [IntKind.wrap_i64]; omega)) (lt_of rfl) ⟨rfl, trivial⟩),
    hR 2 rfl rfl (r_bin (u1 := .int .i64 ((-9223372036854775808) - (toI64 x))) (u2 := .int .i64 1) (v := .int .i64 (((-9223372036854775808) - (toI64 x)) - 1)) (b_sub (by rw [IntKind.wrap_i64]; omega)) (lt_of rfl) ⟨rfl, trivial⟩)] (by kernel_rfl) (by kernel_rfl) ?_
  refine nT ?_
  refine sR [] ?_
  refine T.ret ?_
  exact eRt 2 (.one (dI (((-9223372036854775808) - (toI64 x)) - 1))) [] (by have e1 : (sortF x : Int) = ((-9223372036854775808) - (toI64 x)) - 1 := (by ((simp [sortF, *]; done))); have hE := cI e1; exact hE) trivial
 refine cF (dF hq2) ?_
 refine T.skip (nT ?_)
 refine sR [] ?_
 refine T.ret ?_
 exact eRt 2 (.one (dI (toI64 x))) [] (by have e1 : (sortF x : Int) = toI64 x := (by ((simp [sortF, *]; done))); have hE := cI e1; exact hE) trivial
theorem value_Order (a : api_Value) (b : api_Value) (ha : a.f_Num < 18446744073709551616) (hb : b.f_Num < 18446744073709551616) : Holds Try.prog 13 ⟨[.tv (.agg [dI a.f_Kind, dI a.f_Int, dB a.f_Bool, dS a.f_Text, .d (.val (.float .f64 a.f_Num))]), .tv (.agg [dI b.f_Kind, dI b.f_Int, dB b.f_Bool, dS b.f_Text, .d (.val (.float .f64 b.f_Num))])], [], vI (orderV a b), []⟩ := by
 refine Holds.of Try.func13 rfl (N := 48) Try.ntmps13 rfl fun w0 B0 S0 U0 => ?_
 show T _ (mkBase 48 0 w0 S0 U0 B0) ⟨[.tv (.agg [dI a.f_Kind, dI a.f_Int, dB a.f_Bool, dS a.f_Text, .d (.val (.float .f64 a.f_Num))]), .tv (.agg [dI b.f_Kind, dI b.f_Int, dB b.f_Bool, dS b.f_Text, .d (.val (.float .f64 b.f_Num))])], []⟩ _ _
 refine sR [] ?_
 refine T.seq ?_
 refine sR [hR 4 rfl rfl (rCa (cmp_Compare_int a.f_Kind b.f_Kind ) Try.func42 [] [(.tmp 7, vI a.f_Kind), (.tmp 9, vI b.f_Kind)] 0 0)] ?_
 refine sR [] ?_
 by_cases hq1 : (cmpI a.f_Kind b.f_Kind) ≠ 0
 ·have hkk := cmpI_ne.1 hq1
  refine cT (dT hq1) ?_
  refine sR [] ?_
  refine T.ret (rT ?_)
  exact eRt 4 (.one (dI (cmpI a.f_Kind b.f_Kind))) [] (by have e1 : (orderV a b : Int) = cmpI a.f_Kind b.f_Kind := (by ((rw [orderV, if_pos ‹_›]))); have hE := cI e1; exact hE) trivial
 have hkk : a.f_Kind = b.f_Kind := Classical.not_not.1 (fun h9 => hq1 (cmpI_ne.2 h9))
 refine cF (dF hq1) ?_
 refine T.skip (nT (T.seq ?_))
 refine sR [] ?_
 refine T.block ?_
 refine sR [] ?_
 by_cases hq2 : a.f_Kind = 1
 ·refine cT (dT hq2) ?_
  refine sR [hR 4 rfl rfl (rCa (cmp_Compare_int64 a.f_Int b.f_Int ) Try.func43 [] [(.tmp 19, vI a.f_Int), (.tmp 21, vI b.f_Int)] 0 0)] ?_
  refine T.ret (rB (rT ?_))
  exact eRt 4 (.one (dI (cmpI a.f_Int b.f_Int))) [] (by have e1 : (orderV a b : Int) = cmpI a.f_Int b.f_Int := (by ((rw [orderV, if_neg (by omega), if_pos ‹_›]; done))); have hE := cI e1; exact hE) trivial
 refine cF (dF hq2) ?_
 refine sR [] ?_
 by_cases hq3 : a.f_Kind = 3
 ·refine cT (dT hq3) ?_
  refine sR [hR 4 rfl rfl (rCa (strings_Compare a.f_Text b.f_Text ) Try.func44 [] [(.tmp 26, dv (strV a.f_Text)), (.tmp 28, dv (strV b.f_Text))] 0 0)] ?_
  refine T.ret (rB (rT ?_))
  exact eRt 4 (.one (dI (cmpS a.f_Text b.f_Text))) [] (by have e1 : (orderV a b : Int) = cmpS a.f_Text b.f_Text := (by ((rw [orderV, if_neg (by omega), if_neg ‹_›, if_pos ‹_›]; done))); have hE := cI e1; exact hE) trivial
 refine cF (dF hq3) ?_
 refine sR [] ?_
 by_cases hq4 : a.f_Kind = 4
 ·refine cT (dT hq4) ?_
  refine sD [[], [0], [0, 1], [], [3], [0, 1, 2, 3, 4], [0, 1, 2, 3, 4, 5], [0, 1, 2, 3, 4, 5, 6]] [hR 2 rfl rfl (rCa (value_sorts a.f_Num ‹_›) Try.func45 [] [(.tmp 33, dv (.float .f64 a.f_Num))] 0 0),
    hR 5 rfl rfl (rCa (value_sorts b.f_Num ‹_›) Try.func45 [] [(.tmp 36, dv (.float .f64 b.f_Num))] 0 0),
    hR 6 rfl rfl (rCa (cmp_Compare_int64 (sortF a.f_Num) (sortF b.f_Num) ) Try.func43 [] [(.tmp 34, vI (sortF a.f_Num)), (.tmp 37, vI (sortF b.f_Num))] 0 0)] ?_
  refine T.ret (rB (rT ?_))
  exact eRt 4 (.one (dI (cmpI (sortF a.f_Num) (sortF b.f_Num)))) [] (by have e1 : (orderV a b : Int) = cmpI (sortF a.f_Num) (sortF b.f_Num) := (by ((rw [orderV, if_neg (by omega), if_neg ‹_›, if_neg ‹_›, if_pos ‹_›]; done))); have hE := cI e1; exact hE) trivial
 refine cF (dF hq4) ?_
 refine sR [] ?_
 by_cases hq5 : a.f_Kind = 2
 ·refine cT (dT hq5) ?_
  refine sR [] ?_
  by_cases hq6 : a.f_Bool ≠ b.f_Bool
  ·refine cT (dT hq6) ?_
   refine T.seq ?_
   refine sR [] ?_
   by_cases hq7 : a.f_Bool = true
   ·refine cT hq7 ?_
    refine sR [] ?_
    refine T.ret (rT (rB (rT ?_)))
    exact eRt 4 (.one (dI 1)) [] (by have e1 : (orderV a b : Int) = 1 := (by ((rw [order_bool (by omega) ‹_›, if_neg ‹_›, if_pos ‹_›]))); have hE := cI e1; exact hE) trivial
   replace hq7 := Bool.eq_false_iff.2 hq7
   refine cF hq7 ?_
   refine T.skip (nT ?_)
   refine sR [] ?_
   refine T.ret (rB (rT ?_))
   exact eRt 4 (.one (dI (-1))) [] (by have e1 : (orderV a b : Int) = (-1) := (by ((rw [order_bool (by omega) ‹_›, if_neg ‹_›, if_neg (by simp [*])]))); have hE := cI e1; exact hE) trivial
  refine cF (dF hq6) ?_
  refine T.skip ?_
  refine nB ?_
  refine nT ?_
  refine sR [] ?_
  refine T.ret ?_
  exact eRt 4 (.one (dI 0)) [] (by have e1 : (orderV a b : Int) = 0 := (by ((rw [order_bool (by omega) ‹_›, if_pos (Classical.not_not.1 ‹_›)]))); have hE := cI e1; exact hE) trivial
 refine cF (dF hq5) ?_
 refine T.skip ?_
 refine nB ?_
 refine nT ?_
 refine sR [] ?_
 refine T.ret ?_
 exact eRt 4 (.one (dI 0)) [] (cI (by (exact order_none (by omega) ‹_› ‹_› ‹_› ‹_›))) trivial
theorem ref04_rank (x : Nat) (hx : x < 18446744073709551616) : Holds Try.prog 46 ⟨[dv (.float .f64 x)], [], dv (.int .u64 ((rankF x : Nat) : Int)), []⟩ := by
 refine Holds.of Try.func46 rfl (N := 16) Try.ntmps46 rfl fun w0 B0 S0 U0 => ?_
 show T _ (mkBase 16 0 w0 S0 U0 B0) ⟨[dv (.float .f64 x)], []⟩ _ _
 have hbx := bitsF_lt hx
 refine sR [] ?_
 refine T.seq ?_
 refine sR [hR 2 rfl rfl (r_bin (u1 := .float .f64 x) (u2 := .float .f64 x) (v := .bool (nanB x)) b_nan (lt_of rfl) trivial)] ?_
 by_cases hq1 : (nanB x) = true
 ·refine cT hq1 ?_
  refine sR [] ?_
  refine T.ret (rT ?_)
  exact eRt 2 (.one (.d (.val (.int .u64 0)))) [] (by have e1 : (((rankF x : Nat) : Int) : Int) = 0 := (by ((rw [rankF, if_pos ‹_›]; rfl))); have hE := congrArg (fun (q1 : Int) => (dv (.int .u64 q1) : AV)) e1; exact hE) trivial
 have hbe : bitsF x = x := if_neg hq1
 replace hq1 := Bool.eq_false_iff.2 hq1
 refine cF hq1 ?_
 refine T.skip (nT ?_)
 refine sR [hR 1 rfl rfl (rCa (ref01_Bits x ) Try.func48 [] [(.tmp 7, dv (.float .f64 x))] 0 0)] ?_
 refine T.seq ?_
 refine sR [hR 1 rfl rfl (r_bin (u1 := .int .u64 ((bitsF x : Nat) : Int)) (u2 := .int .u64 63) (v := .int .u64 (((bitsF x) / 2 ^ 63 : Nat) : Int)) (b_shrN (n := 63) rfl (Nat.le_trans (by omega) (by decide : 64 ≤ _))) (lt_of rfl) ⟨rfl, trivial⟩)] ?_
 by_cases hq2 : (((bitsF x) / 2 ^ 63 : Nat) : Int) = 1
 ·refine cT (dT hq2) ?_
  refine sR [hR 1 rfl rfl (r_un (u := .int .u64 ((bitsF x : Nat) : Int)) (v := .int .u64 ((18446744073709551615 - (bitsF x) : Nat) : Int)) (u_xorU ‹_›) (lt_of rfl) trivial)] ?_
  refine T.ret (rT ?_)
  exact eRt 2 (.one (.d (.val (.int .u64 ((18446744073709551615 - (bitsF x) : Nat) : Int))))) [] (by have e1 : (((rankF x : Nat) : Int) : Int) = ((18446744073709551615 - (bitsF x) : Nat) : Int) := (by ((rw [rankF, if_neg (by simp [*]), if_pos (by rw [← hbe]; omega), hbe]))); have hE := congrArg (fun (q1 : Int) => (dv (.int .u64 q1) : AV)) e1; exact hE) trivial
 refine cF (dF hq2) ?_
 refine T.skip (nT ?_)
 refine sR [hR 1 rfl rfl (r_bin (u1 := .int .u64 ((bitsF x : Nat) : Int)) (u2 := .int .u64 9223372036854775808) (v := .int .u64 (((bitsF x) ||| 9223372036854775808 : Nat) : Int)) (b_orU ‹_› (by (simp [maxLen, -List.getD_eq_getElem?_getD] <;> omega))) (lt_of rfl) ⟨rfl, trivial⟩)] ?_
 refine T.ret ?_
 exact eRt 2 (.one (.d (.val (.int .u64 (((bitsF x) ||| 9223372036854775808 : Nat) : Int))))) [] (by have e1 : (((rankF x : Nat) : Int) : Int) = (((bitsF x) ||| 9223372036854775808 : Nat) : Int) := (by ((rw [rankF, if_neg (by simp [*]), if_neg (by rw [← hbe]; omega), hbe]))); have hE := congrArg (fun (q1 : Int) => (dv (.int .u64 q1) : AV)) e1; exact hE) trivial
end Go.Proofs.Ytlabmehgcfgigaa.Q
