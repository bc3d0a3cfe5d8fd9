import Derived.Test.YtlabmehgcfgigaaC04n0
namespace Go.Proofs.Ytlabmehgcfgigaa.Q
open Go Go.RowKit
set_option linter.unusedVariables false
set_option linter.unusedSimpArgs false
set_option maxRecDepth 100000
set_option maxHeartbeats 4000000
theorem ref01_Bits (x : Nat) : Holds Try.prog 48 ⟨[dv (.float .f64 x)], [], dv (.int .u64 ((bitsF x : Nat) : Int)), []⟩ := by
 refine Holds.of Try.func48 rfl (N := 8) Try.ntmps48 rfl fun w0 B0 S0 U0 => ?_
 show T _ (mkBase 8 0 w0 S0 U0 B0) ⟨[dv (.float .f64 x)], []⟩ _ _
 refine sR [] ?_
 refine T.seq ?_
 refine sR [hR 2 rfl rfl (r_bin (u1 := .float .f64 x) (u2 := .float .f64 x) (v := .bool (nanB x)) b_nan (lt_of rfl) trivial)] ?_
 by_cases hq1 : (nanB x) = true
 ·refine cT hq1 ?_
  refine sR [] ?_
  refine T.ret (rT ?_)
  exact eRt 2 (.one (.d (.val (.int .u64 9221120237041090561)))) [] (by have e1 : (((bitsF x : Nat) : Int) : Int) = 9221120237041090561 := (by (simp [bitsF, *]; done)); have hE := congrArg (fun (q1 : Int) => (dv (.int .u64 q1) : AV)) e1; exact hE) trivial
 replace hq1 := Bool.eq_false_iff.2 hq1
 refine cF hq1 ?_
 refine T.skip (nT ?_)
 refine sR [hR 1 rfl rfl (r_ext1 (u := .float .f64 x) (v := .int .u64 ((x : Nat) : Int)) (e := Extern.MathFloatBits.float64bits) Try.func84 (by kernel_rfl) (by kernel_rfl) (by kernel_rfl) (by kernel_rfl) (fun w => rfl) (lt_of rfl) trivial)] ?_
 refine T.ret ?_
 exact eRt 2 (.one (.d (.val (.int .u64 ((x : Nat) : Int))))) [] (by have e1 : (((bitsF x : Nat) : Int) : Int) = ((x : Nat) : Int) := (by (simp [bitsF, *]; done)); have hE := congrArg (fun (q1 : Int) => (dv (.int .u64 q1) : AV)) e1; exact hE) trivial
section
variable (B : List UInt8) (a : Nat) (m : Nat) (e : Int) (k : Nat)
abbrev Z6 : AV := vI ((m : Nat) : Int)
abbrev Z7 : List HS := [.live (.box 52 [dU B, dI ((a : Nat) : Int), dI e])]
abbrev Z8 : AV := vB (decide (((m : Nat) : Int) > (((B.length : Nat) : Int) - ((a : Nat) : Int))))
abbrev Z9 : List AV := [pv 0 0, (Z6 m), aa, aa, dv (.int .u64 0), vB false, dv (.int .u64 ((numL ((B.drop a).take k) : Nat) : Int)), vI ((k : Nat) : Int), aa, aa, aa, aa, aa, aa, aa, aa, aa, aa, aa, (Z8 B a m)]
abbrev Zb : AV := vI ((k + 1 : Nat) : Int)
end
theorem ref01_number (B : List UInt8) (a : Nat) (e : Int) (m : Nat) (ha : a ≤ B.length) (hB : B.length ≤ 140737488350000) (hm : m ≤ 8) : Holds Try.prog 95 ⟨[pv 0 0, vI ((m : Nat) : Int)], [.box 52 [dU B, dI ((a : Nat) : Int), dI e]], .tup [.one (.d (.val (.int .u64 ((rfN B a m : Nat) : Int)))), .one (dB (decide (a + m ≤ B.length)))], [.live (.box 52 [dU B, dI ((a : Nat) : Int), dI e])]⟩ := by
 refine Holds.of Try.func95 rfl (N := 42) Try.ntmps95 rfl fun w0 B0 S0 U0 => ?_
 show T _ (mkBase 42 1 w0 S0 U0 B0) ⟨[pv 0 0, (Z6 m)], (Z7 B a e)⟩ _ _
 refine sR [] ?_
 refine T.seq ?_
 refine sD [[], [], [1], [1, 2], [1, 2, 3], [1, 2, 3, 4], [], [6], [6, 7], [6, 7, 8], [1, 2, 3, 4, 5, 6, 7, 8, 9], [0, 1, 2, 3, 4, 5, 6, 7, 8, 9, 10]] [hR 10 rfl rfl (r_bin (u1 := .int .i64 ((B.length : Nat) : Int)) (u2 := .int .i64 ((a : Nat) : Int)) (v := .int .i64 (((B.length : Nat) : Int) - ((a : Nat) : Int))) (b_sub (by rw [IntKind.wrap_i64]; omega)) (lt_of rfl) trivial)] ?_
 by_cases hq1 : ((m : Nat) : Int) > (((B.length : Nat) : Int) - ((a : Nat) : Int))
 ·refine cT (dT hq1) ?_
  refine sR [] ?_
  refine T.ret (rT ?_)
  exact eX [.t 4 (.one (.d (.val (.int .u64 0)))), .t 5 (.one (dB false))] ⟨⟨rfl, by kernel_rfl⟩, ⟨⟨rfl, by kernel_rfl⟩, trivial⟩⟩ [0] (by have e1 : (((rfN B a m : Nat) : Int) : Int) = 0 := (by (simp only [rfN]; rw [if_neg (by omega)]; rfl)); have e2 : ((decide (a + m ≤ B.length)) : Bool) = false := (by exact dF (by omega)); have hE := congr (congrArg (fun (q1 : Int) (q2 : Bool) => (.tup [.one (.d (.val (.int .u64 q1))), .one (dB q2)] : AV)) e1) e2; exact hE) (ix trivial)
 refine cF (dF hq1) ?_
 refine T.skip (nT ?_)
 refine sR [] ?_
 refine T.seq ?_
 refine sR [] ?_
 refine T.block ?_
 refine T.loop (ι := Nat) (fun (k : Nat) => ⟨(Z9 B a m k), (Z7 B a e)⟩) (fun (k : Nat) => (k ≤ m)) (fun (k : Nat) => m - k) (0) (Nat.zero_le _) (fun _ _ hG => Gs.iI [0] (bm 20 524531) (t2 := [pv 0 0, (Z6 m), aa, aa, dv (.int .u64 0), vB false, dv (.int .u64 0), vI 0, aa, aa, aa, aa, aa, aa, aa, aa, aa, aa, aa, (Z8 B a m)]) (congrArg (fun (q1 : Int) => ([pv 0 0, (Z6 m), aa, aa, dv (.int .u64 0), vB false, dv (.int .u64 q1), vI 0, aa, aa, aa, aa, aa, aa, aa, aa, aa, aa, aa, (Z8 B a m)] : List AV)) (by rfl)) rfl hG) ?_
 rintro k hk
 show T _ _ ⟨(Z9 B a m k), (Z7 B a e)⟩ _ _
 replace hk : k ≤ m := hk
 have hk8 : numL ((B.drop a).take k) < 18446744073709551616 := numL_lt8 (Nat.le_trans (List.length_take_le _ _) (by omega))
 refine T.seq ?_
 refine sR [] ?_
 by_cases hq2 : ((k : Nat) : Int) < ((m : Nat) : Int)
 ·have hk7 : numL ((B.drop a).take k) < 72057594037927936 := numL_lt7 (Nat.le_trans (List.length_take_le _ _) (by omega)); have hbt := UInt8.toNat_lt (B.getD (a + k) 0)
  refine cT (dT hq2) ?_
  refine T.skip (nT (T.seq ?_))
  refine T.block ?_
  refine xD [[], [0], [], [2], [2, 3], [2, 3, 4], [], [6], [6, 7], [6, 7, 8], [], [6, 7, 8, 9, 10], [2, 3, 4, 5, 6, 7, 8, 9, 10, 11], [2, 3, 4, 5, 6, 7, 8, 9, 10, 11, 12], [2, 3, 4, 5, 6, 7, 8, 9, 10, 11, 12, 13], [0, 1, 2, 3, 4, 5, 6, 7, 8, 9, 10, 11, 12, 13, 14], [0, 1, 2, 3, 4, 5, 6, 7, 8, 9, 10, 11, 12, 13, 14, 15]] [hR 1 rfl rfl (r_bin (u1 := .int .u64 ((numL ((B.drop a).take k) : Nat) : Int)) (u2 := .int .u64 8) (v := .int .u64 (((numL ((B.drop a).take k)) * 2 ^ 8 : Nat) : Int)) (b_shlN (n := 8) rfl (Nat.le_trans (by omega) (by decide : 64 ≤ _)) (by (rw [IntKind.wrap_u64]; omega))) (lt_of rfl) ⟨rfl, trivial⟩),
    hR 11 rfl rfl (r_bin (u1 := .int .i64 ((a : Nat) : Int)) (u2 := .int .i64 ((k : Nat) : Int)) (v := .int .i64 ((a + k : Nat) : Int)) (b_add (by rw [IntKind.wrap_i64]; omega)) (lt_of rfl) trivial),
    hR 12 rfl rfl (q_index false false kU8 B (a + k) (k := .i64) (i := ((a + k : Nat) : Int)) Try.underlying47 iat_5 rfl rfl (by omega) (lt_of rfl) trivial),
    hR 14 rfl rfl (r_conv (u := .int .u8 (((B.getD (a + k) 0).toNat : Nat) : Int)) (v := .int .u64 (((B.getD (a + k) 0).toNat : Nat) : Int)) (c_int Try.underlying5 Try.underlying64 (by (rw [IntKind.wrap_u64]; omega))) (lt_of rfl) trivial),
    hR 15 rfl rfl (r_bin (u1 := .int .u64 (((numL ((B.drop a).take k)) * 2 ^ 8 : Nat) : Int)) (u2 := .int .u64 (((B.getD (a + k) 0).toNat : Nat) : Int)) (v := .int .u64 ((((numL ((B.drop a).take k)) * 2 ^ 8) ||| (B.getD (a + k) 0).toNat : Nat) : Int)) (b_orU (by omega) (by omega)) (lt_of rfl) trivial)] (by kernel_rfl) (by kernel_rfl) (by kernel_rfl) (by kernel_rfl) (by kernel_rfl) (by kernel_rfl) ?_
  refine nB ?_
  refine nT ?_
  refine xK [hR 1 rfl rfl (r_bin (u1 := .int .i64 ((k : Nat) : Int)) (u2 := .int .i64 1) (v := .int .i64 ((k + 1 : Nat) : Int)) (b_add (by rw [IntKind.wrap_i64]; omega)) (lt_of rfl) ⟨rfl, trivial⟩)] ?_
  refine nL (k + 1) (show (k + 1) ≤ m from (by omega)) (show (m - (k + 1) : Nat) < m - k from (by omega)) (fun _ _ hG => Gs.iI [0] (bm 20 524531) (t2 := [pv 0 0, (Z6 m), aa, aa, dv (.int .u64 0), vB false, dv (.int .u64 ((((numL ((B.drop a).take k)) * 2 ^ 8) ||| (B.getD (a + k) 0).toNat : Nat) : Int)), (Zb k), aa, aa, aa, aa, aa, aa, aa, aa, aa, aa, aa, (Z8 B a m)]) (by have e1 : (((numL ((B.drop a).take (k + 1)) : Nat) : Int) : Int) = ((((numL ((B.drop a).take k)) * 2 ^ 8) ||| (B.getD (a + k) 0).toNat : Nat) : Int) := (by (rw [numL_dropk (by omega)])); have hE := congrArg (fun (q1 : Int) => ([pv 0 0, (Z6 m), aa, aa, dv (.int .u64 0), vB false, dv (.int .u64 q1), (Zb k), aa, aa, aa, aa, aa, aa, aa, aa, aa, aa, aa, (Z8 B a m)] : List AV)) e1; exact hE) rfl hG)
 refine cF (dF hq2) ?_
 refine T.exit ?_
 refine xT ?_
 refine xT ?_
 refine xH ?_
 refine nT ?_
 refine sR [] ?_
 refine T.ret ?_
 exact eX [.t 4 (.one (.d (.val (.int .u64 ((numL ((B.drop a).take k) : Nat) : Int))))), .t 5 (.one (dB true))] ⟨⟨rfl, by kernel_rfl⟩, ⟨⟨rfl, by kernel_rfl⟩, trivial⟩⟩ [0] (by have e1 : (((rfN B a m : Nat) : Int) : Int) = ((numL ((B.drop a).take k) : Nat) : Int) := (by (have hke : k = m := (by omega); subst hke; rw [rfN_ok (by omega)])); have e2 : ((decide (a + m ≤ B.length)) : Bool) = true := (by exact dT (by omega)); have hE := congr (congrArg (fun (q1 : Int) (q2 : Bool) => (.tup [.one (.d (.val (.int .u64 q1))), .one (dB q2)] : AV)) e1) e2; exact hE) (ix trivial)
end Go.Proofs.Ytlabmehgcfgigaa.Q
