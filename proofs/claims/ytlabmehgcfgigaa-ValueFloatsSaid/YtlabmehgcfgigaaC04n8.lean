import Derived.Test.YtlabmehgcfgigaaC04n7
namespace Go.Proofs.Ytlabmehgcfgigaa.Q
open Go Go.RowKit
set_option linter.unusedVariables false
set_option linter.unusedSimpArgs false
set_option maxRecDepth 100000
set_option maxHeartbeats 4000000
theorem bits_Mul64 (x : Nat) (y : Nat) (hx : x < 18446744073709551616) (hy : y < 18446744073709551616) : Holds Try.prog 103 ⟨[dv (.int .u64 ((x : Nat) : Int)), dv (.int .u64 ((y : Nat) : Int))], [], .tup [.one (.d (.val (.int .u64 ((x * y / 18446744073709551616 : Nat) : Int)))), .one (.d (.val (.int .u64 ((x * y % 18446744073709551616 : Nat) : Int))))], []⟩ := by
 refine Holds.of Try.func103 rfl (N := 51) Try.ntmps103 rfl fun w0 B0 S0 U0 => ?_
 show T _ (mkBase 51 0 w0 S0 U0 B0) ⟨[dv (.int .u64 ((x : Nat) : Int)), dv (.int .u64 ((y : Nat) : Int))], []⟩ _ _
 have b0 : (x % 4294967296) * (y % 4294967296) ≤ 18446744065119617025 := Nat.le_trans (mul_bd (m := 4294967295) (n := 4294967295) (by omega) (by omega)) (by decide)
 have b1 : (x % 4294967296) * (y / 2 ^ 32) ≤ 18446744065119617025 := Nat.le_trans (mul_bd (m := 4294967295) (n := 4294967295) (by omega) (by omega)) (by decide)
 have b2 : (x / 2 ^ 32) * (y % 4294967296) ≤ 18446744065119617025 := Nat.le_trans (mul_bd (m := 4294967295) (n := 4294967295) (by omega) (by omega)) (by decide)
 have b3 : (x / 2 ^ 32) * (y / 2 ^ 32) ≤ 18446744065119617025 := Nat.le_trans (mul_bd (m := 4294967295) (n := 4294967295) (by omega) (by omega)) (by decide)
 have hms := mul_split x y
 refine sR [] ?_
 refine sR [hR 1 rfl rfl (r_bin (u1 := .int .u64 ((x : Nat) : Int)) (u2 := .int .u64 4294967295) (v := .int .u64 ((x % 4294967296 : Nat) : Int)) (b_low ‹_›) (lt_of rfl) ⟨rfl, trivial⟩)] ?_
 refine sR [hR 1 rfl rfl (r_bin (u1 := .int .u64 ((x : Nat) : Int)) (u2 := .int .u64 32) (v := .int .u64 ((x / 2 ^ 32 : Nat) : Int)) (b_shrN (n := 32) rfl (Nat.le_trans (by omega) (by decide : 64 ≤ _))) (lt_of rfl) ⟨rfl, trivial⟩)] ?_
 refine sR [hR 1 rfl rfl (r_bin (u1 := .int .u64 ((y : Nat) : Int)) (u2 := .int .u64 4294967295) (v := .int .u64 ((y % 4294967296 : Nat) : Int)) (b_low ‹_›) (lt_of rfl) ⟨rfl, trivial⟩)] ?_
 refine sR [hR 1 rfl rfl (r_bin (u1 := .int .u64 ((y : Nat) : Int)) (u2 := .int .u64 32) (v := .int .u64 ((y / 2 ^ 32 : Nat) : Int)) (b_shrN (n := 32) rfl (Nat.le_trans (by omega) (by decide : 64 ≤ _))) (lt_of rfl) ⟨rfl, trivial⟩)] ?_
 refine sR [hR 2 rfl rfl (r_bin (u1 := .int .u64 ((x % 4294967296 : Nat) : Int)) (u2 := .int .u64 ((y % 4294967296 : Nat) : Int)) (v := .int .u64 (((x % 4294967296) * (y % 4294967296) : Nat) : Int)) (b_mul (by (rw [IntKind.wrap_u64]; omega))) (lt_of rfl) trivial)] ?_
 refine sR [hR 2 rfl rfl (r_bin (u1 := .int .u64 ((x / 2 ^ 32 : Nat) : Int)) (u2 := .int .u64 ((y % 4294967296 : Nat) : Int)) (v := .int .u64 (((x / 2 ^ 32) * (y % 4294967296) : Nat) : Int)) (b_mul (by (rw [IntKind.wrap_u64]; omega))) (lt_of rfl) trivial),
   hR 4 rfl rfl (r_bin (u1 := .int .u64 (((x % 4294967296) * (y % 4294967296) : Nat) : Int)) (u2 := .int .u64 32) (v := .int .u64 ((((x % 4294967296) * (y % 4294967296)) / 2 ^ 32 : Nat) : Int)) (b_shrN (n := 32) rfl (Nat.le_trans (by omega) (by decide : 64 ≤ _))) (lt_of rfl) ⟨rfl, trivial⟩),
   hR 5 rfl rfl (r_bin (u1 := .int .u64 (((x / 2 ^ 32) * (y % 4294967296) : Nat) : Int)) (u2 := .int .u64 ((((x % 4294967296) * (y % 4294967296)) / 2 ^ 32 : Nat) : Int)) (v := .int .u64 ((((x / 2 ^ 32) * (y % 4294967296)) + (((x % 4294967296) * (y % 4294967296)) / 2 ^ 32) : Nat) : Int)) (b_add (by (rw [IntKind.wrap_u64]; omega))) (lt_of rfl) trivial)] ?_
 refine sR [hR 1 rfl rfl (r_bin (u1 := .int .u64 ((((x / 2 ^ 32) * (y % 4294967296)) + (((x % 4294967296) * (y % 4294967296)) / 2 ^ 32) : Nat) : Int)) (u2 := .int .u64 4294967295) (v := .int .u64 (((((x / 2 ^ 32) * (y % 4294967296)) + (((x % 4294967296) * (y % 4294967296)) / 2 ^ 32)) % 4294967296 : Nat) : Int)) (b_low (by omega)) (lt_of rfl) ⟨rfl, trivial⟩)] ?_
 refine tN ⟨[dv (.int .u64 ((x : Nat) : Int)), dv (.int .u64 ((y : Nat) : Int)), aa, aa, dv (.int .u64 0), dv (.int .u64 0), dv (.int .u64 ((x % 4294967296 : Nat) : Int)), dv (.int .u64 ((x / 2 ^ 32 : Nat) : Int)), dv (.int .u64 ((y % 4294967296 : Nat) : Int)), dv (.int .u64 ((y / 2 ^ 32 : Nat) : Int)), dv (.int .u64 (((x % 4294967296) * (y % 4294967296) : Nat) : Int)), dv (.int .u64 ((((x / 2 ^ 32) * (y % 4294967296)) + (((x % 4294967296) * (y % 4294967296)) / 2 ^ 32) : Nat) : Int)), dv (.int .u64 (((((x / 2 ^ 32) * (y % 4294967296)) + (((x % 4294967296) * (y % 4294967296)) / 2 ^ 32)) % 4294967296 : Nat) : Int))], []⟩ ?_
 refine sR [hR 1 rfl rfl (r_bin (u1 := .int .u64 ((((x / 2 ^ 32) * (y % 4294967296)) + (((x % 4294967296) * (y % 4294967296)) / 2 ^ 32) : Nat) : Int)) (u2 := .int .u64 32) (v := .int .u64 (((((x / 2 ^ 32) * (y % 4294967296)) + (((x % 4294967296) * (y % 4294967296)) / 2 ^ 32)) / 2 ^ 32 : Nat) : Int)) (b_shrN (n := 32) rfl (Nat.le_trans (by omega) (by decide : 64 ≤ _))) (lt_of rfl) ⟨rfl, trivial⟩)] ?_
 refine sR [hR 3 rfl rfl (r_bin (u1 := .int .u64 ((x % 4294967296 : Nat) : Int)) (u2 := .int .u64 ((y / 2 ^ 32 : Nat) : Int)) (v := .int .u64 (((x % 4294967296) * (y / 2 ^ 32) : Nat) : Int)) (b_mul (by (rw [IntKind.wrap_u64]; omega))) (lt_of rfl) trivial),
   hR 4 rfl rfl (r_bin (u1 := .int .u64 (((((x / 2 ^ 32) * (y % 4294967296)) + (((x % 4294967296) * (y % 4294967296)) / 2 ^ 32)) % 4294967296 : Nat) : Int)) (u2 := .int .u64 (((x % 4294967296) * (y / 2 ^ 32) : Nat) : Int)) (v := .int .u64 ((((((x / 2 ^ 32) * (y % 4294967296)) + (((x % 4294967296) * (y % 4294967296)) / 2 ^ 32)) % 4294967296) + ((x % 4294967296) * (y / 2 ^ 32)) : Nat) : Int)) (b_add (by (rw [IntKind.wrap_u64]; omega))) (lt_of rfl) trivial)] ?_
 refine sR [hR 2 rfl rfl (r_bin (u1 := .int .u64 ((x / 2 ^ 32 : Nat) : Int)) (u2 := .int .u64 ((y / 2 ^ 32 : Nat) : Int)) (v := .int .u64 (((x / 2 ^ 32) * (y / 2 ^ 32) : Nat) : Int)) (b_mul (by (rw [IntKind.wrap_u64]; omega))) (lt_of rfl) trivial),
   hR 4 rfl rfl (r_bin (u1 := .int .u64 (((x / 2 ^ 32) * (y / 2 ^ 32) : Nat) : Int)) (u2 := .int .u64 (((((x / 2 ^ 32) * (y % 4294967296)) + (((x % 4294967296) * (y % 4294967296)) / 2 ^ 32)) / 2 ^ 32 : Nat) : Int)) (v := .int .u64 ((((x / 2 ^ 32) * (y / 2 ^ 32)) + ((((x / 2 ^ 32) * (y % 4294967296)) + (((x % 4294967296) * (y % 4294967296)) / 2 ^ 32)) / 2 ^ 32) : Nat) : Int)) (b_add (by (rw [IntKind.wrap_u64]; omega))) (lt_of rfl) trivial),
   hR 6 rfl rfl (r_bin (u1 := .int .u64 ((((((x / 2 ^ 32) * (y % 4294967296)) + (((x % 4294967296) * (y % 4294967296)) / 2 ^ 32)) % 4294967296) + ((x % 4294967296) * (y / 2 ^ 32)) : Nat) : Int)) (u2 := .int .u64 32) (v := .int .u64 (((((((x / 2 ^ 32) * (y % 4294967296)) + (((x % 4294967296) * (y % 4294967296)) / 2 ^ 32)) % 4294967296) + ((x % 4294967296) * (y / 2 ^ 32))) / 2 ^ 32 : Nat) : Int)) (b_shrN (n := 32) rfl (Nat.le_trans (by omega) (by decide : 64 ≤ _))) (lt_of rfl) ⟨rfl, trivial⟩),
   hR 7 rfl rfl (r_bin (u1 := .int .u64 ((((x / 2 ^ 32) * (y / 2 ^ 32)) + ((((x / 2 ^ 32) * (y % 4294967296)) + (((x % 4294967296) * (y % 4294967296)) / 2 ^ 32)) / 2 ^ 32) : Nat) : Int)) (u2 := .int .u64 (((((((x / 2 ^ 32) * (y % 4294967296)) + (((x % 4294967296) * (y % 4294967296)) / 2 ^ 32)) % 4294967296) + ((x % 4294967296) * (y / 2 ^ 32))) / 2 ^ 32 : Nat) : Int)) (v := .int .u64 (((((x / 2 ^ 32) * (y / 2 ^ 32)) + ((((x / 2 ^ 32) * (y % 4294967296)) + (((x % 4294967296) * (y % 4294967296)) / 2 ^ 32)) / 2 ^ 32)) + ((((((x / 2 ^ 32) * (y % 4294967296)) + (((x % 4294967296) * (y % 4294967296)) / 2 ^ 32)) % 4294967296) + ((x % 4294967296) * (y / 2 ^ 32))) / 2 ^ 32) : Nat) : Int)) (b_add (by (rw [IntKind.wrap_u64]; omega))) (lt_of rfl) trivial)] ?_
 refine sR [hR 2 rfl rfl (r_bin (u1 := .int .u64 ((x : Nat) : Int)) (u2 := .int .u64 ((y : Nat) : Int)) (v := .int .u64 ((x * y % 18446744073709551616 : Nat) : Int)) (b_mul (by rw [IntKind.wrap_u64]; omega)) (lt_of rfl) trivial)] ?_
 refine T.ret ?_
 exact eX [.t 4 (.one (.d (.val (.int .u64 (((((x / 2 ^ 32) * (y / 2 ^ 32)) + ((((x / 2 ^ 32) * (y % 4294967296)) + (((x % 4294967296) * (y % 4294967296)) / 2 ^ 32)) / 2 ^ 32)) + ((((((x / 2 ^ 32) * (y % 4294967296)) + (((x % 4294967296) * (y % 4294967296)) / 2 ^ 32)) % 4294967296) + ((x % 4294967296) * (y / 2 ^ 32))) / 2 ^ 32) : Nat) : Int))))), .t 5 (.one (.d (.val (.int .u64 ((x * y % 18446744073709551616 : Nat) : Int)))))] ⟨⟨rfl, by kernel_rfl⟩, ⟨⟨rfl, by kernel_rfl⟩, trivial⟩⟩ [] (by have e1 : (((x * y / 18446744073709551616 : Nat) : Int) : Int) = (((((x / 2 ^ 32) * (y / 2 ^ 32)) + ((((x / 2 ^ 32) * (y % 4294967296)) + (((x % 4294967296) * (y % 4294967296)) / 2 ^ 32)) / 2 ^ 32)) + ((((((x / 2 ^ 32) * (y % 4294967296)) + (((x % 4294967296) * (y % 4294967296)) / 2 ^ 32)) % 4294967296) + ((x % 4294967296) * (y / 2 ^ 32))) / 2 ^ 32) : Nat) : Int) := (by (simp only [Int.natCast_inj]; omega)); have hE := congrArg (fun (q1 : Int) => (.tup [.one (.d (.val (.int .u64 q1))), .one (.d (.val (.int .u64 ((x * y % 18446744073709551616 : Nat) : Int))))] : AV)) e1; exact hE) trivial
theorem value_product (a : Int) (b : Int) (ha : inR a) (hb : inR b) : Holds Try.prog 86 ⟨[vI a, vI b], [], .tup [.one (dI (prodN a b)), .one (dB (decide (inR (a * b))))], []⟩ := by
 refine Holds.of Try.func86 rfl (N := 38) Try.ntmps86 rfl fun w0 B0 S0 U0 => ?_
 show T _ (mkBase 38 0 w0 S0 U0 B0) ⟨[vI a, vI b], []⟩ _ _
 have ha1 := ha.1
 have ha2 := ha.2
 have hb1 := hb.1
 have hb2 := hb.2
 refine sR [] ?_
 refine sR [hR 1 rfl rfl (rCa (value_size a ‹_›) Try.func104 [] [(.tmp 9, vI a)] 0 0),
   hR 3 rfl rfl (rCa (value_size b ‹_›) Try.func104 [] [(.tmp 11, vI b)] 0 0),
   hR 4 rfl rfl (rCa (bits_Mul64 a.natAbs b.natAbs (by omega) (by omega)) Try.func103 [] [(.tmp 10, dv (.int .u64 ((a.natAbs : Nat) : Int))), (.tmp 12, dv (.int .u64 ((b.natAbs : Nat) : Int)))] 0 0)] ?_
 refine T.seq ?_
 refine sR [] ?_
 by_cases hq1 : (decide (a < 0)) ≠ (decide (b < 0))
 ·have hpr := prod_no hq1; have hpn := prodN_no hq1
  refine cT (dT hq1) ?_
  by_cases hq2 : ((a.natAbs * b.natAbs / 18446744073709551616 : Nat) : Int) = 0
  ·have hz9 := hq2
   refine sR [hR 1 rfl rfl (r_conv (u := .int .u64 ((a.natAbs * b.natAbs % 18446744073709551616 : Nat) : Int)) (v := .int .i64 (toI64 (a.natAbs * b.natAbs % 18446744073709551616))) (c_i64 (by omega) Try.underlying64 Try.underlying2) (lt_of rfl) trivial),
     hR 2 rfl rfl (r_un (u := .int .i64 (toI64 (a.natAbs * b.natAbs % 18446744073709551616))) (v := .int .i64 (IntKind.i64.wrap (0 - (toI64 (a.natAbs * b.natAbs % 18446744073709551616))))) (u_neg rfl) (lt_of rfl) trivial),
     hY 6 (dT hq2),
     hY 7 (dT hq2),
     hP 8 (dT hq2)] ?_
   refine T.ret (rT ?_)
   exact eX [.t 4 (.one (dI (IntKind.i64.wrap (0 - (toI64 (a.natAbs * b.natAbs % 18446744073709551616)))))), .t 5 (.one (dB (decide (((a.natAbs * b.natAbs % 18446744073709551616 : Nat) : Int) ≤ 9223372036854775808))))] ⟨⟨rfl, by kernel_rfl⟩, ⟨⟨rfl, by kernel_rfl⟩, trivial⟩⟩ [] (by have e1 : (prodN a b : Int) = IntKind.i64.wrap (0 - (toI64 (a.natAbs * b.natAbs % 18446744073709551616))) := (by (exact hpn)); have e2 : ((decide (inR (a * b))) : Bool) = (decide (((a.natAbs * b.natAbs % 18446744073709551616 : Nat) : Int) ≤ 9223372036854775808)) := (by ((rw [decide_eq_decide]; exact hpr.trans ⟨fun h9 => h9.2, fun h9 => ⟨hz9, h9⟩⟩))); have hE := congr (congrArg (fun (q1 : Int) (q2 : Bool) => (.tup [.one (dI q1), .one (dB q2)] : AV)) e1) e2; exact hE) trivial
  have hz9 := hq2
  refine sR [hR 1 rfl rfl (r_conv (u := .int .u64 ((a.natAbs * b.natAbs % 18446744073709551616 : Nat) : Int)) (v := .int .i64 (toI64 (a.natAbs * b.natAbs % 18446744073709551616))) (c_i64 (by omega) Try.underlying64 Try.underlying2) (lt_of rfl) trivial),
    hR 2 rfl rfl (r_un (u := .int .i64 (toI64 (a.natAbs * b.natAbs % 18446744073709551616))) (v := .int .i64 (IntKind.i64.wrap (0 - (toI64 (a.natAbs * b.natAbs % 18446744073709551616))))) (u_neg rfl) (lt_of rfl) trivial),
    hN 6 true (dF hq2),
    hN 7 true (dF hq2),
    hP 8 (dF hq2)] ?_
  refine T.ret (rT ?_)
  exact eX [.t 4 (.one (dI (IntKind.i64.wrap (0 - (toI64 (a.natAbs * b.natAbs % 18446744073709551616)))))), .t 5 (.one (dB false))] ⟨⟨rfl, by kernel_rfl⟩, ⟨⟨rfl, by kernel_rfl⟩, trivial⟩⟩ [] (cg2 (fun (q1 : Int) (q2 : Bool) => (.tup [.one (dI q1), .one (dB q2)] : AV)) (by (exact hpn)) (by (exact dF (fun h9 => hz9 (hpr.1 h9).1)))) trivial
 have hpr := prod_yes hq1; have hpn := prodN_yes hq1
 refine cF (dF hq1) ?_
 refine T.skip (nT ?_)
 by_cases hq3 : ((a.natAbs * b.natAbs / 18446744073709551616 : Nat) : Int) = 0
 ·have hz9 := hq3
  refine sR [hR 1 rfl rfl (r_conv (u := .int .u64 ((a.natAbs * b.natAbs % 18446744073709551616 : Nat) : Int)) (v := .int .i64 (toI64 (a.natAbs * b.natAbs % 18446744073709551616))) (c_i64 (by omega) Try.underlying64 Try.underlying2) (lt_of rfl) trivial),
    hY 5 (dT hq3),
    hY 6 (dT hq3),
    hP 7 (dT hq3)] ?_
  refine T.ret ?_
  exact eX [.t 4 (.one (dI (toI64 (a.natAbs * b.natAbs % 18446744073709551616)))), .t 5 (.one (dB (decide (((a.natAbs * b.natAbs % 18446744073709551616 : Nat) : Int) < 9223372036854775808))))] ⟨⟨rfl, by kernel_rfl⟩, ⟨⟨rfl, by kernel_rfl⟩, trivial⟩⟩ [] (by have e1 : (prodN a b : Int) = toI64 (a.natAbs * b.natAbs % 18446744073709551616) := (by (exact hpn)); have e2 : ((decide (inR (a * b))) : Bool) = (decide (((a.natAbs * b.natAbs % 18446744073709551616 : Nat) : Int) < 9223372036854775808)) := (by ((rw [decide_eq_decide]; exact hpr.trans ⟨fun h9 => h9.2, fun h9 => ⟨hz9, h9⟩⟩))); have hE := congr (congrArg (fun (q1 : Int) (q2 : Bool) => (.tup [.one (dI q1), .one (dB q2)] : AV)) e1) e2; exact hE) trivial
 have hz9 := hq3
 refine sR [hR 1 rfl rfl (r_conv (u := .int .u64 ((a.natAbs * b.natAbs % 18446744073709551616 : Nat) : Int)) (v := .int .i64 (toI64 (a.natAbs * b.natAbs % 18446744073709551616))) (c_i64 (by omega) Try.underlying64 Try.underlying2) (lt_of rfl) trivial),
   hN 5 true (dF hq3),
   hN 6 true (dF hq3),
   hP 7 (dF hq3)] ?_
 refine T.ret ?_
 exact eX [.t 4 (.one (dI (toI64 (a.natAbs * b.natAbs % 18446744073709551616)))), .t 5 (.one (dB false))] ⟨⟨rfl, by kernel_rfl⟩, ⟨⟨rfl, by kernel_rfl⟩, trivial⟩⟩ [] (cg2 (fun (q1 : Int) (q2 : Bool) => (.tup [.one (dI q1), .one (dB q2)] : AV)) (by (exact hpn)) (by (exact dF (fun h9 => hz9 (hpr.1 h9).1)))) trivial
abbrev Z1n : TV := .one (dI 0)
abbrev Z1o : TV := .one (dI 41)
theorem value_ints (op : Int) (a : Int) (b : Int) (ha : inR a) (hb : inR b) (ho : okOp op) : Holds Try.prog 54 ⟨[vI op, vI a, vI b], [], .tup [.one (dI (intsN op a b)), .one (dI (intsE op a b))], []⟩ := by
 refine Holds.of Try.func54 rfl (N := 74) Try.ntmps54 rfl fun w0 B0 S0 U0 => ?_
 show T _ (mkBase 74 0 w0 S0 U0 B0) ⟨[vI op, vI a, vI b], []⟩ _ _
 refine sR [] ?_
 refine sR [] ?_
 refine T.seq ?_
 refine sR [] ?_
 refine T.block ?_
 refine sR [] ?_
 by_cases hq1 : op = 4
 ·refine cT (dT hq1) ?_
  refine sR [hR 2 rfl rfl (r_bin (u1 := .int .i64 a) (u2 := .int .i64 b) (v := .int .i64 (IntKind.i64.wrap (a + b))) (b_add rfl) (lt_of rfl) trivial)] ?_
  by_cases hq2 : (decide ((IntKind.i64.wrap (a + b)) > a)) = (decide (b > 0))
  ·refine xR [hN 7 false (dT hq2),
     hN 8 false (dT hq2),
     hP 9 (dT hq2)] (by kernel_rfl) (by kernel_rfl) ?_
   refine nB ?_
   refine nT (T.seq ?_)
   refine sR [] ?_
   refine cF (b := (!true)) rfl ?_
   refine T.skip (nT ?_)
   refine sR [] ?_
   refine T.ret ?_
   exact eX [.t 6 (.one (dI (IntKind.i64.wrap (a + b)))), .t 7 (Z1n)] ⟨⟨rfl, by kernel_rfl⟩, ⟨⟨rfl, by kernel_rfl⟩, trivial⟩⟩ [] (by have e1 : (intsN op a b : Int) = IntKind.i64.wrap (a + b) := (by ((have hop : op = 4 := ‹_›; subst hop; have hx9 := add_ok ha hb (by (left; assumption)); (have hr9 := res_yes hx9; have hs9 := ints_4 a b; (rw [hs9.1, hr9.1, wrap_of ‹_›]))))); have e2 : (intsE op a b : Int) = 0 := (by ((have hop : op = 4 := ‹_›; subst hop; have hx9 := add_ok ha hb (by (left; assumption)); (have hr9 := res_yes hx9; have hs9 := ints_4 a b; exact hs9.2.trans hr9.2)))); have hE := congr (congrArg (fun (q1 : Int) (q2 : Int) => (.tup [.one (dI q1), .one (dI q2)] : AV)) e1) e2; exact hE) trivial
  refine xR [hY 7 (dF hq2),
    hY 8 (dF hq2),
    hP 9 (dF hq2)] (by kernel_rfl) (by kernel_rfl) ?_
  refine nB ?_
  refine nT (T.seq ?_)
  refine sR [] ?_
  by_cases hq3 : b = 0
  ·refine cF (cn (dT hq3)) ?_
   refine T.skip (nT ?_)
   refine sR [] ?_
   refine T.ret ?_
   exact eX [.t 6 (.one (dI (IntKind.i64.wrap (a + b)))), .t 7 (Z1n)] ⟨⟨rfl, by kernel_rfl⟩, ⟨⟨rfl, by kernel_rfl⟩, trivial⟩⟩ [] (by have e1 : (intsN op a b : Int) = IntKind.i64.wrap (a + b) := (by ((have hop : op = 4 := ‹_›; subst hop; have hx9 := add_ok ha hb (by (right; assumption)); (have hr9 := res_yes hx9; have hs9 := ints_4 a b; (rw [hs9.1, hr9.1, wrap_of ‹_›]))))); have e2 : (intsE op a b : Int) = 0 := (by ((have hop : op = 4 := ‹_›; subst hop; have hx9 := add_ok ha hb (by (right; assumption)); (have hr9 := res_yes hx9; have hs9 := ints_4 a b; exact hs9.2.trans hr9.2)))); have hE := congr (congrArg (fun (q1 : Int) (q2 : Int) => (.tup [.one (dI q1), .one (dI q2)] : AV)) e1) e2; exact hE) trivial
  refine cT (cn (dF hq3)) ?_
  refine sR [] ?_
  refine T.ret (rT ?_)
  exact eX [.t 6 (Z1n), .t 7 (Z1o)] ⟨⟨rfl, by kernel_rfl⟩, ⟨⟨rfl, by kernel_rfl⟩, trivial⟩⟩ [] (cg2 (fun (q1 : Int) (q2 : Int) => (.tup [.one (dI q1), .one (dI q2)] : AV)) (by ((have hop : op = 4 := ‹_›; subst hop; have hx9 := add_no ha hb ‹_› ‹_›; (have hr9 := res_no hx9; have hs9 := ints_4 a b; exact hs9.1.trans hr9.1)))) (by ((have hop : op = 4 := ‹_›; subst hop; have hx9 := add_no ha hb ‹_› ‹_›; (have hr9 := res_no hx9; have hs9 := ints_4 a b; exact hs9.2.trans hr9.2))))) trivial
 refine cF (dF hq1) ?_
 refine sR [] ?_
 by_cases hq4 : op = 5
 ·refine cT (dT hq4) ?_
  refine sR [hR 2 rfl rfl (r_bin (u1 := .int .i64 a) (u2 := .int .i64 b) (v := .int .i64 (IntKind.i64.wrap (a - b))) (b_sub rfl) (lt_of rfl) trivial)] ?_
  by_cases hq5 : (decide ((IntKind.i64.wrap (a - b)) < a)) = (decide (b > 0))
  ·refine xR [hN 7 false (dT hq5),
     hN 8 false (dT hq5),
     hP 9 (dT hq5)] (by kernel_rfl) (by kernel_rfl) ?_
   refine nB ?_
   refine nT (T.seq ?_)
   refine sR [] ?_
   refine cF (b := (!true)) rfl ?_
   refine T.skip (nT ?_)
   refine sR [] ?_
   refine T.ret ?_
   exact eX [.t 6 (.one (dI (IntKind.i64.wrap (a - b)))), .t 7 (Z1n)] ⟨⟨rfl, by kernel_rfl⟩, ⟨⟨rfl, by kernel_rfl⟩, trivial⟩⟩ [] (by have e1 : (intsN op a b : Int) = IntKind.i64.wrap (a - b) := (by ((have hop : op = 5 := ‹_›; subst hop; have hx9 := sub_ok ha hb (by (left; assumption)); (have hr9 := res_yes hx9; have hs9 := ints_5 a b; (rw [hs9.1, hr9.1, wrap_of ‹_›]))))); have e2 : (intsE op a b : Int) = 0 := (by ((have hop : op = 5 := ‹_›; subst hop; have hx9 := sub_ok ha hb (by (left; assumption)); (have hr9 := res_yes hx9; have hs9 := ints_5 a b; exact hs9.2.trans hr9.2)))); have hE := congr (congrArg (fun (q1 : Int) (q2 : Int) => (.tup [.one (dI q1), .one (dI q2)] : AV)) e1) e2; exact hE) trivial
  refine xR [hY 7 (dF hq5),
    hY 8 (dF hq5),
    hP 9 (dF hq5)] (by kernel_rfl) (by kernel_rfl) ?_
  refine nB ?_
  refine nT (T.seq ?_)
  refine sR [] ?_
  by_cases hq6 : b = 0
  ·refine cF (cn (dT hq6)) ?_
   refine T.skip (nT ?_)
   refine sR [] ?_
   refine T.ret ?_
   exact eX [.t 6 (.one (dI (IntKind.i64.wrap (a - b)))), .t 7 (Z1n)] ⟨⟨rfl, by kernel_rfl⟩, ⟨⟨rfl, by kernel_rfl⟩, trivial⟩⟩ [] (by have e1 : (intsN op a b : Int) = IntKind.i64.wrap (a - b) := (by ((have hop : op = 5 := ‹_›; subst hop; have hx9 := sub_ok ha hb (by (right; assumption)); (have hr9 := res_yes hx9; have hs9 := ints_5 a b; (rw [hs9.1, hr9.1, wrap_of ‹_›]))))); have e2 : (intsE op a b : Int) = 0 := (by ((have hop : op = 5 := ‹_›; subst hop; have hx9 := sub_ok ha hb (by (right; assumption)); (have hr9 := res_yes hx9; have hs9 := ints_5 a b; exact hs9.2.trans hr9.2)))); have hE := congr (congrArg (fun (q1 : Int) (q2 : Int) => (.tup [.one (dI q1), .one (dI q2)] : AV)) e1) e2; exact hE) trivial
  refine cT (cn (dF hq6)) ?_
  refine sR [] ?_
  refine T.ret (rT ?_)
  exact eX [.t 6 (Z1n), .t 7 (Z1o)] ⟨⟨rfl, by kernel_rfl⟩, ⟨⟨rfl, by kernel_rfl⟩, trivial⟩⟩ [] (cg2 (fun (q1 : Int) (q2 : Int) => (.tup [.one (dI q1), .one (dI q2)] : AV)) (by ((have hop : op = 5 := ‹_›; subst hop; have hx9 := sub_no ha hb ‹_› ‹_›; (have hr9 := res_no hx9; have hs9 := ints_5 a b; exact hs9.1.trans hr9.1)))) (by ((have hop : op = 5 := ‹_›; subst hop; have hx9 := sub_no ha hb ‹_› ‹_›; (have hr9 := res_no hx9; have hs9 := ints_5 a b; exact hs9.2.trans hr9.2))))) trivial
 refine cF (dF hq4) ?_
 refine sR [] ?_
 by_cases hq7 : op = 6
 ·refine cT (dT hq7) ?_
  refine xK [hR 2 rfl rfl (rCa (value_product a b ‹_› ‹_›) Try.func86 [] [(.tmp 43, vI a), (.tmp 44, vI b)] 0 0)] ?_
  refine nB ?_
  refine nT (T.seq ?_)
  refine sR [] ?_
  by_cases hq8 : inR (a * b)
  ·refine cF (cn (dT hq8)) ?_
   refine T.skip (nT ?_)
   refine sR [] ?_
   refine T.ret ?_
   exact eX [.t 6 (.one (dI (prodN a b))), .t 7 (Z1n)] ⟨⟨rfl, by kernel_rfl⟩, ⟨⟨rfl, by kernel_rfl⟩, trivial⟩⟩ [] (by have e1 : (intsN op a b : Int) = prodN a b := (by ((have hop : op = 6 := ‹_›; subst hop; have hx9 := (by assumption : inR (a * b)); (have hr9 := res_yes hx9; have hs9 := ints_6 a b; (rw [hs9.1, hr9.1]; exact (prod_eq ‹_›).symm))))); have e2 : (intsE op a b : Int) = 0 := (by ((have hop : op = 6 := ‹_›; subst hop; have hx9 := (by assumption : inR (a * b)); (have hr9 := res_yes hx9; have hs9 := ints_6 a b; exact hs9.2.trans hr9.2)))); have hE := congr (congrArg (fun (q1 : Int) (q2 : Int) => (.tup [.one (dI q1), .one (dI q2)] : AV)) e1) e2; exact hE) trivial
  refine cT (cn (dF hq8)) ?_
  refine sR [] ?_
  refine T.ret (rT ?_)
  exact eX [.t 6 (Z1n), .t 7 (Z1o)] ⟨⟨rfl, by kernel_rfl⟩, ⟨⟨rfl, by kernel_rfl⟩, trivial⟩⟩ [] (cg2 (fun (q1 : Int) (q2 : Int) => (.tup [.one (dI q1), .one (dI q2)] : AV)) (by ((have hop : op = 6 := ‹_›; subst hop; have hx9 := (by assumption : ¬ inR (a * b)); (have hr9 := res_no hx9; have hs9 := ints_6 a b; exact hs9.1.trans hr9.1)))) (by ((have hop : op = 6 := ‹_›; subst hop; have hx9 := (by assumption : ¬ inR (a * b)); (have hr9 := res_no hx9; have hs9 := ints_6 a b; exact hs9.2.trans hr9.2))))) trivial
 refine cF (dF hq7) ?_
 refine sR [] ?_
 by_cases hq9 : op = 7
 ·refine cT (dT hq9) ?_
  refine T.seq ?_
  refine sR [] ?_
  by_cases hq10 : b = 0
  ·refine cT (dT hq10) ?_
   refine sR [] ?_
   refine T.ret (rT (rB (rT ?_)))
   exact eX [.t 6 (Z1n), .t 7 (.one (dI 42))] ⟨⟨rfl, by kernel_rfl⟩, ⟨⟨rfl, by kernel_rfl⟩, trivial⟩⟩ [] (cg2 (fun (q1 : Int) (q2 : Int) => (.tup [.one (dI q1), .one (dI q2)] : AV)) (by ((have hop : op = 7 := ‹_›; subst hop; exact (ints_70 ‹_›).1))) (by ((have hop : op = 7 := ‹_›; subst hop; exact (ints_70 ‹_›).2)))) trivial
  refine cF (dF hq10) ?_
  refine T.skip (nT ?_)
  by_cases hq11 : a ≠ (-9223372036854775808)
  ·refine xR [hR 2 rfl rfl (r_bin (u1 := .int .i64 a) (u2 := .int .i64 b) (v := .int .i64 (IntKind.i64.wrap (a.tdiv b))) (b_quo ‹_› rfl) (lt_of rfl) trivial),
     hN 6 false (dT hq11),
     hN 7 false (dT hq11),
     hP 8 (dT hq11)] (by kernel_rfl) (by kernel_rfl) ?_
   refine nB ?_
   refine nT (T.seq ?_)
   refine sR [] ?_
   refine cF (b := (!true)) rfl ?_
   refine T.skip (nT ?_)
   refine sR [] ?_
   refine T.ret ?_
   exact eX [.t 6 (.one (dI (IntKind.i64.wrap (a.tdiv b)))), .t 7 (Z1n)] ⟨⟨rfl, by kernel_rfl⟩, ⟨⟨rfl, by kernel_rfl⟩, trivial⟩⟩ [] (by have e1 : (intsN op a b : Int) = IntKind.i64.wrap (a.tdiv b) := (by ((have hop : op = 7 := ‹_›; subst hop; have hx9 := div_ok ha ‹_› (by (left; assumption)); (have hr9 := res_yes hx9; have hs9 := ints_7 (a := a) ‹_›; (rw [hs9.1, hr9.1, wrap_of ‹_›]))))); have e2 : (intsE op a b : Int) = 0 := (by ((have hop : op = 7 := ‹_›; subst hop; have hx9 := div_ok ha ‹_› (by (left; assumption)); (have hr9 := res_yes hx9; have hs9 := ints_7 (a := a) ‹_›; exact hs9.2.trans hr9.2)))); have hE := congr (congrArg (fun (q1 : Int) (q2 : Int) => (.tup [.one (dI q1), .one (dI q2)] : AV)) e1) e2; exact hE) trivial
  refine xR [hR 2 rfl rfl (r_bin (u1 := .int .i64 a) (u2 := .int .i64 b) (v := .int .i64 (IntKind.i64.wrap (a.tdiv b))) (b_quo ‹_› rfl) (lt_of rfl) trivial),
    hY 6 (dF hq11),
    hY 7 (dF hq11),
    hP 8 (dF hq11)] (by kernel_rfl) (by kernel_rfl) ?_
  refine nB ?_
  refine nT (T.seq ?_)
  refine sR [] ?_
  by_cases hq12 : b ≠ (-1)
  ·refine cF (cn (dT hq12)) ?_
   refine T.skip (nT ?_)
   refine sR [] ?_
   refine T.ret ?_
   exact eX [.t 6 (.one (dI (IntKind.i64.wrap (a.tdiv b)))), .t 7 (Z1n)] ⟨⟨rfl, by kernel_rfl⟩, ⟨⟨rfl, by kernel_rfl⟩, trivial⟩⟩ [] (by have e1 : (intsN op a b : Int) = IntKind.i64.wrap (a.tdiv b) := (by ((have hop : op = 7 := ‹_›; subst hop; have hx9 := div_ok ha ‹_› (by (right; assumption)); (have hr9 := res_yes hx9; have hs9 := ints_7 (a := a) ‹_›; (rw [hs9.1, hr9.1, wrap_of ‹_›]))))); have e2 : (intsE op a b : Int) = 0 := (by ((have hop : op = 7 := ‹_›; subst hop; have hx9 := div_ok ha ‹_› (by (right; assumption)); (have hr9 := res_yes hx9; have hs9 := ints_7 (a := a) ‹_›; exact hs9.2.trans hr9.2)))); have hE := congr (congrArg (fun (q1 : Int) (q2 : Int) => (.tup [.one (dI q1), .one (dI q2)] : AV)) e1) e2; exact hE) trivial
  refine cT (cn (dF hq12)) ?_
  refine sR [] ?_
  refine T.ret (rT ?_)
  exact eX [.t 6 (Z1n), .t 7 (Z1o)] ⟨⟨rfl, by kernel_rfl⟩, ⟨⟨rfl, by kernel_rfl⟩, trivial⟩⟩ [] (cg2 (fun (q1 : Int) (q2 : Int) => (.tup [.one (dI q1), .one (dI q2)] : AV)) (by ((have hop : op = 7 := ‹_›; subst hop; have hx9 := div_no2 ‹_› ‹_›; (have hr9 := res_no hx9; have hs9 := ints_7 (a := a) ‹_›; exact hs9.1.trans hr9.1)))) (by ((have hop : op = 7 := ‹_›; subst hop; have hx9 := div_no2 ‹_› ‹_›; (have hr9 := res_no hx9; have hs9 := ints_7 (a := a) ‹_›; exact hs9.2.trans hr9.2))))) trivial
 refine cF (dF hq9) ?_
 refine sR [] ?_
 by_cases hq13 : op = 14
 ·refine cT (dT hq13) ?_
  refine xK [hR 2 rfl rfl (r_min (k := .i64) (a := a) (b := b) (lt_of rfl) trivial)] ?_
  refine nB ?_
  refine nT (T.seq ?_)
  refine sR [] ?_
  refine cF (b := (!true)) rfl ?_
  refine T.skip (nT ?_)
  refine sR [] ?_
  refine T.ret ?_
  exact eX [.t 6 (.one (dI (min a b))), .t 7 (Z1n)] ⟨⟨rfl, by kernel_rfl⟩, ⟨⟨rfl, by kernel_rfl⟩, trivial⟩⟩ [] (by have e1 : (intsN op a b : Int) = min a b := (by ((rw [intsN, if_neg (by omega), if_neg (by omega), if_neg (by omega), if_neg (by omega), if_pos (by omega)]))); have e2 : (intsE op a b : Int) = 0 := (by ((rw [intsE, if_neg (by omega), if_neg (by omega), if_neg (by omega), if_neg (by omega)]))); have hE := congr (congrArg (fun (q1 : Int) (q2 : Int) => (.tup [.one (dI q1), .one (dI q2)] : AV)) e1) e2; exact hE) trivial
 refine cF (dF hq13) ?_
 refine sR [] ?_
 by_cases hq14 : op = 15
 ·refine cT (dT hq14) ?_
  refine xK [hR 2 rfl rfl (r_max (k := .i64) (a := a) (b := b) (lt_of rfl) trivial)] ?_
  refine nB ?_
  refine nT (T.seq ?_)
  refine sR [] ?_
  refine cF (b := (!true)) rfl ?_
  refine T.skip (nT ?_)
  refine sR [] ?_
  refine T.ret ?_
  exact eX [.t 6 (.one (dI (max a b))), .t 7 (Z1n)] ⟨⟨rfl, by kernel_rfl⟩, ⟨⟨rfl, by kernel_rfl⟩, trivial⟩⟩ [] (by have e1 : (intsN op a b : Int) = max a b := (by ((rw [intsN, if_neg (by omega), if_neg (by omega), if_neg (by omega), if_neg (by omega), if_neg (by omega)]))); have e2 : (intsE op a b : Int) = 0 := (by ((rw [intsE, if_neg (by omega), if_neg (by omega), if_neg (by omega), if_neg (by omega)]))); have hE := congr (congrArg (fun (q1 : Int) (q2 : Int) => (.tup [.one (dI q1), .one (dI q2)] : AV)) e1) e2; exact hE) trivial
 exact absurd ho (by unfold okOp; omega)
end Go.Proofs.Ytlabmehgcfgigaa.Q
