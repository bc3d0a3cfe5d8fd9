import Derived.Test.YtalapplihdmenaaGreatC13n4
namespace Go.Proofs.YtalapplihdmenaaGreat.Q
open Go Go.RowKit
set_option linter.unusedVariables false
set_option linter.unusedSimpArgs false
set_option maxRecDepth 100000
set_option maxHeartbeats 4000000
theorem wire_PutInt (tb : Bool) (nb : Bool) (b : List UInt8) (n : Int) (hb : b.length ≤ 140737488355000) : Holds Tryz.prog 121 ⟨[slV tb nb kU8 b, vI n], [], ownV 0 kU8 0 (b ++ intB n).length, [.live (arrK 5 kU8 (b ++ intB n))]⟩ := by
 refine Holds.of Tryz.func121 rfl (N := 9) Tryz.ntmps121 rfl fun w0 B0 S0 U0 => ?_
 show T _ (mkBase 9 0 w0 S0 U0 B0) ⟨[slV tb nb kU8 b, vI n], []⟩ _ _
 have hn := u64_lt n
 refine sR [] ?_
 refine sR [hR 2 rfl rfl (r_conv (u := .int .i64 n) (v := .int .u64 ((u64 n : Nat) : Int)) (c_u64 Tryz.underlying2 Tryz.underlying120) (lt_of rfl) trivial),
   hR 3 rfl rfl (rCa (wire_spell tb nb b (u64 n) 7 ‹_› ‹_› (by omega)) Tryz.func130 [0] [(.tmp 5, slV tb nb kU8 b), (.tmp 7, dv (.int .u64 ((u64 n : Nat) : Int))), (.const (.int .i64 8), vI 8)] 0 1)] ?_
 refine T.ret ?_
 exact eRt 4 (.one (.own 0 kU8.sz 0 (b ++ (spellB (u64 n) 8)).length)) [0] (congrArg (fun (q1 : Nat) => (ownV 0 kU8 0 q1 : AV)) (by rfl)) ⟨⟨rfl, (by have e1 : (b ++ (spellB (u64 n) 8) : List UInt8) = b ++ intB n := (by rfl); have hE := congrArg (fun (q1 : List UInt8) => (.live (arrK 5 kU8 q1) : HS)) e1; exact Eq.trans (by kernel_rfl) hE)⟩, trivial⟩
theorem wire_PutCount (tb : Bool) (nb : Bool) (b : List UInt8) (n : Int) (hb : b.length ≤ 140737488355000) : Holds Tryz.prog 122 ⟨[slV tb nb kU8 b, vI n], [], ownV 0 kU8 0 (b ++ cntB n).length, [.live (arrK 5 kU8 (b ++ cntB n))]⟩ := by
 refine Holds.of Tryz.func122 rfl (N := 11) Tryz.ntmps122 rfl fun w0 B0 S0 U0 => ?_
 show T _ (mkBase 11 0 w0 S0 U0 B0) ⟨[slV tb nb kU8 b, vI n], []⟩ _ _
 have hn := cntN_lt n
 refine sR [] ?_
 refine sR [hR 2 rfl rfl (r_max (k := .i64) (a := n) (b := 0) (lt_of rfl) ⟨rfl, trivial⟩),
   hR 3 rfl rfl (r_min (k := .i64) (a := max n 0) (b := 4294967295) (lt_of rfl) ⟨rfl, trivial⟩),
   hR 4 rfl rfl (r_conv (u := .int .i64 (min (max n 0) 4294967295)) (v := .int .u64 ((cntN n : Nat) : Int)) (c_int Tryz.underlying3 Tryz.underlying120 (by rw [IntKind.wrap_u64]; unfold cntN; omega)) (lt_of rfl) trivial),
   hR 5 rfl rfl (rCa (wire_spell tb nb b (cntN n) 3 ‹_› (by omega) (by omega)) Tryz.func130 [0] [(.tmp 5, slV tb nb kU8 b), (.tmp 9, dv (.int .u64 ((cntN n : Nat) : Int))), (.const (.int .i64 4), vI 4)] 0 1)] ?_
 refine T.ret ?_
 exact eRt 4 (.one (.own 0 kU8.sz 0 (b ++ (spellB (cntN n) 4)).length)) [0] (congrArg (fun (q1 : Nat) => (ownV 0 kU8 0 q1 : AV)) (by rfl)) ⟨⟨rfl, (by have e1 : (b ++ (spellB (cntN n) 4) : List UInt8) = b ++ cntB n := (by rfl); have hE := congrArg (fun (q1 : List UInt8) => (.live (arrK 5 kU8 q1) : HS)) e1; exact Eq.trans (by kernel_rfl) hE)⟩, trivial⟩
theorem wire_PutBytes (tb : Bool) (nb : Bool) (b : List UInt8) (tx : Bool) (nx : Bool) (x : List UInt8) (hb : b.length + x.length ≤ 140737488355000) : Holds Tryz.prog 120 ⟨[slV tb nb kU8 b, slV tx nx kU8 x], [], ownV 0 kU8 0 (b ++ bytesB x).length, [.live (arrK 5 kU8 (b ++ bytesB x))]⟩ := by
 refine Holds.of Tryz.func120 rfl (N := 11) Tryz.ntmps120 rfl fun w0 B0 S0 U0 => ?_
 show T _ (mkBase 11 0 w0 S0 U0 B0) ⟨[slV tb nb kU8 b, slV tx nx kU8 x], []⟩ _ _
 have hcl := cnt_len ((x.length : Nat) : Int)
 refine sR [] ?_
 refine sR [hR 3 rfl rfl (rCa (wire_PutCount tb nb b ((x.length : Nat) : Int) (by omega)) Tryz.func122 [0] [(.tmp 5, slV tb nb kU8 b), (.tmp 7, vI ((x.length : Nat) : Int))] 0 1),
   hR 5 rfl rfl (q_appendO 0 1 5 1 kU8 kU8_ok (b ++ cntB ((x.length : Nat) : Int)) x (b ++ cntB ((x.length : Nat) : Int) ++ x) (b ++ cntB ((x.length : Nat) : Int)).length (sy := (.d (dsl tx nx kU8 x))) (rhs := []) elem_33 (by omega) (src_sl tx nx kU8 x) (by rw [List.take_length]) (by (simp [maxLen, -List.getD_eq_getElem?_getD] <;> omega)) (by (simp [maxLen, -List.getD_eq_getElem?_getD] <;> omega)) (lt_of rfl) trivial)] ?_
 refine T.ret ?_
 exact eRt 4 (.one (.own 1 kU8.sz 0 (b ++ cntB ((x.length : Nat) : Int) ++ x).length)) [1] (by have e1 : ((b ++ bytesB x).length : Nat) = (b ++ cntB ((x.length : Nat) : Int) ++ x).length := (by (simp only [bytesB, List.append_assoc])); have hE := congrArg (fun (q1 : Nat) => (ownV 1 kU8 0 q1 : AV)) e1; exact hE) ⟨⟨rfl, (by have e1 : (b ++ cntB ((x.length : Nat) : Int) ++ x : List UInt8) = b ++ bytesB x := (by (simp only [bytesB, List.append_assoc])); have hE := congrArg (fun (q1 : List UInt8) => (.live (arrK 5 kU8 q1) : HS)) e1; exact Eq.trans (by kernel_rfl) hE)⟩, trivial⟩
abbrev Z1p (n : Nat) : AV := dv (.int .u64 ((n : Nat) : Int))
abbrev Z1q (m : Nat) : AV := vI ((m : Nat) : Int)
abbrev Z1r (n : Nat) (j : Nat) : SV := .d (.val (.int .u8 (((UInt8.ofNat (n / 2 ^ (8 * (((j : Nat) : Int) - 1)).toNat)).toNat : Nat) : Int)))
theorem ref01_bits (tb : Bool) (nb : Bool) (b : List UInt8) (n : Nat) (m : Nat) (hb : b.length ≤ 140737488355000) (hn : n < 18446744073709551616) (hm : m ≤ 8) : Holds Tryz.prog 66 ⟨[slV tb nb kU8 b, dv (.int .u64 ((n : Nat) : Int)), vI ((m : Nat) : Int)], [], ownV 0 kU8 0 (b ++ (spellB n m)).length, [.live (arrK 5 kU8 (b ++ (spellB n m)))]⟩ := by
 refine Holds.of Tryz.func66 rfl (N := 27) Tryz.ntmps66 rfl fun w0 B0 S0 U0 => ?_
 show T _ (mkBase 27 0 w0 S0 U0 B0) ⟨[slV tb nb kU8 b, (Z1p n), (Z1q m)], []⟩ _ _
 refine sR [] ?_
 refine sR [hR 0 rfl rfl (q_buildSlice 0 5 kU8 kU8_ok ([] : List UInt8) [] (cs := []) Tryz.underlying33 iat_5 rfl zero_5 rfl rfl rfl (Nat.le_of_ble_eq_true rfl) part_ok (by kernel_rfl) (wk_eq (by kernel_rfl)) (lt_of rfl) trivial),
   hR 2 rfl rfl (q_appendO 0 1 5 1 kU8 kU8_ok ([] : List UInt8) b b ([] : List UInt8).length (sy := (.d (dsl tb nb kU8 b))) (rhs := []) elem_33 (by omega) (src_sl tb nb kU8 b) (by simp) (by (simp [maxLen, -List.getD_eq_getElem?_getD] <;> omega)) (by (simp [maxLen, -List.getD_eq_getElem?_getD] <;> omega)) (lt_of rfl) trivial)] ?_
 refine T.seq ?_
 refine sR [hR 1 rfl rfl (r_bin (u1 := .int .i64 ((m : Nat) : Int)) (u2 := .int .i64 1) (v := .int .i64 (((m : Nat) : Int) - 1)) (b_sub (by rw [IntKind.wrap_i64]; omega)) (lt_of rfl) ⟨rfl, trivial⟩)] ?_
 refine T.block ?_
 refine T.loop (ι := Nat × (List UInt8)) (fun (x_ : Nat × (List UInt8)) => ⟨[slV tb nb kU8 b, (Z1p n), (Z1q m), aa, aa, aa, dv (.slice none 0 0), ownV 1 kU8 0 x_.2.length, vI (((x_.1 : Nat) : Int) - 1)], [.dead, .live (arrK 5 kU8 x_.2)]⟩) (fun (x_ : Nat × (List UInt8)) => (x_.1 ≤ m) ∧ (x_.2 ++ spellB n x_.1 = b ++ spellB n m)) (fun (x_ : Nat × (List UInt8)) => x_.1) (m, b) ⟨(Nat.le_refl _), rfl⟩ (fun _ _ hG => Gs.i2 [3, 1] (bm 9 455) (t1 := [slV tb nb kU8 b, (Z1p n), (Z1q m), aa, aa, aa, dv (.slice none 0 0), ownV 1 kU8 0 b.length, vI (((m : Nat) : Int) - 1)]) (h1 := [.dead, .live (arrK 5 kU8 b)]) rfl rfl hG) ?_
 rintro ⟨j, acc⟩ ⟨hj, he⟩
 show T _ _ ⟨[slV tb nb kU8 b, (Z1p n), (Z1q m), aa, aa, aa, dv (.slice none 0 0), ownV 1 kU8 0 acc.length, vI (((j : Nat) : Int) - 1)], [.dead, .live (arrK 5 kU8 acc)]⟩ _ _
 replace hj : j ≤ m := hj
 replace he : acc ++ spellB n j = b ++ spellB n m := he
 have hacc := spell_lenE he
 refine T.seq ?_
 refine sR [] ?_
 by_cases hq1 : (((j : Nat) : Int) - 1) ≥ 0
 ·refine cT (dT hq1) ?_
  refine T.skip (nT (T.seq ?_))
  refine T.block ?_
  refine xR [hR 3 rfl rfl (r_bin (u1 := .int .i64 8) (u2 := .int .i64 (((j : Nat) : Int) - 1)) (v := .int .i64 (8 * (((j : Nat) : Int) - 1))) (b_mul (by rw [IntKind.wrap_i64]; omega)) (lt_of rfl) ⟨rfl, trivial⟩),
    hR 4 rfl rfl (r_bin (u1 := .int .u64 ((n : Nat) : Int)) (u2 := .int .i64 (8 * (((j : Nat) : Int) - 1))) (v := .int .u64 ((n / 2 ^ (8 * (((j : Nat) : Int) - 1)).toNat : Nat) : Int)) (b_shrN (n := (8 * (((j : Nat) : Int) - 1)).toNat) (by omega) (Nat.le_trans (by omega) (by decide : 64 ≤ _))) (lt_of rfl) trivial),
    hR 5 rfl rfl (r_conv (u := .int .u64 ((n / 2 ^ (8 * (((j : Nat) : Int) - 1)).toNat : Nat) : Int)) (v := .int .u8 (((UInt8.ofNat (n / 2 ^ (8 * (((j : Nat) : Int) - 1)).toNat)).toNat : Nat) : Int)) (c_byte Tryz.underlying120 Tryz.underlying5) (lt_of rfl) trivial),
    hR 6 rfl rfl (q_buildSlice 2 5 kU8 kU8_ok [(UInt8.ofNat (n / 2 ^ (8 * (((j : Nat) : Int) - 1)).toNat))] [⟨0, .tmp 23, .one ((Z1r n j)), 0⟩] (cs := [(Z1r n j)]) Tryz.underlying33 iat_5 rfl zero_5 rfl rfl rfl (Nat.le_of_ble_eq_true rfl) (part_cons rfl rfl (Nat.le_of_ble_eq_true rfl) part_ok) (by kernel_rfl) (wk_eq (by kernel_rfl)) (lt_of rfl) trivial),
    hR 7 rfl rfl (q_appendO 1 3 5 1 kU8 kU8_ok acc [(UInt8.ofNat (n / 2 ^ (8 * (((j : Nat) : Int) - 1)).toNat))] (acc ++ [(UInt8.ofNat (n / 2 ^ (8 * (((j : Nat) : Int) - 1)).toNat))]) acc.length (sy := (.own 2 kU8.sz 0 [(UInt8.ofNat (n / 2 ^ (8 * (((j : Nat) : Int) - 1)).toNat))].length)) (rhs := [(2, .live (arrK 5 kU8 [(UInt8.ofNat (n / 2 ^ (8 * (((j : Nat) : Int) - 1)).toNat))]))]) elem_33 (by omega) (src_own 2 5 kU8 [(UInt8.ofNat (n / 2 ^ (8 * (((j : Nat) : Int) - 1)).toNat))]) (by rw [List.take_length]) (by (simp [maxLen, -List.getD_eq_getElem?_getD] <;> omega)) (by (simp [maxLen, -List.getD_eq_getElem?_getD] <;> omega)) (lt_of rfl) trivial)] (by kernel_rfl) (by kernel_rfl) ?_
  refine nB ?_
  refine nT ?_
  refine xK [hR 1 rfl rfl (r_bin (u1 := .int .i64 (((j : Nat) : Int) - 1)) (u2 := .int .i64 1) (v := .int .i64 ((((j : Nat) : Int) - 1) - 1)) (b_sub (by rw [IntKind.wrap_i64]; omega)) (lt_of rfl) ⟨rfl, trivial⟩)] ?_
  refine nL (j - 1, acc ++ [UInt8.ofNat (n / 2 ^ (8 * (((j : Nat) : Int) - 1)).toNat)]) ⟨(show (j - 1) ≤ m from (by omega)), (show (acc ++ [UInt8.ofNat (n / 2 ^ (8 * (((j : Nat) : Int) - 1)).toNat)]) ++ spellB n (j - 1) = b ++ spellB n m from (spell_stepI he (by omega)))⟩ (show ((j - 1) : Nat) < j from (by omega)) (fun _ _ hG => Gs.i2 [5, 3] (bm 9 455) (t1 := [slV tb nb kU8 b, (Z1p n), (Z1q m), aa, aa, aa, dv (.slice none 0 0), ownV 3 kU8 0 (acc ++ [UInt8.ofNat (n / 2 ^ (8 * (((j : Nat) : Int) - 1)).toNat)]).length, vI (((j - 1 : Nat) : Int) - 1)]) (t2 := [slV tb nb kU8 b, (Z1p n), (Z1q m), aa, aa, aa, dv (.slice none 0 0), ownV 3 kU8 0 (acc ++ [(UInt8.ofNat (n / 2 ^ (8 * (((j : Nat) : Int) - 1)).toNat))]).length, vI ((((j : Nat) : Int) - 1) - 1)]) (h1 := [.dead, .live (arrK 5 kU8 (acc ++ [UInt8.ofNat (n / 2 ^ (8 * (((j : Nat) : Int) - 1)).toNat)]))]) (h2 := [.dead, .live (arrK 5 kU8 (acc ++ [(UInt8.ofNat (n / 2 ^ (8 * (((j : Nat) : Int) - 1)).toNat))]))]) (cg2 (fun (q1 : Nat) (q2 : Int) => ([slV tb nb kU8 b, (Z1p n), (Z1q m), aa, aa, aa, dv (.slice none 0 0), ownV 3 kU8 0 q1, vI q2] : List AV)) (by rfl) (by omega)) (congrArg (fun (q1 : List UInt8) => ([.dead, .live (arrK 5 kU8 q1)] : List HS)) (by rfl)) hG)
 refine cF (dF hq1) ?_
 refine T.exit ?_
 refine xT ?_
 refine xT ?_
 refine xH ?_
 refine nT ?_
 refine sR [] ?_
 refine T.ret ?_
 exact eRt 6 (.one (.own 1 kU8.sz 0 acc.length)) [1] (by have e1 : ((b ++ (spellB n m)).length : Nat) = acc.length := (by (rw [spell_end he (by omega)])); have hE := congrArg (fun (q1 : Nat) => (ownV 1 kU8 0 q1 : AV)) e1; exact hE) ⟨⟨rfl, (by have e1 : (acc : List UInt8) = b ++ (spellB n m) := (by (rw [spell_end he (by omega)])); have hE := congrArg (fun (q1 : List UInt8) => (.live (arrK 5 kU8 q1) : HS)) e1; exact Eq.trans (by kernel_rfl) hE)⟩, trivial⟩
theorem ref01_Int (tb : Bool) (nb : Bool) (b : List UInt8) (n : Int) (hb : b.length ≤ 140737488355000) : Holds Tryz.prog 45 ⟨[slV tb nb kU8 b, vI n], [], ownV 0 kU8 0 (b ++ intB n).length, [.live (arrK 5 kU8 (b ++ intB n))]⟩ := by
 refine Holds.of Tryz.func45 rfl (N := 9) Tryz.ntmps45 rfl fun w0 B0 S0 U0 => ?_
 show T _ (mkBase 9 0 w0 S0 U0 B0) ⟨[slV tb nb kU8 b, vI n], []⟩ _ _
 have hn := u64_lt n
 refine sR [] ?_
 refine sR [hR 2 rfl rfl (r_conv (u := .int .i64 n) (v := .int .u64 ((u64 n : Nat) : Int)) (c_u64 Tryz.underlying2 Tryz.underlying120) (lt_of rfl) trivial),
   hR 3 rfl rfl (rCa (ref01_bits tb nb b (u64 n) 8 ‹_› ‹_› (by omega)) Tryz.func66 [0] [(.tmp 5, slV tb nb kU8 b), (.tmp 7, dv (.int .u64 ((u64 n : Nat) : Int))), (.const (.int .i64 8), vI 8)] 0 1)] ?_
 refine T.ret ?_
 exact eRt 4 (.one (.own 0 kU8.sz 0 (b ++ (spellB (u64 n) 8)).length)) [0] (congrArg (fun (q1 : Nat) => (ownV 0 kU8 0 q1 : AV)) (by rfl)) ⟨⟨rfl, (by have e1 : (b ++ (spellB (u64 n) 8) : List UInt8) = b ++ intB n := (by rfl); have hE := congrArg (fun (q1 : List UInt8) => (.live (arrK 5 kU8 q1) : HS)) e1; exact Eq.trans (by kernel_rfl) hE)⟩, trivial⟩
theorem ref01_Count (tb : Bool) (nb : Bool) (b : List UInt8) (n : Int) (hb : b.length ≤ 140737488355000) : Holds Tryz.prog 48 ⟨[slV tb nb kU8 b, vI n], [], ownV 0 kU8 0 (b ++ cntB n).length, [.live (arrK 5 kU8 (b ++ cntB n))]⟩ := by
 refine Holds.of Tryz.func48 rfl (N := 11) Tryz.ntmps48 rfl fun w0 B0 S0 U0 => ?_
 show T _ (mkBase 11 0 w0 S0 U0 B0) ⟨[slV tb nb kU8 b, vI n], []⟩ _ _
 have hn := cntN_lt n
 refine sR [] ?_
 refine sR [hR 2 rfl rfl (r_min (k := .i64) (a := n) (b := 4294967295) (lt_of rfl) ⟨rfl, trivial⟩),
   hR 3 rfl rfl (r_max (k := .i64) (a := 0) (b := min n 4294967295) (lt_of rfl) ⟨rfl, trivial⟩),
   hR 4 rfl rfl (r_conv (u := .int .i64 (max 0 (min n 4294967295))) (v := .int .u64 ((cntN n : Nat) : Int)) (c_int Tryz.underlying3 Tryz.underlying120 (by rw [IntKind.wrap_u64]; unfold cntN; omega)) (lt_of rfl) trivial),
   hR 5 rfl rfl (rCa (ref01_bits tb nb b (cntN n) 4 ‹_› (by omega) (by omega)) Tryz.func66 [0] [(.tmp 5, slV tb nb kU8 b), (.tmp 9, dv (.int .u64 ((cntN n : Nat) : Int))), (.const (.int .i64 4), vI 4)] 0 1)] ?_
 refine T.ret ?_
 exact eRt 4 (.one (.own 0 kU8.sz 0 (b ++ (spellB (cntN n) 4)).length)) [0] (congrArg (fun (q1 : Nat) => (ownV 0 kU8 0 q1 : AV)) (by rfl)) ⟨⟨rfl, (by have e1 : (b ++ (spellB (cntN n) 4) : List UInt8) = b ++ cntB n := (by rfl); have hE := congrArg (fun (q1 : List UInt8) => (.live (arrK 5 kU8 q1) : HS)) e1; exact Eq.trans (by kernel_rfl) hE)⟩, trivial⟩
theorem ref01_Bytes (tb : Bool) (nb : Bool) (b : List UInt8) (tx : Bool) (nx : Bool) (x : List UInt8) (hb : b.length + x.length ≤ 140737488355000) : Holds Tryz.prog 46 ⟨[slV tb nb kU8 b, slV tx nx kU8 x], [], ownV 0 kU8 0 (b ++ bytesB x).length, [.live (arrK 5 kU8 (b ++ bytesB x))]⟩ := by
 refine Holds.of Tryz.func46 rfl (N := 13) Tryz.ntmps46 rfl fun w0 B0 S0 U0 => ?_
 show T _ (mkBase 13 0 w0 S0 U0 B0) ⟨[slV tb nb kU8 b, slV tx nx kU8 x], []⟩ _ _
 have hcl := cnt_len ((x.length : Nat) : Int)
 refine sR [] ?_
 refine sR [hR 3 rfl rfl (rCa (ref01_Count tb nb b ((x.length : Nat) : Int) (by omega)) Tryz.func48 [0] [(.tmp 6, slV tb nb kU8 b), (.tmp 8, vI ((x.length : Nat) : Int))] 0 1)] ?_
 refine sR [hR 2 rfl rfl (q_appendO 0 1 5 1 kU8 kU8_ok (b ++ cntB ((x.length : Nat) : Int)) x (b ++ cntB ((x.length : Nat) : Int) ++ x) (b ++ cntB ((x.length : Nat) : Int)).length (sy := (.d (dsl tx nx kU8 x))) (rhs := []) elem_33 (by omega) (src_sl tx nx kU8 x) (by rw [List.take_length]) (by (simp [maxLen, -List.getD_eq_getElem?_getD] <;> omega)) (by (simp [maxLen, -List.getD_eq_getElem?_getD] <;> omega)) (lt_of rfl) trivial)] ?_
 refine T.ret ?_
 exact eRt 4 (.one (.own 1 kU8.sz 0 (b ++ cntB ((x.length : Nat) : Int) ++ x).length)) [1] (by have e1 : ((b ++ bytesB x).length : Nat) = (b ++ cntB ((x.length : Nat) : Int) ++ x).length := (by (simp only [bytesB, List.append_assoc])); have hE := congrArg (fun (q1 : Nat) => (ownV 1 kU8 0 q1 : AV)) e1; exact hE) ⟨⟨rfl, (by have e1 : (b ++ cntB ((x.length : Nat) : Int) ++ x : List UInt8) = b ++ bytesB x := (by (simp only [bytesB, List.append_assoc])); have hE := congrArg (fun (q1 : List UInt8) => (.live (arrK 5 kU8 q1) : HS)) e1; exact Eq.trans (by kernel_rfl) hE)⟩, trivial⟩
section
variable (tb : Bool) (nb : Bool) (b : List UInt8) (k : Nat)
abbrev Z1s : AV := vI ((b.length : Nat) : Int)
abbrev Z1t : St := ⟨[slV tb nb kU8 b, aa, dv (.int .u64 ((numL (b.take k) : Nat) : Int)), aa, aa, slV tb nb kU8 b, (Z1s b), vI ((k : Nat) : Int)], []⟩
abbrev Z1v : AV := vI ((k + 1 : Nat) : Int)
end
theorem wire_number (tb : Bool) (nb : Bool) (b : List UInt8) (hb : b.length ≤ 8) : Holds Tryz.prog 127 ⟨[slV tb nb kU8 b], [], dv (.int .u64 ((numL b : Nat) : Int)), []⟩ := by
 refine Holds.of Tryz.func127 rfl (N := 18) Tryz.ntmps127 rfl fun w0 B0 S0 U0 => ?_
 show T _ (mkBase 18 0 w0 S0 U0 B0) ⟨[slV tb nb kU8 b], []⟩ _ _
 refine sR [] ?_
 refine T.seq ?_
 refine sR [] ?_
 refine T.block ?_
 refine T.loop (ι := Nat) (fun (k : Nat) => (Z1t tb nb b k)) (fun (k : Nat) => (k ≤ b.length)) (fun (k : Nat) => b.length - k) (0) (Nat.zero_le _) (fun _ _ hG => Gs.iI [] (bm 8 229) (t2 := [slV tb nb kU8 b, aa, dv (.int .u64 0), aa, aa, slV tb nb kU8 b, (Z1s b), vI 0]) (congrArg (fun (q1 : Int) => ([slV tb nb kU8 b, aa, dv (.int .u64 q1), aa, aa, slV tb nb kU8 b, (Z1s b), vI 0] : List AV)) (by rfl)) rfl hG) ?_
 rintro k hk
 show T _ _ (Z1t tb nb b k) _ _
 replace hk : k ≤ b.length := hk
 have hk8 : numL (b.take k) < 18446744073709551616 := numL_lt8 (by simp only [List.length_take]; omega)
 refine sR [] ?_
 refine T.seq ?_
 by_cases hq1 : ((k : Nat) : Int) < ((b.length : Nat) : Int)
 ·have hk7 : numL (b.take k) < 72057594037927936 := numL_lt7 (by simp only [List.length_take]; omega); have hbt := UInt8.toNat_lt (b.getD k 0)
  refine cT (dT hq1) ?_
  refine T.skip (nT (T.seq ?_))
  refine T.block ?_
  refine sR [hR 0 rfl rfl (q_index tb nb kU8 b k (k := .i64) (i := ((k : Nat) : Int)) Tryz.underlying33 iat_5 rfl rfl (by omega) (lt_of rfl) trivial)] ?_
  refine xR [hR 1 rfl rfl (r_bin (u1 := .int .u64 ((numL (b.take k) : Nat) : Int)) (u2 := .int .u64 8) (v := .int .u64 (((numL (b.take k)) * 2 ^ 8 : Nat) : Int)) (b_shlN (n := 8) rfl (Nat.le_trans (by omega) (by decide : 64 ≤ _)) (by (rw [IntKind.wrap_u64]; omega))) (lt_of rfl) ⟨rfl, trivial⟩),
    hR 3 rfl rfl (r_conv (u := .int .u8 (((b.getD k 0).toNat : Nat) : Int)) (v := .int .u64 (((b.getD k 0).toNat : Nat) : Int)) (c_int Tryz.underlying5 Tryz.underlying120 (by (rw [IntKind.wrap_u64]; omega))) (lt_of rfl) trivial),
    hR 4 rfl rfl (r_bin (u1 := .int .u64 (((numL (b.take k)) * 2 ^ 8 : Nat) : Int)) (u2 := .int .u64 (((b.getD k 0).toNat : Nat) : Int)) (v := .int .u64 ((((numL (b.take k)) * 2 ^ 8) ||| (b.getD k 0).toNat : Nat) : Int)) (b_orU (by omega) (by omega)) (lt_of rfl) trivial)] (by kernel_rfl) (by kernel_rfl) ?_
  refine nB ?_
  refine nT ?_
  refine xK [hR 0 rfl rfl (r_bin (u1 := .int .i64 ((k : Nat) : Int)) (u2 := .int .i64 1) (v := .int .i64 ((k + 1 : Nat) : Int)) (b_add (by rw [IntKind.wrap_i64]; omega)) (lt_of rfl) ⟨rfl, trivial⟩)] ?_
  refine nL (k + 1) (show (k + 1) ≤ b.length from (by omega)) (show (b.length - (k + 1) : Nat) < b.length - k from (by omega)) (fun _ _ hG => Gs.iI [] (bm 8 229) (t2 := [slV tb nb kU8 b, aa, dv (.int .u64 ((((numL (b.take k)) * 2 ^ 8) ||| (b.getD k 0).toNat : Nat) : Int)), aa, aa, slV tb nb kU8 b, (Z1s b), (Z1v k)]) (by have e1 : (((numL (b.take (k + 1)) : Nat) : Int) : Int) = ((((numL (b.take k)) * 2 ^ 8) ||| (b.getD k 0).toNat : Nat) : Int) := (by (rw [numL_take (by omega)])); have hE := congrArg (fun (q1 : Int) => ([slV tb nb kU8 b, aa, dv (.int .u64 q1), aa, aa, slV tb nb kU8 b, (Z1s b), (Z1v k)] : List AV)) e1; exact hE) rfl hG)
 refine cF (dF hq1) ?_
 refine T.exit ?_
 refine xT ?_
 refine xT ?_
 refine xH ?_
 refine nT ?_
 refine sR [] ?_
 refine T.ret ?_
 exact eRt 2 (.one (.d (.val (.int .u64 ((numL (b.take k) : Nat) : Int))))) [] (by have e1 : (((numL b : Nat) : Int) : Int) = ((numL (b.take k) : Nat) : Int) := (by (rw [List.take_of_length_le (by omega)])); have hE := congrArg (fun (q1 : Int) => (dv (.int .u64 q1) : AV)) e1; exact hE) trivial
theorem wire_any (tb : Bool) (nb : Bool) (b : List UInt8) : Holds Tryz.prog 115 ⟨[slV tb nb kU8 b], [], vI 0, []⟩ := by
 refine Holds.of Tryz.func115 rfl (N := 3) Tryz.ntmps115 rfl fun w0 B0 S0 U0 => ?_
 show T _ (mkBase 3 0 w0 S0 U0 B0) ⟨[slV tb nb kU8 b], []⟩ _ _
 refine sR [] ?_
 refine sR [] ?_
 refine T.ret ?_
 exact eRt 2 (.one (dI 0)) [] rfl trivial
theorem wire_may (most : Int) (tb : Bool) (nb : Bool) (b : List UInt8) (hb : b.length ≤ 4) : Holds Tryz.prog 128 ⟨[vI most, slV tb nb kU8 b], [], vI (limE most b), []⟩ := by
 refine Holds.of Tryz.func128 rfl (N := 11) Tryz.ntmps128 rfl fun w0 B0 S0 U0 => ?_
 show T _ (mkBase 11 0 w0 S0 U0 B0) ⟨[vI most, slV tb nb kU8 b], []⟩ _ _
 have hnb := numL_lt4 hb
 refine sR [] ?_
 refine T.seq ?_
 refine sR [hR 1 rfl rfl (rCa (wire_number tb nb b (by omega)) Tryz.func127 [] [(.tmp 5, slV tb nb kU8 b)] 0 0),
   hR 2 rfl rfl (r_conv (u := .int .u64 ((numL b : Nat) : Int)) (v := .int .i64 ((numL b : Nat) : Int)) (c_int Tryz.underlying120 Tryz.underlying3 (by rw [IntKind.wrap_i64]; omega)) (lt_of rfl) trivial),
   hR 4 rfl rfl (r_max (k := .i64) (a := most) (b := 0) (lt_of rfl) ⟨rfl, trivial⟩)] ?_
 by_cases hq1 : ((numL b : Nat) : Int) > (max most 0)
 ·refine cT (dT hq1) ?_
  refine sR [] ?_
  refine T.ret (rT ?_)
  exact eRt 4 (.one (dI 11)) [] (by have e1 : (limE most b : Int) = 11 := (by (simp only [limE]; rw [if_pos ‹_›])); have hE := cI e1; exact hE) trivial
 refine cF (dF hq1) ?_
 refine T.skip (nT ?_)
 refine sR [] ?_
 refine T.ret ?_
 exact eRt 4 (.one (dI 0)) [] (by have e1 : (limE most b : Int) = 0 := (by (simp only [limE]; rw [if_neg ‹_›])); have hE := cI e1; exact hE) trivial
theorem wire_New (tb : Bool) (nb : Bool) (b : List UInt8) (hb : b.length ≤ 140737488355328) : Holds Tryz.prog 91 ⟨[slV tb nb kU8 b], [], pv 0 0, [.live (.box 160 [dU b, dI 0])]⟩ := by
 refine Holds.of Tryz.func91 rfl (N := 7) Tryz.ntmps91 rfl fun w0 B0 S0 U0 => ?_
 show T _ (mkBase 7 0 w0 S0 U0 B0) ⟨[slV tb nb kU8 b], []⟩ _ _
 refine sR [] ?_
 refine sR [hR 1 rfl rfl (rCa (clone_u8 tb nb b ‹_›) Tryz.func69 [0] [(.tmp 3, slV tb nb kU8 b)] 0 1)] ?_
 refine T.ret ?_
 refine eN ⟨[slV tb nb kU8 b, aa, pv 1 0], [.live (arrK 5 kU8 b), .live (.box 160 [.own 0 kU8.sz 0 b.length, dI 0])]⟩ ?_
 refine Ends.turn (s' := ⟨[slV tb nb kU8 b, aa, pv 1 0], [.dead, .live (.box 160 [dU b, dI 0])]⟩) (fun _ _ hG => Gs.freeze (s := ⟨[slV tb nb kU8 b, aa, pv 1 0], [.live (arrK 5 kU8 b), .live (.box 160 [.own 0 kU8.sz 0 b.length, dI 0])]⟩) 0 (el := elOf kU8 b) (sz := kU8.sz) (n := b.length) rfl ⟨.inl rfl, (kk2 trivial)⟩ ⟨(.inl ⟨rfl, rfl⟩), ⟨(.inr ⟨by decide, .inr ⟨rfl, ⟨(.inr ⟨rfl, rfl, rfl, (fun h => by cases h), rfl, rfl, Nat.le_of_eq (Nat.zero_add _), fun i j _ => by rw [Nat.zero_add]⟩), ⟨.inl rfl, trivial⟩⟩⟩⟩), trivial⟩⟩ hG) ?_
 exact eRt 2 (.one (.ptr 1 0)) [1] rfl (ix trivial)
theorem cells_33 : Cells Tryz.prog 33 1 := ⟨_, iat_33, rfl⟩
theorem take_any_ok (rest : List UInt8) (e : Int) (n : Int) (hr : rest.length ≤ 140737488355328) (hn : 0 ≤ n) (hc : okT rest e n 0) : Holds Tryz.prog 114 ⟨[pv 0 0, vI n, dv (.func (.func 115) #[] #[])], [.box 160 [dU rest, dI e]], slV false false kU8 (rest.take n.toNat), [.live (.box 160 [dU (rest.drop n.toNat), dI 0])]⟩ := by
 refine Holds.of Tryz.func114 rfl (N := 54) Tryz.ntmps114 rfl fun w0 B0 S0 U0 => ?_
 show T _ (mkBase 54 1 w0 S0 U0 B0) ⟨[pv 0 0, vI n, dv (.func (.func 115) #[] #[])], [.live (.box 160 [dU rest, dI e])]⟩ _ _
 have htl : (rest.take n.toNat).length ≤ n.toNat := List.length_take_le _ _
 obtain ⟨hc1, hc2, hc3⟩ := hc
 have htm : (rest.take n.toNat).length = n.toNat := by rw [List.length_take]; omega
 refine sR [] ?_
 refine T.seq ?_
 refine sR [hY0 3,
   hY0 4,
   hY0 5,
   hY0 6,
   hY0 7,
   hP0 8] ?_
 by_cases hq1 : e ≠ 0
 ·exact absurd hc1 hq1
 refine cF (dF hq1) ?_
 refine T.skip (nT (T.seq ?_))
 refine sR [] ?_
 by_cases hq2 : n > ((rest.length : Nat) : Int)
 ·exact absurd hc2 (by omega)
 refine cF (dF hq2) ?_
 refine T.skip (nT ?_)
 refine sR [hR 5 rfl rfl (q_slice false false kU8 rest (rest.take (n).toNat) 0 (n).toNat (lo := none) (hi := some (.tmp 31, n)) Tryz.underlying33 iat_5 rfl rfl rfl rfl (by omega) (by omega) (by omega) rfl (lt_of rfl) trivial)] ?_
 refine T.seq ?_
 refine sR [hR 3 rfl rfl (r_callV (fs := #[]) (cs := #[]) (wire_any false false (rest.take (n).toNat) ) Tryz.func115 rfl (by decide) [] [] (l := [(.tmp 35, slV false false kU8 (rest.take (n).toNat))]) [] rfl 0 0 rfl rfl rfl rfl rfl rfl rfl rfl rfl rfl rfl ⟨.inl ⟨rfl, rfl⟩, trivial⟩ rfl (fun b hb => by cases hb) (.inl rfl) (lt_of rfl) trivial)] ?_
 refine sR [] ?_
 refine cF (b := false) rfl ?_
 refine T.skip (nT ?_)
 refine sR [hR 6 rfl rfl (q_slice false false kU8 rest (rest.drop (n).toNat) (n).toNat rest.length (lo := some (.tmp 49, n)) (hi := none) Tryz.underlying33 iat_5 rfl rfl rfl (by omega) rfl (by omega) (by omega) (by rw [List.take_length]) (lt_of rfl) trivial)] ?_
 refine sR [] ?_
 refine T.ret ?_
 exact eRt 6 (.one (dU (rest.take (n).toNat))) [0] (congrArg (fun (q1 : List UInt8) => (slV false false kU8 q1 : AV)) (by rfl)) ⟨⟨rfl, (by have e1 : ((rest.drop (n).toNat) : List UInt8) = (rest.drop n.toNat) := (by rfl); have hE := congrArg (fun (q1 : List UInt8) => (.live (.box 160 [dU q1, dI 0]) : HS)) e1; exact Eq.trans (by kernel_rfl) hE)⟩, trivial⟩
theorem take_any_no (rest : List UInt8) (e : Int) (n : Int) (hr : rest.length ≤ 140737488355328) (hn : 0 ≤ n) (hc : ¬ okT rest e n 0) : Holds Tryz.prog 114 ⟨[pv 0 0, vI n, dv (.func (.func 115) #[] #[])], [.box 160 [dU rest, dI e]], dv (.slice none 0 0), [.live (.box 160 [dU rest, dI (rdE rest e n 0)])]⟩ := by
 refine Holds.of Tryz.func114 rfl (N := 54) Tryz.ntmps114 rfl fun w0 B0 S0 U0 => ?_
 show T _ (mkBase 54 1 w0 S0 U0 B0) ⟨[pv 0 0, vI n, dv (.func (.func 115) #[] #[])], [.live (.box 160 [dU rest, dI e])]⟩ _ _
 have htl : (rest.take n.toNat).length ≤ n.toNat := List.length_take_le _ _
 refine sR [] ?_
 refine T.seq ?_
 refine sR [hY0 3,
   hY0 4,
   hY0 5,
   hY0 6,
   hY0 7,
   hP0 8] ?_
 by_cases hq1 : e ≠ 0
 ·refine cT (dT hq1) ?_
  refine sR [] ?_
  refine T.ret (rT ?_)
  exact eRt 6 (.one (.d (.val (.slice none 0 0)))) [0] rfl ⟨⟨rfl, (by have e1 : (e : Int) = (rdE rest e n 0) := (by (simp only [rdE]; rw [if_pos ‹_›])); have hE := congrArg (fun (q1 : Int) => (.live (.box 160 [dU rest, dI q1]) : HS)) e1; exact Eq.trans (by kernel_rfl) hE)⟩, trivial⟩
 refine cF (dF hq1) ?_
 refine T.skip (nT (T.seq ?_))
 refine sR [] ?_
 by_cases hq2 : n > ((rest.length : Nat) : Int)
 ·refine cT (dT hq2) ?_
  refine sR [] ?_
  refine sR [] ?_
  refine T.ret (rT ?_)
  exact eRt 6 (.one (.d (.val (.slice none 0 0)))) [0] rfl ⟨⟨rfl, (by have e1 : (10 : Int) = (rdE rest e n 0) := (by (simp only [rdE]; (rw [if_neg ‹_›]; rw [if_pos ‹_›]))); have hE := congrArg (fun (q1 : Int) => (.live (.box 160 [dU rest, dI q1]) : HS)) e1; exact Eq.trans (by kernel_rfl) hE)⟩, trivial⟩
 exact absurd ⟨by omega, by omega, rfl⟩ hc
theorem take_limit_ok (rest : List UInt8) (e : Int) (n : Int) (most : Int) (hr : rest.length ≤ 140737488355328) (hn : n = 4) (hc : okT rest e n (limE most (rest.take n.toNat))) : Holds Tryz.prog 114 ⟨[pv 0 0, vI n, dv (.func (.func 128) #[.int .i64 most] #[])], [.box 160 [dU rest, dI e]], slV false false kU8 (rest.take n.toNat), [.live (.box 160 [dU (rest.drop n.toNat), dI 0])]⟩ := by
 refine Holds.of Tryz.func114 rfl (N := 54) Tryz.ntmps114 rfl fun w0 B0 S0 U0 => ?_
 show T _ (mkBase 54 1 w0 S0 U0 B0) ⟨[pv 0 0, vI n, dv (.func (.func 128) #[.int .i64 most] #[])], [.live (.box 160 [dU rest, dI e])]⟩ _ _
 have htl : (rest.take n.toNat).length ≤ n.toNat := List.length_take_le _ _
 obtain ⟨hc1, hc2, hc3⟩ := hc
 have htm : (rest.take n.toNat).length = n.toNat := by rw [List.length_take]; omega
 refine sR [] ?_
 refine T.seq ?_
 refine sR [hY0 3,
   hY0 4,
   hY0 5,
   hY0 6,
   hY0 7,
   hP0 8] ?_
 by_cases hq1 : e ≠ 0
 ·exact absurd hc1 hq1
 refine cF (dF hq1) ?_
 refine T.skip (nT (T.seq ?_))
 refine sR [] ?_
 by_cases hq2 : n > ((rest.length : Nat) : Int)
 ·exact absurd hc2 (by omega)
 refine cF (dF hq2) ?_
 refine T.skip (nT ?_)
 refine sR [hR 5 rfl rfl (q_slice false false kU8 rest (rest.take (n).toNat) 0 (n).toNat (lo := none) (hi := some (.tmp 31, n)) Tryz.underlying33 iat_5 rfl rfl rfl rfl (by omega) (by omega) (by omega) rfl (lt_of rfl) trivial)] ?_
 refine T.seq ?_
 refine sR [hR 3 rfl rfl (r_callV (fs := #[.int .i64 most]) (cs := #[]) (wire_may most false false (rest.take (n).toNat) (by omega)) Tryz.func128 rfl (by decide) [] [] (l := [(.tmp 35, slV false false kU8 (rest.take (n).toNat))]) [] rfl 0 0 rfl rfl rfl rfl rfl rfl rfl rfl rfl rfl rfl ⟨.inl ⟨rfl, rfl⟩, ⟨.inl ⟨rfl, rfl⟩, trivial⟩⟩ rfl (fun b hb => by cases hb) (.inl rfl) (lt_of rfl) trivial)] ?_
 refine sR [] ?_
 by_cases hq3 : (limE most (rest.take (n).toNat)) ≠ 0
 ·exact absurd hc3 hq3
 refine cF (dF hq3) ?_
 refine T.skip (nT ?_)
 refine sR [hR 6 rfl rfl (q_slice false false kU8 rest (rest.drop (n).toNat) (n).toNat rest.length (lo := some (.tmp 49, n)) (hi := none) Tryz.underlying33 iat_5 rfl rfl rfl (by omega) rfl (by omega) (by omega) (by rw [List.take_length]) (lt_of rfl) trivial)] ?_
 refine sR [] ?_
 refine T.ret ?_
 exact eRt 6 (.one (dU (rest.take (n).toNat))) [0] (congrArg (fun (q1 : List UInt8) => (slV false false kU8 q1 : AV)) (by rfl)) ⟨⟨rfl, (by have e1 : ((rest.drop (n).toNat) : List UInt8) = (rest.drop n.toNat) := (by rfl); have e2 : (limE most (rest.take (n).toNat) : Int) = 0 := (by exact hc3); have hE := congr (congrArg (fun (q1 : List UInt8) (q2 : Int) => (.live (.box 160 [dU q1, dI q2]) : HS)) e1) e2; exact Eq.trans (by kernel_rfl) hE)⟩, trivial⟩
theorem take_limit_no (rest : List UInt8) (e : Int) (n : Int) (most : Int) (hr : rest.length ≤ 140737488355328) (hn : n = 4) (hc : ¬ okT rest e n (limE most (rest.take n.toNat))) : Holds Tryz.prog 114 ⟨[pv 0 0, vI n, dv (.func (.func 128) #[.int .i64 most] #[])], [.box 160 [dU rest, dI e]], dv (.slice none 0 0), [.live (.box 160 [dU rest, dI (rdE rest e n (limE most (rest.take n.toNat)))])]⟩ := by
 refine Holds.of Tryz.func114 rfl (N := 54) Tryz.ntmps114 rfl fun w0 B0 S0 U0 => ?_
 show T _ (mkBase 54 1 w0 S0 U0 B0) ⟨[pv 0 0, vI n, dv (.func (.func 128) #[.int .i64 most] #[])], [.live (.box 160 [dU rest, dI e])]⟩ _ _
 have htl : (rest.take n.toNat).length ≤ n.toNat := List.length_take_le _ _
 refine sR [] ?_
 refine T.seq ?_
 refine sR [hY0 3,
   hY0 4,
   hY0 5,
   hY0 6,
   hY0 7,
   hP0 8] ?_
 by_cases hq1 : e ≠ 0
 ·refine cT (dT hq1) ?_
  refine sR [] ?_
  refine T.ret (rT ?_)
  exact eRt 6 (.one (.d (.val (.slice none 0 0)))) [0] rfl ⟨⟨rfl, (by have e1 : (e : Int) = (rdE rest e n (limE most (rest.take n.toNat))) := (by (simp only [rdE]; rw [if_pos ‹_›])); have hE := congrArg (fun (q1 : Int) => (.live (.box 160 [dU rest, dI q1]) : HS)) e1; exact Eq.trans (by kernel_rfl) hE)⟩, trivial⟩
 refine cF (dF hq1) ?_
 refine T.skip (nT (T.seq ?_))
 refine sR [] ?_
 by_cases hq2 : n > ((rest.length : Nat) : Int)
 ·refine cT (dT hq2) ?_
  refine sR [] ?_
  refine sR [] ?_
  refine T.ret (rT ?_)
  exact eRt 6 (.one (.d (.val (.slice none 0 0)))) [0] rfl ⟨⟨rfl, (by have e1 : (10 : Int) = (rdE rest e n (limE most (rest.take n.toNat))) := (by (simp only [rdE]; (rw [if_neg ‹_›]; rw [if_pos ‹_›]))); have hE := congrArg (fun (q1 : Int) => (.live (.box 160 [dU rest, dI q1]) : HS)) e1; exact Eq.trans (by kernel_rfl) hE)⟩, trivial⟩
 refine cF (dF hq2) ?_
 refine T.skip (nT ?_)
 refine sR [hR 5 rfl rfl (q_slice false false kU8 rest (rest.take (n).toNat) 0 (n).toNat (lo := none) (hi := some (.tmp 31, n)) Tryz.underlying33 iat_5 rfl rfl rfl rfl (by omega) (by omega) (by omega) rfl (lt_of rfl) trivial)] ?_
 refine T.seq ?_
 refine sR [hR 3 rfl rfl (r_callV (fs := #[.int .i64 most]) (cs := #[]) (wire_may most false false (rest.take (n).toNat) (by omega)) Tryz.func128 rfl (by decide) [] [] (l := [(.tmp 35, slV false false kU8 (rest.take (n).toNat))]) [] rfl 0 0 rfl rfl rfl rfl rfl rfl rfl rfl rfl rfl rfl ⟨.inl ⟨rfl, rfl⟩, ⟨.inl ⟨rfl, rfl⟩, trivial⟩⟩ rfl (fun b hb => by cases hb) (.inl rfl) (lt_of rfl) trivial)] ?_
 refine sR [] ?_
 by_cases hq3 : (limE most (rest.take (n).toNat)) ≠ 0
 ·refine cT (dT hq3) ?_
  refine sR [] ?_
  refine T.ret (rT ?_)
  exact eRt 6 (.one (.d (.val (.slice none 0 0)))) [0] rfl ⟨⟨rfl, (by have e1 : (limE most (rest.take (n).toNat) : Int) = (rdE rest e n (limE most (rest.take n.toNat))) := (by (simp only [rdE]; (rw [if_neg ‹_›]; rw [if_neg ‹_›]))); have hE := congrArg (fun (q1 : Int) => (.live (.box 160 [dU rest, dI q1]) : HS)) e1; exact Eq.trans (by kernel_rfl) hE)⟩, trivial⟩
 exact absurd ⟨by omega, by omega, Classical.not_not.1 hq3⟩ hc
theorem rd_Int (rest : List UInt8) (e : Int) (hr : rest.length ≤ 140737488355328) : Holds Tryz.prog 112 ⟨[pv 0 0], [.box 160 [dU rest, dI e]], vI (rdI rest e), [.live (.box 160 [dU (rdR rest e 8 0), dI (rdE rest e 8 0)])]⟩ := by
 refine Holds.of Tryz.func112 rfl (N := 11) Tryz.ntmps112 rfl fun w0 B0 S0 U0 => ?_
 show T _ (mkBase 11 1 w0 S0 U0 B0) ⟨[pv 0 0], [.live (.box 160 [dU rest, dI e])]⟩ _ _
 have hi8 : numL (rest.take 8) < 18446744073709551616 := numL_lt8 (List.length_take_le _ _)
 refine sR [] ?_
 refine T.seq ?_
 by_cases hq1 : okT rest e 8 0
 ·have hk := id hq1; simp only [okT] at hk
  refine sR [hR 1 rfl rfl (rCa (take_any_ok rest e 8 ‹_› (by omega) ‹_›) Tryz.func114 [0] [(.tmp 4, pv 0 0), (.const (.int .i64 8), vI 8), (.func 115, dv (.func (.func 115) #[] #[]))] 1 1)] ?_
  refine sR [hR 1 rfl rfl (r_neNil (s := dU (rest.take 8)) Tryz.underlying33 (.inr (by (simp [maxLen, -List.getD_eq_getElem?_getD] <;> omega))) (lt_of rfl) ⟨rfl, trivial⟩)] ?_
  refine cT (b := true) rfl ?_
  refine sR [hR 1 rfl rfl (rCa (wire_number false false (rest.take 8) (by (simp [maxLen, -List.getD_eq_getElem?_getD] <;> omega))) Tryz.func127 [] [(.tmp 8, slV false false kU8 (rest.take 8))] 0 0),
    hR 2 rfl rfl (r_conv (u := .int .u64 ((numL (rest.take 8) : Nat) : Int)) (v := .int .i64 (toI64 (numL (rest.take 8)))) (c_i64 ‹_› Tryz.underlying120 Tryz.underlying2) (lt_of rfl) trivial)] ?_
  refine T.ret (rT ?_)
  exact eRt 2 (.one (dI (toI64 (numL (rest.take 8))))) [0] (by have e1 : (rdI rest e : Int) = toI64 (numL (rest.take 8)) := (by (simp only [rdI]; (rw [if_pos ‹_›]; done))); have hE := cI e1; exact hE) ⟨⟨rfl, (by have e1 : ((rest.drop 8) : List UInt8) = (rdR rest e 8 0) := (by (rw [rdR_ok ‹_›]; rfl)); have e2 : (0 : Int) = (rdE rest e 8 0) := (by (rw [rdE_ok ‹_›])); have hE := congr (congrArg (fun (q1 : List UInt8) (q2 : Int) => (.live (.box 160 [dU q1, dI q2]) : HS)) e1) e2; exact Eq.trans (by kernel_rfl) hE)⟩, trivial⟩
 refine sR [hR 1 rfl rfl (rCa (take_any_no rest e 8 ‹_› (by omega) ‹_›) Tryz.func114 [0] [(.tmp 4, pv 0 0), (.const (.int .i64 8), vI 8), (.func 115, dv (.func (.func 115) #[] #[]))] 1 1)] ?_
 refine sR [hR 1 rfl rfl (r_bin (u1 := .slice none 0 0) (u2 := .slice none 0 0) (v := .bool false) (b_neqNilS Tryz.underlying33) (lt_of rfl) ⟨rfl, trivial⟩)] ?_
 refine cF (b := false) rfl ?_
 refine T.skip (nT ?_)
 refine sR [] ?_
 refine T.ret ?_
 exact eRt 2 (.one (dI 0)) [0] (by have e1 : (rdI rest e : Int) = 0 := (by (simp only [rdI]; (rw [if_neg ‹_›]; done))); have hE := cI e1; exact hE) ⟨⟨rfl, (by have e1 : (rest : List UInt8) = (rdR rest e 8 0) := (by (rw [rdR_no ‹_›])); have hE := congrArg (fun (q1 : List UInt8) => (.live (.box 160 [dU q1, dI (rdE rest e 8 0)]) : HS)) e1; exact Eq.trans (by kernel_rfl) hE)⟩, trivial⟩
theorem rd_Count (rest : List UInt8) (e : Int) (most : Int) (hr : rest.length ≤ 140737488355328) : Holds Tryz.prog 113 ⟨[pv 0 0, vI most], [.box 160 [dU rest, dI e]], vI ((rdC rest e most : Nat) : Int), [.live (.box 160 [dU (rdR rest e 4 (limE most (rest.take 4))), dI (rdE rest e 4 (limE most (rest.take 4)))])]⟩ := by
 refine Holds.of Tryz.func113 rfl (N := 15) Tryz.ntmps113 rfl fun w0 B0 S0 U0 => ?_
 show T _ (mkBase 15 1 w0 S0 U0 B0) ⟨[pv 0 0, vI most], [.live (.box 160 [dU rest, dI e])]⟩ _ _
 have hi4 : numL (rest.take 4) < 4294967296 := numL_lt4 (List.length_take_le _ _)
 refine sR [] ?_
 refine T.seq ?_
 by_cases hq1 : okT rest e 4 (limE most (rest.take 4))
 ·have hk := id hq1; simp only [okT] at hk
  refine sR [hR 2 rfl rfl (r_makeFunc (fs := [(.tmp 7, .int .i64 most)]) (cs := []) rfl rfl (lt_of rfl) trivial),
    hR 3 rfl rfl (rCa (take_limit_ok rest e 4 most ‹_› (by omega) ‹_›) Tryz.func114 [0] [(.tmp 6, pv 0 0), (.const (.int .i64 4), vI 4), (.tmp 8, dv (.func (.func 128) #[.int .i64 most] #[]))] 1 1)] ?_
  refine sR [hR 1 rfl rfl (r_neNil (s := dU (rest.take 4)) Tryz.underlying33 (.inr (by (simp [maxLen, -List.getD_eq_getElem?_getD] <;> omega))) (lt_of rfl) ⟨rfl, trivial⟩)] ?_
  refine cT (b := true) rfl ?_
  refine sR [hR 1 rfl rfl (rCa (wire_number false false (rest.take 4) (by (simp [maxLen, -List.getD_eq_getElem?_getD] <;> omega))) Tryz.func127 [] [(.tmp 12, slV false false kU8 (rest.take 4))] 0 0),
    hR 2 rfl rfl (r_conv (u := .int .u64 ((numL (rest.take 4) : Nat) : Int)) (v := .int .i64 ((numL (rest.take 4) : Nat) : Int)) (c_int Tryz.underlying120 Tryz.underlying3 (by rw [IntKind.wrap_i64]; omega)) (lt_of rfl) trivial)] ?_
  refine T.ret (rT ?_)
  exact eRt 4 (.one (dI ((numL (rest.take 4) : Nat) : Int))) [0] (by have e1 : (((rdC rest e most : Nat) : Int) : Int) = ((numL (rest.take 4) : Nat) : Int) := (by (simp only [rdC]; (rw [if_pos ‹_›]; done))); have hE := cI e1; exact hE) ⟨⟨rfl, (by have e1 : ((rest.drop 4) : List UInt8) = (rdR rest e 4 (limE most (rest.take 4))) := (by (rw [rdR_ok ‹_›]; rfl)); have e2 : (0 : Int) = (rdE rest e 4 (limE most (rest.take 4))) := (by (rw [rdE_ok ‹_›])); have hE := congr (congrArg (fun (q1 : List UInt8) (q2 : Int) => (.live (.box 160 [dU q1, dI q2]) : HS)) e1) e2; exact Eq.trans (by kernel_rfl) hE)⟩, trivial⟩
 refine sR [hR 2 rfl rfl (r_makeFunc (fs := [(.tmp 7, .int .i64 most)]) (cs := []) rfl rfl (lt_of rfl) trivial),
   hR 3 rfl rfl (rCa (take_limit_no rest e 4 most ‹_› (by omega) ‹_›) Tryz.func114 [0] [(.tmp 6, pv 0 0), (.const (.int .i64 4), vI 4), (.tmp 8, dv (.func (.func 128) #[.int .i64 most] #[]))] 1 1)] ?_
 refine sR [hR 1 rfl rfl (r_bin (u1 := .slice none 0 0) (u2 := .slice none 0 0) (v := .bool false) (b_neqNilS Tryz.underlying33) (lt_of rfl) ⟨rfl, trivial⟩)] ?_
 refine cF (b := false) rfl ?_
 refine T.skip (nT ?_)
 refine sR [] ?_
 refine T.ret ?_
 exact eRt 4 (.one (dI 0)) [0] (by have e1 : (((rdC rest e most : Nat) : Int) : Int) = 0 := (by (simp only [rdC]; (rw [if_neg ‹_›]; rfl))); have hE := cI e1; exact hE) ⟨⟨rfl, (by have e1 : (rest : List UInt8) = (rdR rest e 4 (limE most (rest.take 4))) := (by (rw [rdR_no ‹_›])); have hE := congrArg (fun (q1 : List UInt8) => (.live (.box 160 [dU q1, dI (rdE rest e 4 (limE most (rest.take 4)))]) : HS)) e1; exact Eq.trans (by kernel_rfl) hE)⟩, trivial⟩
theorem rd_End (rest : List UInt8) (e : Int) (hr : rest.length ≤ 140737488355328) : Holds Tryz.prog 97 ⟨[pv 0 0], [.box 160 [dU rest, dI e]], .tup [], [.live (.box 160 [dU rest, dI (rdX rest e)])]⟩ := by
 refine Holds.of Tryz.func97 rfl (N := 22) Tryz.ntmps97 rfl fun w0 B0 S0 U0 => ?_
 show T _ (mkBase 22 1 w0 S0 U0 B0) ⟨[pv 0 0], [.live (.box 160 [dU rest, dI e])]⟩ _ _
 by_cases hq1 : e = 0
 ·refine sR [hY1 3,
    hY1 4,
    hY1 5,
    hY1 6,
    hY1 7,
    hP1 8,
    hY 10 (dT hq1),
    hY 11 (dT hq1),
    hY 12 (dT hq1),
    hY 13 (dT hq1),
    hY 14 (dT hq1),
    hY 15 (dT hq1),
    hP 16 (dT hq1)] ?_
  by_cases hq2 : ((rest.length : Nat) : Int) > 0
  ·refine cT (dT hq2) ?_
   refine xK [] ?_
   exact tE (.inr rfl) [] trivial [0] rfl rfl rfl rfl rfl rfl ⟨⟨rfl, (by have e1 : (13 : Int) = (rdX rest e) := (by (simp only [rdX]; rw [if_pos ⟨by assumption, by assumption⟩])); have hE := congrArg (fun (q1 : Int) => (.live (.box 160 [dU rest, dI q1]) : HS)) e1; exact Eq.trans (by kernel_rfl) hE)⟩, trivial⟩
  refine cF (dF hq2) ?_
  refine T.skip ?_
  exact tE (.inr rfl) [] trivial [0] rfl rfl rfl rfl rfl rfl ⟨⟨rfl, (by have e1 : (e : Int) = (rdX rest e) := (by (simp only [rdX]; rw [if_neg (fun h => by exact absurd h.2 ‹_›)])); have hE := congrArg (fun (q1 : Int) => (.live (.box 160 [dU rest, dI q1]) : HS)) e1; exact Eq.trans (by kernel_rfl) hE)⟩, trivial⟩
 refine sR [hY1 3,
   hY1 4,
   hY1 5,
   hY1 6,
   hY1 7,
   hP1 8,
   hN 10 true (dF hq1),
   hN 11 true (dF hq1),
   hN 12 true (dF hq1),
   hN 13 true (dF hq1),
   hN 14 true (dF hq1),
   hN 15 true (dF hq1),
   hP 16 (dF hq1)] ?_
 refine cF (b := false) rfl ?_
 refine T.skip ?_
 exact tE (.inr rfl) [] trivial [0] rfl rfl rfl rfl rfl rfl ⟨⟨rfl, (by have e1 : (e : Int) = (rdX rest e) := (by (simp only [rdX]; rw [if_neg (fun h => by exact absurd h.1 ‹_›)])); have hE := congrArg (fun (q1 : Int) => (.live (.box 160 [dU rest, dI q1]) : HS)) e1; exact Eq.trans (by kernel_rfl) hE)⟩, trivial⟩
theorem rd_Err (rest : List UInt8) (e : Int) : Holds Tryz.prog 98 ⟨[pv 0 0], [.box 160 [dU rest, dI e]], vI e, [.live (.box 160 [dU rest, dI e])]⟩ := by
 refine Holds.of Tryz.func98 rfl (N := 9) Tryz.ntmps98 rfl fun w0 B0 S0 U0 => ?_
 show T _ (mkBase 9 1 w0 S0 U0 B0) ⟨[pv 0 0], [.live (.box 160 [dU rest, dI e])]⟩ _ _
 refine sR [] ?_
 refine T.seq ?_
 refine sR [] ?_
 refine cF (b := false) rfl ?_
 refine T.skip (nT ?_)
 refine sR [] ?_
 refine T.ret ?_
 exact eRt 2 (.one (dI e)) [0] rfl (ix trivial)
end Go.Proofs.YtalapplihdmenaaGreat.Q
