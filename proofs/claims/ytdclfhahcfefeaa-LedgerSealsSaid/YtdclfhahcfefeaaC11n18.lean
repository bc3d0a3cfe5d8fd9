import Derived.Test.YtdclfhahcfefeaaC11n17
namespace Go.Proofs.Ytdclfhahcfefeaa.Q
open Go Go.RowKit
set_option linter.unusedVariables false
set_option linter.unusedSimpArgs false
set_option maxRecDepth 100000
set_option maxHeartbeats 4000000
theorem fld_99_0 : FieldAt Try.prog 99 0 0 := ⟨_, _, _, Try.underlying99, rfl, iat_58, by decide, rfl⟩
theorem fld_99_1 : FieldAt Try.prog 99 1 1 := ⟨_, _, _, Try.underlying99, rfl, iat_3, by decide, rfl⟩
-- (*quaestor/quaestorref01.Reader).number
theorem ref01_number (B : List UInt8) (a : Nat) (e : Int) (m : Nat) (ha : a ≤ B.length) (hB : B.length ≤ 140737488350000) (hm : m ≤ 8) : Holds Try.prog 77 ⟨[pv 0 0, dv (.int .i64 ((m : Nat) : Int))], [.box 99 [.d (dsl false false kU8 B), .d (.val (.int .i64 ((a : Nat) : Int))), .d (.val (.int .i64 e))]], .tup [.one (.d (.val (.int .u64 ((rfN B a m : Nat) : Int)))), .one (.d (.val (.bool (decide (a + m ≤ B.length)))))], [.live (.box 99 [.d (dsl false false kU8 B), .d (.val (.int .i64 ((a : Nat) : Int))), .d (.val (.int .i64 e))])]⟩ := by
  refine Holds.of Try.func77 rfl (N := 42) Try.ntmps77 rfl fun w0 B0 S0 U0 => ?_
  show T _ (mkBase 42 1 w0 S0 U0 B0) ⟨[pv 0 0, dv (.int .i64 ((m : Nat) : Int))], [.live (.box 99 [.d (dsl false false kU8 B), .d (.val (.int .i64 ((a : Nat) : Int))), .d (.val (.int .i64 e))])]⟩ _ _
  refine T.seq ?_
  refine xR [] (by kernel_rfl) (by kernel_rfl) ?_
  refine nT ?_
  refine T.seq ?_
  refine T.seq ?_
  refine xD [[], [], [1], [1, 2], [1, 2, 3], [1, 2, 3, 4], [], [6], [6, 7], [6, 7, 8], [1, 2, 3, 4, 5, 6, 7, 8, 9], [0, 1, 2, 3, 4, 5, 6, 7, 8, 9, 10]] [hR 10 rfl rfl (r_bin (u1 := .int .i64 ((B.length : Nat) : Int)) (u2 := .int .i64 ((a : Nat) : Int)) (v := .int .i64 (((B.length : Nat) : Int) - ((a : Nat) : Int))) (b_sub (by rw [IntKind.wrap_i64]; omega)) (lt_of rfl) trivial)] (by kernel_rfl) (by kernel_rfl) (by kernel_rfl) (by kernel_rfl) (by kernel_rfl) (by kernel_rfl) ?_
  refine nT ?_
  by_cases hq1 : ((m : Nat) : Int) > (((B.length : Nat) : Int) - ((a : Nat) : Int))
  · refine T.condT (by kernel_rfl) (decide_eq_true hq1) ?_
    refine T.seq ?_
    refine xR [] (by kernel_rfl) (by kernel_rfl) ?_
    refine nT ?_
    refine T.ret ?_
    refine rT ?_
    exact tE (.inl rfl) [.t 4 (.one (.d (.val (.int .u64 0)))), .t 5 (.one (.d (.val (.bool false))))] ⟨⟨rfl, by kernel_rfl⟩, ⟨⟨rfl, by kernel_rfl⟩, trivial⟩⟩ [0] (by have e1 : (((rfN B a m : Nat) : Int) : Int) = 0 := (by (simp only [rfN]; rw [if_neg (by omega)]; rfl)); have e2 : ((decide (a + m ≤ B.length)) : Bool) = false := (by exact decide_eq_false (by omega)); have hE := congr (congrArg (fun (q1 : Int) (q2 : Bool) => (.tup [.one (.d (.val (.int .u64 q1))), .one (.d (.val (.bool q2)))] : AV)) e1) e2; exact hE) rfl rfl rfl rfl rfl ⟨⟨rfl, (by kernel_rfl)⟩, trivial⟩
  · refine T.condF (by kernel_rfl) (decide_eq_false hq1) ?_
    refine T.skip ?_
    refine nT ?_
    refine T.seq ?_
    refine xR [] (by kernel_rfl) (by kernel_rfl) ?_
    refine nT ?_
    refine T.seq ?_
    refine T.seq ?_
    refine xR [] (by kernel_rfl) (by kernel_rfl) ?_
    refine nT ?_
    refine T.block ?_
    refine T.loop (ι := Nat) (fun (k : Nat) => ⟨[pv 0 0, dv (.int .i64 ((m : Nat) : Int)), aa, aa, dv (.int .u64 0), dv (.bool false), dv (.int .u64 ((numL ((B.drop a).take k) : Nat) : Int)), dv (.int .i64 ((k : Nat) : Int)), aa, aa, aa, aa, aa, aa, aa, aa, aa, aa, aa, dv (.bool (decide (((m : Nat) : Int) > (((B.length : Nat) : Int) - ((a : Nat) : Int)))))], [.live (.box 99 [.d (dsl false false kU8 B), .d (.val (.int .i64 ((a : Nat) : Int))), .d (.val (.int .i64 e))])]⟩) (fun (k : Nat) => (k ≤ m)) (fun (k : Nat) => m - k) (0) (Nat.zero_le _) (fun _ _ hG => Gs.into2 (s' := ⟨[pv 0 0, dv (.int .i64 ((m : Nat) : Int)), aa, aa, dv (.int .u64 0), dv (.bool false), dv (.int .u64 ((numL ((B.drop a).take 0) : Nat) : Int)), dv (.int .i64 0), aa, aa, aa, aa, aa, aa, aa, aa, aa, aa, aa, dv (.bool (decide (((m : Nat) : Int) > (((B.length : Nat) : Int) - ((a : Nat) : Int)))))], [.live (.box 99 [.d (dsl false false kU8 B), .d (.val (.int .i64 ((a : Nat) : Int))), .d (.val (.int .i64 e))])]⟩) [0] (bm 20 524531) (t1 := [pv 0 0, dv (.int .i64 ((m : Nat) : Int)), aa, aa, dv (.int .u64 0), dv (.bool false), dv (.int .u64 ((numL ((B.drop a).take 0) : Nat) : Int)), dv (.int .i64 0), aa, aa, aa, aa, aa, aa, aa, aa, aa, aa, aa, dv (.bool (decide (((m : Nat) : Int) > (((B.length : Nat) : Int) - ((a : Nat) : Int)))))]) (t2 := [pv 0 0, dv (.int .i64 ((m : Nat) : Int)), aa, aa, dv (.int .u64 0), dv (.bool false), dv (.int .u64 0), dv (.int .i64 0), aa, aa, aa, aa, aa, aa, aa, aa, aa, aa, aa, dv (.bool (decide (((m : Nat) : Int) > (((B.length : Nat) : Int) - ((a : Nat) : Int)))))]) (h1 := [.live (.box 99 [.d (dsl false false kU8 B), .d (.val (.int .i64 ((a : Nat) : Int))), .d (.val (.int .i64 e))])]) (by have e1 : (((numL ((B.drop a).take 0) : Nat) : Int) : Int) = 0 := (by rfl); have hE := congrArg (fun (q1 : Int) => ([pv 0 0, dv (.int .i64 ((m : Nat) : Int)), aa, aa, dv (.int .u64 0), dv (.bool false), dv (.int .u64 q1), dv (.int .i64 0), aa, aa, aa, aa, aa, aa, aa, aa, aa, aa, aa, dv (.bool (decide (((m : Nat) : Int) > (((B.length : Nat) : Int) - ((a : Nat) : Int)))))] : List AV)) e1; exact hE) rfl (by kernel_rfl) (by kernel_rfl) (by kernel_rfl) (by kernel_rfl) (by kernel_rfl) (by kernel_rfl) (by kernel_rfl) (by kernel_rfl) (by kernel_rfl) (by kernel_rfl) (by kernel_rfl) hG) ?_
    rintro k hk
    show T _ _ ⟨[pv 0 0, dv (.int .i64 ((m : Nat) : Int)), aa, aa, dv (.int .u64 0), dv (.bool false), dv (.int .u64 ((numL ((B.drop a).take k) : Nat) : Int)), dv (.int .i64 ((k : Nat) : Int)), aa, aa, aa, aa, aa, aa, aa, aa, aa, aa, aa, dv (.bool (decide (((m : Nat) : Int) > (((B.length : Nat) : Int) - ((a : Nat) : Int)))))], [.live (.box 99 [.d (dsl false false kU8 B), .d (.val (.int .i64 ((a : Nat) : Int))), .d (.val (.int .i64 e))])]⟩ _ _
    replace hk : k ≤ m := hk
    have hk8 : numL ((B.drop a).take k) < 18446744073709551616 := numL_lt8 (Nat.le_trans (List.length_take_le _ _) (by omega))
    refine T.seq ?_
    refine T.seq ?_
    refine xR [] (by kernel_rfl) (by kernel_rfl) ?_
    refine nT ?_
    by_cases hq2 : ((k : Nat) : Int) < ((m : Nat) : Int)
    · have hk7 : numL ((B.drop a).take k) < 72057594037927936 := numL_lt7 (Nat.le_trans (List.length_take_le _ _) (by omega)); have hbt := UInt8.toNat_lt (B.getD (a + k) 0)
      refine T.condT (by kernel_rfl) (decide_eq_true hq2) ?_
      refine T.skip ?_
      refine nT ?_
      refine T.seq ?_
      refine T.block ?_
      refine xD [[], [0], [], [2], [2, 3], [2, 3, 4], [], [6], [6, 7], [6, 7, 8], [], [6, 7, 8, 9, 10], [2, 3, 4, 5, 6, 7, 8, 9, 10, 11], [2, 3, 4, 5, 6, 7, 8, 9, 10, 11, 12], [2, 3, 4, 5, 6, 7, 8, 9, 10, 11, 12, 13], [0, 1, 2, 3, 4, 5, 6, 7, 8, 9, 10, 11, 12, 13, 14], [0, 1, 2, 3, 4, 5, 6, 7, 8, 9, 10, 11, 12, 13, 14, 15]] [hR 1 rfl rfl (r_bin (u1 := .int .u64 ((numL ((B.drop a).take k) : Nat) : Int)) (u2 := .int .u64 8) (v := .int .u64 (((numL ((B.drop a).take k)) * 2 ^ 8 : Nat) : Int)) (b_shlN (n := 8) rfl (Nat.le_trans (by omega) (by decide : 64 ≤ _)) (by (rw [IntKind.wrap_u64]; omega))) (lt_of rfl) ⟨rfl, trivial⟩),
        hR 11 rfl rfl (r_bin (u1 := .int .i64 ((a : Nat) : Int)) (u2 := .int .i64 ((k : Nat) : Int)) (v := .int .i64 ((a + k : Nat) : Int)) (b_add (by rw [IntKind.wrap_i64]; omega)) (lt_of rfl) trivial),
        hR 12 rfl rfl (q_index false false kU8 B (a + k) (k := .i64) (i := ((a + k : Nat) : Int)) Try.underlying58 iat_5 rfl rfl (by omega) (lt_of rfl) trivial),
        hR 14 rfl rfl (r_conv (u := .int .u8 (((B.getD (a + k) 0).toNat : Nat) : Int)) (v := .int .u64 (((B.getD (a + k) 0).toNat : Nat) : Int)) (c_int Try.underlying5 Try.underlying113 (by (rw [IntKind.wrap_u64]; omega))) (lt_of rfl) trivial),
        hR 15 rfl rfl (r_bin (u1 := .int .u64 (((numL ((B.drop a).take k)) * 2 ^ 8 : Nat) : Int)) (u2 := .int .u64 (((B.getD (a + k) 0).toNat : Nat) : Int)) (v := .int .u64 ((((numL ((B.drop a).take k)) * 2 ^ 8) ||| (B.getD (a + k) 0).toNat : Nat) : Int)) (b_orU (by omega) (by omega)) (lt_of rfl) trivial)] (by kernel_rfl) (by kernel_rfl) (by kernel_rfl) (by kernel_rfl) (by kernel_rfl) (by kernel_rfl) ?_
      refine nB ?_
      refine nT ?_
      refine xR [hR 1 rfl rfl (r_bin (u1 := .int .i64 ((k : Nat) : Int)) (u2 := .int .i64 1) (v := .int .i64 ((k + 1 : Nat) : Int)) (b_add (by rw [IntKind.wrap_i64]; omega)) (lt_of rfl) ⟨rfl, trivial⟩)] (by kernel_rfl) (by kernel_rfl) ?_
      refine nL (k + 1) (show (k + 1) ≤ m from (by omega)) (show (m - (k + 1) : Nat) < m - k from (by omega)) (fun _ _ hG => Gs.into2 (s' := ⟨[pv 0 0, dv (.int .i64 ((m : Nat) : Int)), aa, aa, dv (.int .u64 0), dv (.bool false), dv (.int .u64 ((numL ((B.drop a).take (k + 1)) : Nat) : Int)), dv (.int .i64 ((k + 1 : Nat) : Int)), aa, aa, aa, aa, aa, aa, aa, aa, aa, aa, aa, dv (.bool (decide (((m : Nat) : Int) > (((B.length : Nat) : Int) - ((a : Nat) : Int)))))], [.live (.box 99 [.d (dsl false false kU8 B), .d (.val (.int .i64 ((a : Nat) : Int))), .d (.val (.int .i64 e))])]⟩) [0] (bm 20 524531) (t1 := [pv 0 0, dv (.int .i64 ((m : Nat) : Int)), aa, aa, dv (.int .u64 0), dv (.bool false), dv (.int .u64 ((numL ((B.drop a).take (k + 1)) : Nat) : Int)), dv (.int .i64 ((k + 1 : Nat) : Int)), aa, aa, aa, aa, aa, aa, aa, aa, aa, aa, aa, dv (.bool (decide (((m : Nat) : Int) > (((B.length : Nat) : Int) - ((a : Nat) : Int)))))]) (t2 := [pv 0 0, dv (.int .i64 ((m : Nat) : Int)), aa, aa, dv (.int .u64 0), dv (.bool false), dv (.int .u64 ((((numL ((B.drop a).take k)) * 2 ^ 8) ||| (B.getD (a + k) 0).toNat : Nat) : Int)), dv (.int .i64 ((k + 1 : Nat) : Int)), aa, aa, aa, aa, aa, aa, aa, aa, aa, aa, aa, dv (.bool (decide (((m : Nat) : Int) > (((B.length : Nat) : Int) - ((a : Nat) : Int)))))]) (h1 := [.live (.box 99 [.d (dsl false false kU8 B), .d (.val (.int .i64 ((a : Nat) : Int))), .d (.val (.int .i64 e))])]) (by have e1 : (((numL ((B.drop a).take (k + 1)) : Nat) : Int) : Int) = ((((numL ((B.drop a).take k)) * 2 ^ 8) ||| (B.getD (a + k) 0).toNat : Nat) : Int) := (by (rw [numL_dropk (by omega)])); have hE := congrArg (fun (q1 : Int) => ([pv 0 0, dv (.int .i64 ((m : Nat) : Int)), aa, aa, dv (.int .u64 0), dv (.bool false), dv (.int .u64 q1), dv (.int .i64 ((k + 1 : Nat) : Int)), aa, aa, aa, aa, aa, aa, aa, aa, aa, aa, aa, dv (.bool (decide (((m : Nat) : Int) > (((B.length : Nat) : Int) - ((a : Nat) : Int)))))] : List AV)) e1; exact hE) rfl (by kernel_rfl) (by kernel_rfl) (by kernel_rfl) (by kernel_rfl) (by kernel_rfl) (by kernel_rfl) (by kernel_rfl) (by kernel_rfl) (by kernel_rfl) (by kernel_rfl) (by kernel_rfl) hG)
    · refine T.condF (by kernel_rfl) (decide_eq_false hq2) ?_
      refine T.exit ?_
      refine xT ?_
      refine xT ?_
      refine xH ?_
      refine nT ?_
      refine T.seq ?_
      refine xR [] (by kernel_rfl) (by kernel_rfl) ?_
      refine nT ?_
      refine T.ret ?_
      exact tE (.inl rfl) [.t 4 (.one (.d (.val (.int .u64 ((numL ((B.drop a).take k) : Nat) : Int))))), .t 5 (.one (.d (.val (.bool true))))] ⟨⟨rfl, by kernel_rfl⟩, ⟨⟨rfl, by kernel_rfl⟩, trivial⟩⟩ [0] (by have e1 : (((rfN B a m : Nat) : Int) : Int) = ((numL ((B.drop a).take k) : Nat) : Int) := (by (have hke : k = m := (by omega); subst hke; rw [rfN_ok (by omega)])); have e2 : ((decide (a + m ≤ B.length)) : Bool) = true := (by exact decide_eq_true (by omega)); have hE := congr (congrArg (fun (q1 : Int) (q2 : Bool) => (.tup [.one (.d (.val (.int .u64 q1))), .one (.d (.val (.bool q2)))] : AV)) e1) e2; exact hE) rfl rfl rfl rfl rfl ⟨⟨rfl, (by kernel_rfl)⟩, trivial⟩
end Go.Proofs.Ytdclfhahcfefeaa.Q
namespace Go.Proofs.Ytdclfhahcfefeaa.Q
open Go Go.RowKit
set_option linter.unusedVariables false
set_option linter.unusedSimpArgs false
set_option maxRecDepth 100000
set_option maxHeartbeats 4000000
theorem fld_99_2 : FieldAt Try.prog 99 2 2 := ⟨_, _, _, Try.underlying99, rfl, iat_43, by decide, rfl⟩
-- (*quaestor/quaestorref01.Reader).Int
theorem ref01_rInt (B : List UInt8) (a : Nat) (e : Int) (ha : a ≤ B.length) (hB : B.length ≤ 140737488350000) : Holds Try.prog 53 ⟨[pv 0 0], [.box 99 [.d (dsl false false kU8 B), .d (.val (.int .i64 ((a : Nat) : Int))), .d (.val (.int .i64 e))]], dv (.int .i64 (rdI (B.drop a) e)), [.live (.box 99 [.d (dsl false false kU8 B), .d (.val (.int .i64 ((rfA B a e 8 0 : Nat) : Int))), .d (.val (.int .i64 (rdE (B.drop a) e 8 0)))])]⟩ := by
  refine Holds.of Try.func53 rfl (N := 29) Try.ntmps53 rfl fun w0 B0 S0 U0 => ?_
  show T _ (mkBase 29 1 w0 S0 U0 B0) ⟨[pv 0 0], [.live (.box 99 [.d (dsl false false kU8 B), .d (.val (.int .i64 ((a : Nat) : Int))), .d (.val (.int .i64 e))])]⟩ _ _
  have hn8 := rfN_lt B a (m := 8) (by decide)
  refine T.seq ?_
  refine xR [] (by kernel_rfl) (by kernel_rfl) ?_
  refine nT ?_
  refine T.seq ?_
  refine T.seq ?_
  refine xR [] (by kernel_rfl) (by kernel_rfl) ?_
  refine nT ?_
  by_cases hq1 : e ≠ 0
  · have hr := rf_e (B := B) (a := a) hq1 8 0
    refine T.condT (by kernel_rfl) (decide_eq_true hq1) ?_
    refine T.seq ?_
    refine xR [] (by kernel_rfl) (by kernel_rfl) ?_
    refine nT ?_
    refine T.ret ?_
    refine rT ?_
    exact tE (.inl rfl) [.t 2 (.one (.d (.val (.int .i64 0))))] ⟨⟨rfl, by kernel_rfl⟩, trivial⟩ [0] (by have e1 : (rdI (B.drop a) e : Int) = 0 := (by (simp only [rdI]; (rw [if_neg hr.1]; done))); have hE := congrArg (fun (q1 : Int) => (dv (.int .i64 q1) : AV)) e1; exact hE) rfl rfl rfl rfl rfl ⟨⟨rfl, (by have e1 : (((a : Nat) : Int) : Int) = ((rfA B a e 8 0 : Nat) : Int) := (by (rw [rfA_no hr.1])); have e2 : (e : Int) = (rdE (B.drop a) e 8 0) := (by exact hr.2.symm); have hE := congr (congrArg (fun (q1 : Int) (q2 : Int) => (.live (.box 99 [.d (dsl false false kU8 B), .d (.val (.int .i64 q1)), .d (.val (.int .i64 q2))]) : HS)) e1) e2; exact Eq.trans (by kernel_rfl) hE)⟩, trivial⟩
  · refine T.condF (by kernel_rfl) (decide_eq_false hq1) ?_
    refine T.skip ?_
    refine nT ?_
    refine T.seq ?_
    refine xR [hR 1 rfl rfl (r_call (ref01_number B a e 8 (by assumption) (by assumption) (by omega)) Try.func77 rfl (by decide) [0] [] (l := [(.tmp 11, pv 0 0), (.const (.int .i64 8), dv (.int .i64 8))]) [] rfl 1 1 rfl rfl rfl rfl rfl rfl rfl rfl rfl ⟨.inl ⟨rfl, rfl⟩, ⟨.inl ⟨rfl, rfl⟩, trivial⟩⟩ rfl (fun b hb => by cases hb) (.inl rfl) (lt_of rfl) ⟨rfl, trivial⟩)] (by kernel_rfl) (by kernel_rfl) ?_
    refine nT ?_
    refine T.seq ?_
    refine T.seq ?_
    refine xR [] (by kernel_rfl) (by kernel_rfl) ?_
    refine nT ?_
    by_cases hq2 : a + 8 ≤ B.length
    · have hr := rf_ok (n := 8) (k := 8) (m := 0) rfl (by assumption) hq2 rfl
      refine T.condF (by kernel_rfl) (congrArg Bool.not (decide_eq_true hq2)) ?_
      refine T.skip ?_
      refine nT ?_
      refine T.seq ?_
      refine xR [hR 4 rfl rfl (r_bin (u1 := .int .i64 ((a : Nat) : Int)) (u2 := .int .i64 8) (v := .int .i64 ((a + 8 : Nat) : Int)) (b_add (by rw [IntKind.wrap_i64]; omega)) (lt_of rfl) ⟨rfl, trivial⟩)] (by kernel_rfl) (by kernel_rfl) ?_
      refine nT ?_
      refine T.seq ?_
      refine xR [hR 1 rfl rfl (r_conv (u := .int .u64 ((rfN B a 8 : Nat) : Int)) (v := .int .i64 (toI64 (rfN B a 8))) (c_i64 (by assumption) Try.underlying113 Try.underlying2) (lt_of rfl) trivial)] (by kernel_rfl) (by kernel_rfl) ?_
      refine nT ?_
      refine T.ret ?_
      exact tE (.inl rfl) [.t 2 (.one (.d (.val (.int .i64 (toI64 (rfN B a 8))))))] ⟨⟨rfl, by kernel_rfl⟩, trivial⟩ [0] (by have e1 : (rdI (B.drop a) e : Int) = toI64 (rfN B a 8) := (by (simp only [rdI]; (rw [if_pos hr.1, ← rfN_ok (by assumption)]; done))); have hE := congrArg (fun (q1 : Int) => (dv (.int .i64 q1) : AV)) e1; exact hE) rfl rfl rfl rfl rfl ⟨⟨rfl, (by have e1 : (((a + 8 : Nat) : Int) : Int) = ((rfA B a e 8 0 : Nat) : Int) := (by (rw [rfA_ok hr.1]; rfl)); have e2 : (e : Int) = (rdE (B.drop a) e 8 0) := (by (rw [hr.2]; omega)); have hE := congr (congrArg (fun (q1 : Int) (q2 : Int) => (.live (.box 99 [.d (dsl false false kU8 B), .d (.val (.int .i64 q1)), .d (.val (.int .i64 q2))]) : HS)) e1) e2; exact Eq.trans (by kernel_rfl) hE)⟩, trivial⟩
    · have hr := rf_short (n := 8) (k := 8) rfl (by assumption) hq2 ha 0
      refine T.condT (by kernel_rfl) (congrArg Bool.not (decide_eq_false hq2)) ?_
      refine T.seq ?_
      refine xR [] (by kernel_rfl) (by kernel_rfl) ?_
      refine nT ?_
      refine T.seq ?_
      refine xR [] (by kernel_rfl) (by kernel_rfl) ?_
      refine nT ?_
      refine T.ret ?_
      refine rT ?_
      exact tE (.inl rfl) [.t 2 (.one (.d (.val (.int .i64 0))))] ⟨⟨rfl, by kernel_rfl⟩, trivial⟩ [0] (by have e1 : (rdI (B.drop a) e : Int) = 0 := (by (simp only [rdI]; (rw [if_neg hr.1]; done))); have hE := congrArg (fun (q1 : Int) => (dv (.int .i64 q1) : AV)) e1; exact hE) rfl rfl rfl rfl rfl ⟨⟨rfl, (by have e1 : (((a : Nat) : Int) : Int) = ((rfA B a e 8 0 : Nat) : Int) := (by (rw [rfA_no hr.1])); have e2 : (10 : Int) = (rdE (B.drop a) e 8 0) := (by exact hr.2.symm); have hE := congr (congrArg (fun (q1 : Int) (q2 : Int) => (.live (.box 99 [.d (dsl false false kU8 B), .d (.val (.int .i64 q1)), .d (.val (.int .i64 q2))]) : HS)) e1) e2; exact Eq.trans (by kernel_rfl) hE)⟩, trivial⟩
end Go.Proofs.Ytdclfhahcfefeaa.Q
namespace Go.Proofs.Ytdclfhahcfefeaa.Q
open Go Go.RowKit
set_option linter.unusedVariables false
set_option linter.unusedSimpArgs false
set_option maxRecDepth 100000
set_option maxHeartbeats 4000000
-- (*quaestor/quaestorref01.Reader).Count
theorem ref01_rCount (B : List UInt8) (a : Nat) (e : Int) (most : Int) (ha : a ≤ B.length) (hB : B.length ≤ 140737488350000) : Holds Try.prog 78 ⟨[pv 0 0, dv (.int .i64 most)], [.box 99 [.d (dsl false false kU8 B), .d (.val (.int .i64 ((a : Nat) : Int))), .d (.val (.int .i64 e))]], dv (.int .i64 ((rdC (B.drop a) e most : Nat) : Int)), [.live (.box 99 [.d (dsl false false kU8 B), .d (.val (.int .i64 ((rfA B a e 4 (limE most ((B.drop a).take 4)) : Nat) : Int))), .d (.val (.int .i64 (rdE (B.drop a) e 4 (limE most ((B.drop a).take 4)))))])]⟩ := by
  refine Holds.of Try.func78 rfl (N := 39) Try.ntmps78 rfl fun w0 B0 S0 U0 => ?_
  show T _ (mkBase 39 1 w0 S0 U0 B0) ⟨[pv 0 0, dv (.int .i64 most)], [.live (.box 99 [.d (dsl false false kU8 B), .d (.val (.int .i64 ((a : Nat) : Int))), .d (.val (.int .i64 e))])]⟩ _ _
  have hn4 := rfN_lt4 B a
  refine T.seq ?_
  refine xR [] (by kernel_rfl) (by kernel_rfl) ?_
  refine nT ?_
  refine T.seq ?_
  refine T.seq ?_
  refine xR [] (by kernel_rfl) (by kernel_rfl) ?_
  refine nT ?_
  by_cases hq1 : e ≠ 0
  · have hr := rf_e (B := B) (a := a) hq1 4 (limE most ((B.drop a).take 4))
    refine T.condT (by kernel_rfl) (decide_eq_true hq1) ?_
    refine T.seq ?_
    refine xR [] (by kernel_rfl) (by kernel_rfl) ?_
    refine nT ?_
    refine T.ret ?_
    refine rT ?_
    exact tE (.inl rfl) [.t 4 (.one (.d (.val (.int .i64 0))))] ⟨⟨rfl, by kernel_rfl⟩, trivial⟩ [0] (by have e1 : (((rdC (B.drop a) e most : Nat) : Int) : Int) = 0 := (by (simp only [rdC]; (rw [if_neg hr.1]; rfl))); have hE := congrArg (fun (q1 : Int) => (dv (.int .i64 q1) : AV)) e1; exact hE) rfl rfl rfl rfl rfl ⟨⟨rfl, (by have e1 : (((a : Nat) : Int) : Int) = ((rfA B a e 4 (limE most ((B.drop a).take 4)) : Nat) : Int) := (by (rw [rfA_no hr.1])); have e2 : (e : Int) = (rdE (B.drop a) e 4 (limE most ((B.drop a).take 4))) := (by exact hr.2.symm); have hE := congr (congrArg (fun (q1 : Int) (q2 : Int) => (.live (.box 99 [.d (dsl false false kU8 B), .d (.val (.int .i64 q1)), .d (.val (.int .i64 q2))]) : HS)) e1) e2; exact Eq.trans (by kernel_rfl) hE)⟩, trivial⟩
  · refine T.condF (by kernel_rfl) (decide_eq_false hq1) ?_
    refine T.skip ?_
    refine nT ?_
    refine T.seq ?_
    refine xR [hR 1 rfl rfl (r_call (ref01_number B a e 4 (by assumption) (by assumption) (by omega)) Try.func77 rfl (by decide) [0] [] (l := [(.tmp 13, pv 0 0), (.const (.int .i64 4), dv (.int .i64 4))]) [] rfl 1 1 rfl rfl rfl rfl rfl rfl rfl rfl rfl ⟨.inl ⟨rfl, rfl⟩, ⟨.inl ⟨rfl, rfl⟩, trivial⟩⟩ rfl (fun b hb => by cases hb) (.inl rfl) (lt_of rfl) ⟨rfl, trivial⟩)] (by kernel_rfl) (by kernel_rfl) ?_
    refine nT ?_
    refine T.seq ?_
    refine T.seq ?_
    refine xR [] (by kernel_rfl) (by kernel_rfl) ?_
    refine nT ?_
    by_cases hq2 : a + 4 ≤ B.length
    · refine T.condF (by kernel_rfl) (congrArg Bool.not (decide_eq_true hq2)) ?_
      refine T.skip ?_
      refine nT ?_
      refine T.seq ?_
      refine T.seq ?_
      refine xR [hR 1 rfl rfl (r_conv (u := .int .u64 ((rfN B a 4 : Nat) : Int)) (v := .int .i64 ((rfN B a 4 : Nat) : Int)) (c_int Try.underlying113 Try.underlying3 (by rw [IntKind.wrap_i64]; omega)) (lt_of rfl) trivial),
        hR 3 rfl rfl (r_max (k := .i64) (a := 0) (b := most) (lt_of rfl) ⟨rfl, trivial⟩)] (by kernel_rfl) (by kernel_rfl) ?_
      refine nT ?_
      by_cases hq3 : ((rfN B a 4 : Nat) : Int) > (max 0 most)
      · have hr := rf_m (n := 4) (k := 4) (c := 11) (m := (limE most ((B.drop a).take 4))) rfl (by assumption) (by assumption) (by rw [lim_of (by assumption), if_pos (by assumption)]) (by decide)
        refine T.condT (by kernel_rfl) (decide_eq_true hq3) ?_
        refine T.seq ?_
        refine xR [] (by kernel_rfl) (by kernel_rfl) ?_
        refine nT ?_
        refine T.seq ?_
        refine xR [] (by kernel_rfl) (by kernel_rfl) ?_
        refine nT ?_
        refine T.ret ?_
        refine rT ?_
        exact tE (.inl rfl) [.t 4 (.one (.d (.val (.int .i64 0))))] ⟨⟨rfl, by kernel_rfl⟩, trivial⟩ [0] (by have e1 : (((rdC (B.drop a) e most : Nat) : Int) : Int) = 0 := (by (simp only [rdC]; (rw [if_neg hr.1]; rfl))); have hE := congrArg (fun (q1 : Int) => (dv (.int .i64 q1) : AV)) e1; exact hE) rfl rfl rfl rfl rfl ⟨⟨rfl, (by have e1 : (((a : Nat) : Int) : Int) = ((rfA B a e 4 (limE most ((B.drop a).take 4)) : Nat) : Int) := (by (rw [rfA_no hr.1])); have e2 : (11 : Int) = (rdE (B.drop a) e 4 (limE most ((B.drop a).take 4))) := (by exact hr.2.symm); have hE := congr (congrArg (fun (q1 : Int) (q2 : Int) => (.live (.box 99 [.d (dsl false false kU8 B), .d (.val (.int .i64 q1)), .d (.val (.int .i64 q2))]) : HS)) e1) e2; exact Eq.trans (by kernel_rfl) hE)⟩, trivial⟩
      · have hr := rf_ok (n := 4) (k := 4) (m := (limE most ((B.drop a).take 4))) rfl (by assumption) (by assumption) (by rw [lim_of (by assumption), if_neg (by assumption)])
        refine T.condF (by kernel_rfl) (decide_eq_false hq3) ?_
        refine T.skip ?_
        refine nT ?_
        refine T.seq ?_
        refine xR [hR 4 rfl rfl (r_bin (u1 := .int .i64 ((a : Nat) : Int)) (u2 := .int .i64 4) (v := .int .i64 ((a + 4 : Nat) : Int)) (b_add (by rw [IntKind.wrap_i64]; omega)) (lt_of rfl) ⟨rfl, trivial⟩)] (by kernel_rfl) (by kernel_rfl) ?_
        refine nT ?_
        refine T.seq ?_
        refine xR [hR 1 rfl rfl (r_conv (u := .int .u64 ((rfN B a 4 : Nat) : Int)) (v := .int .i64 ((rfN B a 4 : Nat) : Int)) (c_int Try.underlying113 Try.underlying3 (by rw [IntKind.wrap_i64]; omega)) (lt_of rfl) trivial)] (by kernel_rfl) (by kernel_rfl) ?_
        refine nT ?_
        refine T.ret ?_
        exact tE (.inl rfl) [.t 4 (.one (.d (.val (.int .i64 ((rfN B a 4 : Nat) : Int)))))] ⟨⟨rfl, by kernel_rfl⟩, trivial⟩ [0] (by have e1 : (((rdC (B.drop a) e most : Nat) : Int) : Int) = ((rfN B a 4 : Nat) : Int) := (by (simp only [rdC]; (rw [if_pos hr.1, ← rfN_ok (by assumption)]; done))); have hE := congrArg (fun (q1 : Int) => (dv (.int .i64 q1) : AV)) e1; exact hE) rfl rfl rfl rfl rfl ⟨⟨rfl, (by have e1 : (((a + 4 : Nat) : Int) : Int) = ((rfA B a e 4 (limE most ((B.drop a).take 4)) : Nat) : Int) := (by (rw [rfA_ok hr.1]; rfl)); have e2 : (e : Int) = (rdE (B.drop a) e 4 (limE most ((B.drop a).take 4))) := (by (rw [hr.2]; omega)); have hE := congr (congrArg (fun (q1 : Int) (q2 : Int) => (.live (.box 99 [.d (dsl false false kU8 B), .d (.val (.int .i64 q1)), .d (.val (.int .i64 q2))]) : HS)) e1) e2; exact Eq.trans (by kernel_rfl) hE)⟩, trivial⟩
    · have hr := rf_short (n := 4) (k := 4) rfl (by assumption) hq2 ha (limE most ((B.drop a).take 4))
      refine T.condT (by kernel_rfl) (congrArg Bool.not (decide_eq_false hq2)) ?_
      refine T.seq ?_
      refine xR [] (by kernel_rfl) (by kernel_rfl) ?_
      refine nT ?_
      refine T.seq ?_
      refine xR [] (by kernel_rfl) (by kernel_rfl) ?_
      refine nT ?_
      refine T.ret ?_
      refine rT ?_
      exact tE (.inl rfl) [.t 4 (.one (.d (.val (.int .i64 0))))] ⟨⟨rfl, by kernel_rfl⟩, trivial⟩ [0] (by have e1 : (((rdC (B.drop a) e most : Nat) : Int) : Int) = 0 := (by (simp only [rdC]; (rw [if_neg hr.1]; rfl))); have hE := congrArg (fun (q1 : Int) => (dv (.int .i64 q1) : AV)) e1; exact hE) rfl rfl rfl rfl rfl ⟨⟨rfl, (by have e1 : (((a : Nat) : Int) : Int) = ((rfA B a e 4 (limE most ((B.drop a).take 4)) : Nat) : Int) := (by (rw [rfA_no hr.1])); have e2 : (10 : Int) = (rdE (B.drop a) e 4 (limE most ((B.drop a).take 4))) := (by exact hr.2.symm); have hE := congr (congrArg (fun (q1 : Int) (q2 : Int) => (.live (.box 99 [.d (dsl false false kU8 B), .d (.val (.int .i64 q1)), .d (.val (.int .i64 q2))]) : HS)) e1) e2; exact Eq.trans (by kernel_rfl) hE)⟩, trivial⟩
end Go.Proofs.Ytdclfhahcfefeaa.Q
namespace Go.Proofs.Ytdclfhahcfefeaa.Q
open Go Go.RowKit
set_option linter.unusedVariables false
set_option linter.unusedSimpArgs false
set_option maxRecDepth 100000
set_option maxHeartbeats 4000000
-- (*quaestor/quaestorref01.Reader).End
theorem ref01_rEnd (B : List UInt8) (a : Nat) (e : Int) (ha : a ≤ B.length) (hB : B.length ≤ 140737488350000) : Holds Try.prog 55 ⟨[pv 0 0], [.box 99 [.d (dsl false false kU8 B), .d (.val (.int .i64 ((a : Nat) : Int))), .d (.val (.int .i64 e))]], .tup [], [.live (.box 99 [.d (dsl false false kU8 B), .d (.val (.int .i64 ((a : Nat) : Int))), .d (.val (.int .i64 (rdX (B.drop a) e)))])]⟩ := by
  refine Holds.of Try.func55 rfl (N := 22) Try.ntmps55 rfl fun w0 B0 S0 U0 => ?_
  show T _ (mkBase 22 1 w0 S0 U0 B0) ⟨[pv 0 0], [.live (.box 99 [.d (dsl false false kU8 B), .d (.val (.int .i64 ((a : Nat) : Int))), .d (.val (.int .i64 e))])]⟩ _ _
  refine T.seq ?_
  by_cases hq1 : e = 0
  · refine xD [[], [0], [0, 1], [0, 1, 2], [0, 1, 2, 3], [0, 1, 2, 3, 4], [0, 1, 2, 3, 4, 5], [0, 1, 2, 3, 4, 5, 6], [0, 1, 2, 3, 4, 5, 6, 7], [0, 1, 2, 3, 4, 5, 6, 7, 8], [0, 1, 2, 3, 4, 5], [0, 1, 2, 3, 4, 5, 10], [0, 1, 2, 3, 4, 5, 10, 11], [0, 1, 2, 3, 4, 5, 10, 11, 12], [0, 1, 2, 3, 4, 5, 10, 11, 12, 13], [0, 1, 2, 3, 4, 5, 6, 7, 8, 9, 10, 11, 12, 13, 14], [0, 1, 2, 3, 4, 5, 6, 7, 8, 9, 10, 11, 12, 13, 14, 15]] [hY 6 (decide_eq_true hq1),
      hY 7 (decide_eq_true hq1),
      hY 8 (decide_eq_true hq1),
      hY 9 (decide_eq_true hq1),
      hY 10 (decide_eq_true hq1),
      hY 11 (decide_eq_true hq1),
      hY 12 (decide_eq_true hq1),
      hY 13 (decide_eq_true hq1),
      hY 14 (decide_eq_true hq1),
      hY 15 (decide_eq_true hq1),
      hP 16 (decide_eq_true hq1)] (by kernel_rfl) (by kernel_rfl) (by kernel_rfl) (by kernel_rfl) (by kernel_rfl) (by kernel_rfl) ?_
    refine nT ?_
    by_cases hq2 : ((a : Nat) : Int) < ((B.length : Nat) : Int)
    · refine T.condT (by kernel_rfl) (decide_eq_true hq2) ?_
      refine xR [] (by kernel_rfl) (by kernel_rfl) ?_
      exact tE (.inr rfl) [] trivial [0] rfl rfl rfl rfl rfl rfl ⟨⟨rfl, (by have e1 : (13 : Int) = (rdX (B.drop a) e) := (by (simp only [rdX, List.length_drop]; rw [if_pos ⟨by assumption, by omega⟩])); have hE := congrArg (fun (q1 : Int) => (.live (.box 99 [.d (dsl false false kU8 B), .d (.val (.int .i64 ((a : Nat) : Int))), .d (.val (.int .i64 q1))]) : HS)) e1; exact Eq.trans (by kernel_rfl) hE)⟩, trivial⟩
    · refine T.condF (by kernel_rfl) (decide_eq_false hq2) ?_
      refine T.skip ?_
      exact tE (.inr rfl) [] trivial [0] rfl rfl rfl rfl rfl rfl ⟨⟨rfl, (by have e1 : (e : Int) = (rdX (B.drop a) e) := (by (simp only [rdX, List.length_drop]; rw [if_neg (fun h => by (have := h.2; omega))])); have hE := congrArg (fun (q1 : Int) => (.live (.box 99 [.d (dsl false false kU8 B), .d (.val (.int .i64 ((a : Nat) : Int))), .d (.val (.int .i64 q1))]) : HS)) e1; exact Eq.trans (by kernel_rfl) hE)⟩, trivial⟩
  · refine xD [[], [0], [0, 1], [0, 1, 2], [0, 1, 2, 3], [0, 1, 2, 3, 4], [0, 1, 2, 3, 4, 5], [0, 1, 2, 3, 4, 5, 6], [0, 1, 2, 3, 4, 5, 6, 7], [0, 1, 2, 3, 4, 5, 6, 7, 8], [0, 1, 2, 3, 4, 5], [0, 1, 2, 3, 4, 5, 10], [0, 1, 2, 3, 4, 5, 10, 11], [0, 1, 2, 3, 4, 5, 10, 11, 12], [0, 1, 2, 3, 4, 5, 10, 11, 12, 13], [0, 1, 2, 3, 4, 5, 6, 7, 8, 9, 10, 11, 12, 13, 14], [0, 1, 2, 3, 4, 5, 6, 7, 8, 9, 10, 11, 12, 13, 14, 15]] [hN 6 true (decide_eq_false hq1),
      hN 7 true (decide_eq_false hq1),
      hN 8 true (decide_eq_false hq1),
      hN 9 true (decide_eq_false hq1),
      hN 10 true (decide_eq_false hq1),
      hN 11 true (decide_eq_false hq1),
      hN 12 true (decide_eq_false hq1),
      hN 13 true (decide_eq_false hq1),
      hN 14 true (decide_eq_false hq1),
      hN 15 true (decide_eq_false hq1),
      hP 16 (decide_eq_false hq1)] (by kernel_rfl) (by kernel_rfl) (by kernel_rfl) (by kernel_rfl) (by kernel_rfl) (by kernel_rfl) ?_
    refine nT ?_
    refine T.condF (b := false) (by kernel_rfl) rfl ?_
    refine T.skip ?_
    exact tE (.inr rfl) [] trivial [0] rfl rfl rfl rfl rfl rfl ⟨⟨rfl, (by have e1 : (e : Int) = (rdX (B.drop a) e) := (by (simp only [rdX, List.length_drop]; rw [if_neg (fun h => by exact absurd h.1 (by assumption))])); have hE := congrArg (fun (q1 : Int) => (.live (.box 99 [.d (dsl false false kU8 B), .d (.val (.int .i64 ((a : Nat) : Int))), .d (.val (.int .i64 q1))]) : HS)) e1; exact Eq.trans (by kernel_rfl) hE)⟩, trivial⟩
end Go.Proofs.Ytdclfhahcfefeaa.Q
namespace Go.Proofs.Ytdclfhahcfefeaa.Q
open Go Go.RowKit
set_option linter.unusedVariables false
set_option linter.unusedSimpArgs false
set_option maxRecDepth 100000
set_option maxHeartbeats 4000000
-- (*quaestor/quaestorref01.Reader).Bytes
theorem ref01_rBytes (B : List UInt8) (a : Nat) (e : Int) (most : Int) (ha : a ≤ B.length) (hB : B.length ≤ 140737488350000) : Holds Try.prog 54 ⟨[pv 0 0, dv (.int .i64 most)], [.box 99 [.d (dsl false false kU8 B), .d (.val (.int .i64 ((a : Nat) : Int))), .d (.val (.int .i64 e))]], ownV 1 kU8 0 (rdY (B.drop a) e most).length, [.live (.box 99 [.d (dsl false false kU8 B), .d (.val (.int .i64 ((rfYA B a e most : Nat) : Int))), .d (.val (.int .i64 (rdYE (B.drop a) e most)))]), .live (arrK 5 kU8 (rdY (B.drop a) e most))]⟩ := by
  refine Holds.of Try.func54 rfl (N := 72) Try.ntmps54 rfl fun w0 B0 S0 U0 => ?_
  show T _ (mkBase 72 1 w0 S0 U0 B0) ⟨[pv 0 0, dv (.int .i64 most)], [.live (.box 99 [.d (dsl false false kU8 B), .d (.val (.int .i64 ((a : Nat) : Int))), .d (.val (.int .i64 e))])]⟩ _ _
  have hrc := rdC_lt (B.drop a) e most
  have hra := rfA_le (B := B) (a := a) (e := e) (n := 4) (m := (limE most ((B.drop a).take 4))) ha
  refine T.seq ?_
  refine xR [] (by kernel_rfl) (by kernel_rfl) ?_
  refine nT ?_
  refine T.seq ?_
  refine xR [] (by kernel_rfl) (by kernel_rfl) ?_
  refine nT ?_
  refine T.seq ?_
  refine xR [hR 2 rfl rfl (r_call (ref01_rCount B a e most (by assumption) (by assumption)) Try.func78 rfl (by decide) [0] [] (l := [(.tmp 12, pv 0 0), (.tmp 13, dv (.int .i64 most))]) [] rfl 1 1 rfl rfl rfl rfl rfl rfl rfl rfl rfl ⟨.inl ⟨rfl, rfl⟩, ⟨.inl ⟨rfl, rfl⟩, trivial⟩⟩ rfl (fun b hb => by cases hb) (.inl rfl) (lt_of rfl) trivial)] (by kernel_rfl) (by kernel_rfl) ?_
  refine nT ?_
  refine T.seq ?_
  refine T.seq ?_
  by_cases hq1 : (rdE (B.drop a) e 4 (limE most ((B.drop a).take 4))) = 0
  · refine xD [[], [0], [0, 1], [0, 1, 2], [0, 1, 2, 3], [0, 1, 2, 3, 4], [0, 1, 2, 3, 4, 5], [0, 1, 2, 3, 4, 5], [0, 1, 2, 3, 4, 5, 7], [0, 1, 2, 3, 4, 5, 7, 8], [0, 1, 2, 3, 4, 5, 7, 8, 9], [0, 1, 2, 3, 4, 5, 7, 8, 9, 10], [0, 1, 2, 3, 4, 5], [0, 1, 2, 3, 4, 5, 12], [0, 1, 2, 3, 4, 5, 12, 13], [0, 1, 2, 3, 4, 5, 12, 13, 14], [0, 1, 2, 3, 4, 5, 7, 8, 9, 10, 11, 12, 13, 14, 15], [0, 1, 2, 3, 4, 5, 6, 7, 8, 9, 10, 11, 12, 13, 14, 15, 16], [0, 1, 2, 3, 4, 5, 6, 7, 8, 9, 10, 11, 12, 13, 14, 15, 16, 17]] [hY 6 (decide_eq_true hq1),
      hY 7 (decide_eq_true hq1),
      hY 8 (decide_eq_true hq1),
      hY 9 (decide_eq_true hq1),
      hY 10 (decide_eq_true hq1),
      hY 11 (decide_eq_true hq1),
      hY 12 (decide_eq_true hq1),
      hY 13 (decide_eq_true hq1),
      hY 14 (decide_eq_true hq1),
      hY 15 (decide_eq_true hq1),
      hS 16 (oY rfl rfl rfl rfl (lt_of rfl) (decide_eq_true hq1) (r_bin (u1 := .int .i64 ((B.length : Nat) : Int)) (u2 := .int .i64 ((rfA B a e 4 (limE most ((B.drop a).take 4)) : Nat) : Int)) (v := .int .i64 (((B.length : Nat) : Int) - ((rfA B a e 4 (limE most ((B.drop a).take 4)) : Nat) : Int))) (b_sub (by rw [IntKind.wrap_i64]; omega)) (lt_of rfl) trivial)),
      hY 17 (decide_eq_true hq1),
      hP 18 (decide_eq_true hq1)] (by kernel_rfl) (by kernel_rfl) (by kernel_rfl) (by kernel_rfl) (by kernel_rfl) (by kernel_rfl) ?_
    refine nT ?_
    by_cases hq2 : ((rdC (B.drop a) e most : Nat) : Int) > (((B.length : Nat) : Int) - ((rfA B a e 4 (limE most ((B.drop a).take 4)) : Nat) : Int))
    · have hy := rfY_short (by assumption) hq2 ha
      refine T.condT (by kernel_rfl) (decide_eq_true hq2) ?_
      refine T.seq ?_
      refine xR [] (by kernel_rfl) (by kernel_rfl) ?_
      refine nT ?_
      refine xR [] (by kernel_rfl) (by kernel_rfl) ?_
      refine nT ?_
      refine T.seq ?_
      refine T.seq ?_
      refine xR [] (by kernel_rfl) (by kernel_rfl) ?_
      refine nT ?_
      refine T.condT (b := true) (by kernel_rfl) rfl ?_
      refine T.seq ?_
      refine xR [] (by kernel_rfl) (by kernel_rfl) ?_
      refine nT ?_
      refine T.ret ?_
      refine rT ?_
      refine Ends.turn (s' := ⟨[pv 0 0, dv (.int .i64 most), aa, aa, dv (.slice none 0 0), dv (.int .i64 ((a : Nat) : Int)), dv (.int .i64 ((rdC (B.drop a) e most : Nat) : Int)), aa, aa, aa, aa, aa, aa, aa, aa, aa, aa, aa, aa, aa, aa, aa, aa, aa, aa, aa, aa, aa, aa, aa, aa, aa, aa, dv (.bool (decide (((rdC (B.drop a) e most : Nat) : Int) > (((B.length : Nat) : Int) - ((rfA B a e 4 (limE most ((B.drop a).take 4)) : Nat) : Int))))), aa, aa, aa, aa, aa, aa, aa, aa, aa, aa, aa, dv (.bool true)], [.live (.box 99 [.d (dsl false false kU8 B), .d (.val (.int .i64 ((a : Nat) : Int))), .d (.val (.int .i64 10))])]⟩) (fun _ _ hG => Gs.norm (by kernel_rfl) hG) ?_
      refine Ends.turn (s' := ⟨[pv 0 0, dv (.int .i64 most), aa, aa, ownV 1 kU8 0 0, dv (.int .i64 ((a : Nat) : Int)), dv (.int .i64 ((rdC (B.drop a) e most : Nat) : Int)), aa, aa, aa, aa, aa, aa, aa, aa, aa, aa, aa, aa, aa, aa, aa, aa, aa, aa, aa, aa, aa, aa, aa, aa, aa, aa, dv (.bool (decide (((rdC (B.drop a) e most : Nat) : Int) > (((B.length : Nat) : Int) - ((rfA B a e 4 (limE most ((B.drop a).take 4)) : Nat) : Int))))), aa, aa, aa, aa, aa, aa, aa, aa, aa, aa, aa, dv (.bool true)], [.live (.box 99 [.d (dsl false false kU8 B), .d (.val (.int .i64 ((a : Nat) : Int))), .d (.val (.int .i64 10))]), .live (arrK 5 kU8 ([] : List UInt8))]⟩) (fun _ _ hG => Gs.absent 1 4 5 kU8 rfl rfl hG) ?_
      exact tE (.inl rfl) [.t 4 (.one (.own 1 kU8.sz 0 0))] ⟨⟨rfl, by kernel_rfl⟩, trivial⟩ [0, 1] (by have e1 : ((rdY (B.drop a) e most).length : Nat) = 0 := (by (rw [hy.1]; rfl)); have hE := congrArg (fun (q1 : Nat) => (ownV 1 kU8 0 q1 : AV)) e1; exact hE) rfl rfl rfl rfl rfl ⟨⟨rfl, (by have e1 : (((a : Nat) : Int) : Int) = ((rfYA B a e most : Nat) : Int) := (by omega); have e2 : (10 : Int) = (rdYE (B.drop a) e most) := (by omega); have hE := congr (congrArg (fun (q1 : Int) (q2 : Int) => (.live (.box 99 [.d (dsl false false kU8 B), .d (.val (.int .i64 q1)), .d (.val (.int .i64 q2))]) : HS)) e1) e2; exact Eq.trans (by kernel_rfl) hE)⟩, ⟨⟨rfl, (by have e1 : (([] : List UInt8) : List UInt8) = (rdY (B.drop a) e most) := (by exact hy.1.symm); have hE := congrArg (fun (q1 : List UInt8) => (.live (arrK 5 kU8 q1) : HS)) e1; exact Eq.trans (by kernel_rfl) hE)⟩, trivial⟩⟩
    · have hy := rfY_ok (by assumption) hq2 ha
      refine T.condF (by kernel_rfl) (decide_eq_false hq2) ?_
      refine T.skip ?_
      refine nT ?_
      refine T.seq ?_
      refine T.seq ?_
      refine xR [] (by kernel_rfl) (by kernel_rfl) ?_
      refine nT ?_
      by_cases hq3 : (rdE (B.drop a) e 4 (limE most ((B.drop a).take 4))) ≠ 0
      · refine T.condT (by kernel_rfl) (decide_eq_true hq3) ?_
        refine T.seq ?_
        refine xR [] (by kernel_rfl) (by kernel_rfl) ?_
        refine nT ?_
        refine T.ret ?_
        refine rT ?_
        refine Ends.turn (s' := ⟨[pv 0 0, dv (.int .i64 most), aa, aa, dv (.slice none 0 0), dv (.int .i64 ((a : Nat) : Int)), dv (.int .i64 ((rdC (B.drop a) e most : Nat) : Int)), aa, aa, aa, aa, aa, aa, aa, aa, aa, aa, aa, aa, aa, aa, aa, aa, aa, aa, aa, aa, aa, aa, aa, aa, aa, aa, dv (.bool (decide (((rdC (B.drop a) e most : Nat) : Int) > (((B.length : Nat) : Int) - ((rfA B a e 4 (limE most ((B.drop a).take 4)) : Nat) : Int))))), aa, aa, aa, aa, aa, aa, aa, aa, aa, aa, aa, dv (.bool (decide ((rdE (B.drop a) e 4 (limE most ((B.drop a).take 4))) ≠ 0)))], [.live (.box 99 [.d (dsl false false kU8 B), .d (.val (.int .i64 ((rfA B a e 4 (limE most ((B.drop a).take 4)) : Nat) : Int))), .d (.val (.int .i64 (rdE (B.drop a) e 4 (limE most ((B.drop a).take 4)))))])]⟩) (fun _ _ hG => Gs.norm (by kernel_rfl) hG) ?_
        refine Ends.turn (s' := ⟨[pv 0 0, dv (.int .i64 most), aa, aa, ownV 1 kU8 0 0, dv (.int .i64 ((a : Nat) : Int)), dv (.int .i64 ((rdC (B.drop a) e most : Nat) : Int)), aa, aa, aa, aa, aa, aa, aa, aa, aa, aa, aa, aa, aa, aa, aa, aa, aa, aa, aa, aa, aa, aa, aa, aa, aa, aa, dv (.bool (decide (((rdC (B.drop a) e most : Nat) : Int) > (((B.length : Nat) : Int) - ((rfA B a e 4 (limE most ((B.drop a).take 4)) : Nat) : Int))))), aa, aa, aa, aa, aa, aa, aa, aa, aa, aa, aa, dv (.bool (decide ((rdE (B.drop a) e 4 (limE most ((B.drop a).take 4))) ≠ 0)))], [.live (.box 99 [.d (dsl false false kU8 B), .d (.val (.int .i64 ((rfA B a e 4 (limE most ((B.drop a).take 4)) : Nat) : Int))), .d (.val (.int .i64 (rdE (B.drop a) e 4 (limE most ((B.drop a).take 4)))))]), .live (arrK 5 kU8 ([] : List UInt8))]⟩) (fun _ _ hG => Gs.absent 1 4 5 kU8 rfl rfl hG) ?_
        exact tE (.inl rfl) [.t 4 (.one (.own 1 kU8.sz 0 0))] ⟨⟨rfl, by kernel_rfl⟩, trivial⟩ [0, 1] (by have e1 : ((rdY (B.drop a) e most).length : Nat) = 0 := (by omega); have hE := congrArg (fun (q1 : Nat) => (ownV 1 kU8 0 q1 : AV)) e1; exact hE) rfl rfl rfl rfl rfl ⟨⟨rfl, (by have e1 : (((rfA B a e 4 (limE most ((B.drop a).take 4)) : Nat) : Int) : Int) = ((rfYA B a e most : Nat) : Int) := (by omega); have e2 : ((rdE (B.drop a) e 4 (limE most ((B.drop a).take 4))) : Int) = (rdYE (B.drop a) e most) := (by omega); have hE := congr (congrArg (fun (q1 : Int) (q2 : Int) => (.live (.box 99 [.d (dsl false false kU8 B), .d (.val (.int .i64 q1)), .d (.val (.int .i64 q2))]) : HS)) e1) e2; exact Eq.trans (by kernel_rfl) hE)⟩, ⟨⟨rfl, (by have e1 : (([] : List UInt8) : List UInt8) = (rdY (B.drop a) e most) := (by omega); have hE := congrArg (fun (q1 : List UInt8) => (.live (arrK 5 kU8 q1) : HS)) e1; exact Eq.trans (by kernel_rfl) hE)⟩, trivial⟩⟩
      · refine T.condF (by kernel_rfl) (decide_eq_false hq3) ?_
        refine T.skip ?_
        refine nT ?_
        refine T.seq ?_
        refine xD [[], [], [1], [1, 2], [1, 2, 3], [], [5], [5, 6], [5, 6, 7], [], [9], [9, 10], [9, 10, 11], [], [9, 10, 11, 12, 13], [1, 2, 3, 4, 5, 6, 7, 8, 9, 10, 11, 12, 13, 14], [0, 1, 2, 3, 4, 5, 6, 7, 8, 9, 10, 11, 12, 13, 14, 15], [0, 1, 2, 3, 4, 5, 6, 7, 8, 9, 10, 11, 12, 13, 14, 15, 16]] [hR 0 rfl rfl (q_buildSlice 1 5 kU8 kU8_ok ([] : List UInt8) [] (cs := []) Try.underlying58 iat_5 rfl zero_5 rfl rfl rfl (Nat.le_of_ble_eq_true rfl) part_ok rfl trivial (lt_of rfl) trivial),
          hR 14 rfl rfl (r_bin (u1 := .int .i64 ((rfA B a e 4 (limE most ((B.drop a).take 4)) : Nat) : Int)) (u2 := .int .i64 ((rdC (B.drop a) e most : Nat) : Int)) (v := .int .i64 (((rfA B a e 4 (limE most ((B.drop a).take 4))) + (rdC (B.drop a) e most) : Nat) : Int)) (b_add (by rw [IntKind.wrap_i64]; omega)) (lt_of rfl) trivial),
          hR 15 rfl rfl (q_slice false false kU8 B ((B.take ((rfA B a e 4 (limE most ((B.drop a).take 4))) + (rdC (B.drop a) e most))).drop (rfA B a e 4 (limE most ((B.drop a).take 4)))) (rfA B a e 4 (limE most ((B.drop a).take 4))) ((rfA B a e 4 (limE most ((B.drop a).take 4))) + (rdC (B.drop a) e most)) (lo := some (.tmp 54, ((rfA B a e 4 (limE most ((B.drop a).take 4)) : Nat) : Int))) (hi := some (.tmp 60, (((rfA B a e 4 (limE most ((B.drop a).take 4))) + (rdC (B.drop a) e most) : Nat) : Int))) Try.underlying58 iat_5 rfl rfl rfl rfl rfl (by omega) (by omega) rfl (lt_of rfl) trivial),
          hR 16 rfl rfl (q_appendO 1 2 5 1 kU8 kU8_ok ([] : List UInt8) ((B.take ((rfA B a e 4 (limE most ((B.drop a).take 4))) + (rdC (B.drop a) e most))).drop (rfA B a e 4 (limE most ((B.drop a).take 4)))) ((B.take ((rfA B a e 4 (limE most ((B.drop a).take 4))) + (rdC (B.drop a) e most))).drop (rfA B a e 4 (limE most ((B.drop a).take 4)))) ([] : List UInt8).length (sy := (.d (dsl false false kU8 ((B.take ((rfA B a e 4 (limE most ((B.drop a).take 4))) + (rdC (B.drop a) e most))).drop (rfA B a e 4 (limE most ((B.drop a).take 4))))))) (rhs := []) elem_58 (by omega) (src_sl false false kU8 ((B.take ((rfA B a e 4 (limE most ((B.drop a).take 4))) + (rdC (B.drop a) e most))).drop (rfA B a e 4 (limE most ((B.drop a).take 4))))) (by simp) (by (simp [maxLen, -List.getD_eq_getElem?_getD] <;> omega)) (by (simp [maxLen, -List.getD_eq_getElem?_getD] <;> omega)) (lt_of rfl) trivial)] (by kernel_rfl) (by kernel_rfl) (by kernel_rfl) (by kernel_rfl) (by kernel_rfl) (by kernel_rfl) ?_
        refine nT ?_
        refine T.seq ?_
        refine xR [hR 5 rfl rfl (r_bin (u1 := .int .i64 ((rfA B a e 4 (limE most ((B.drop a).take 4)) : Nat) : Int)) (u2 := .int .i64 ((rdC (B.drop a) e most : Nat) : Int)) (v := .int .i64 (((rfA B a e 4 (limE most ((B.drop a).take 4))) + (rdC (B.drop a) e most) : Nat) : Int)) (b_add (by rw [IntKind.wrap_i64]; omega)) (lt_of rfl) trivial)] (by kernel_rfl) (by kernel_rfl) ?_
        refine nT ?_
        refine T.seq ?_
        refine xR [] (by kernel_rfl) (by kernel_rfl) ?_
        refine nT ?_
        refine T.ret ?_
        exact tE (.inl rfl) [.t 4 (.one (.own 2 kU8.sz 0 ((B.take ((rfA B a e 4 (limE most ((B.drop a).take 4))) + (rdC (B.drop a) e most))).drop (rfA B a e 4 (limE most ((B.drop a).take 4)))).length))] ⟨⟨rfl, by kernel_rfl⟩, trivial⟩ [0, 2] (by have e1 : ((rdY (B.drop a) e most).length : Nat) = ((B.take ((rfA B a e 4 (limE most ((B.drop a).take 4))) + (rdC (B.drop a) e most))).drop (rfA B a e 4 (limE most ((B.drop a).take 4)))).length := (by (rw [hy.2.2.2.1, hy.1, hy.2.1]; done)); have hE := congrArg (fun (q1 : Nat) => (ownV 2 kU8 0 q1 : AV)) e1; exact hE) rfl rfl rfl rfl rfl ⟨⟨rfl, (by have e1 : ((((rfA B a e 4 (limE most ((B.drop a).take 4))) + (rdC (B.drop a) e most) : Nat) : Int) : Int) = ((rfYA B a e most : Nat) : Int) := (by omega); have e2 : ((rdE (B.drop a) e 4 (limE most ((B.drop a).take 4))) : Int) = (rdYE (B.drop a) e most) := (by omega); have hE := congr (congrArg (fun (q1 : Int) (q2 : Int) => (.live (.box 99 [.d (dsl false false kU8 B), .d (.val (.int .i64 q1)), .d (.val (.int .i64 q2))]) : HS)) e1) e2; exact Eq.trans (by kernel_rfl) hE)⟩, ⟨⟨rfl, (by have e1 : (((B.take ((rfA B a e 4 (limE most ((B.drop a).take 4))) + (rdC (B.drop a) e most))).drop (rfA B a e 4 (limE most ((B.drop a).take 4)))) : List UInt8) = (rdY (B.drop a) e most) := (by (rw [hy.2.2.2.1, hy.1, hy.2.1]; done)); have hE := congrArg (fun (q1 : List UInt8) => (.live (arrK 5 kU8 q1) : HS)) e1; exact Eq.trans (by kernel_rfl) hE)⟩, trivial⟩⟩
  · have hy := rfY_fail hq1
    refine xD [[], [0], [0, 1], [0, 1, 2], [0, 1, 2, 3], [0, 1, 2, 3, 4], [0, 1, 2, 3, 4, 5], [0, 1, 2, 3, 4, 5], [0, 1, 2, 3, 4, 5, 7], [0, 1, 2, 3, 4, 5, 7, 8], [0, 1, 2, 3, 4, 5, 7, 8, 9], [0, 1, 2, 3, 4, 5, 7, 8, 9, 10], [0, 1, 2, 3, 4, 5], [0, 1, 2, 3, 4, 5, 12], [0, 1, 2, 3, 4, 5, 12, 13], [0, 1, 2, 3, 4, 5, 12, 13, 14], [0, 1, 2, 3, 4, 5, 7, 8, 9, 10, 11, 12, 13, 14, 15], [0, 1, 2, 3, 4, 5, 6, 7, 8, 9, 10, 11, 12, 13, 14, 15, 16], [0, 1, 2, 3, 4, 5, 6, 7, 8, 9, 10, 11, 12, 13, 14, 15, 16, 17]] [hN 6 true (decide_eq_false hq1),
      hN 7 true (decide_eq_false hq1),
      hN 8 true (decide_eq_false hq1),
      hN 9 true (decide_eq_false hq1),
      hN 10 true (decide_eq_false hq1),
      hN 11 true (decide_eq_false hq1),
      hN 12 true (decide_eq_false hq1),
      hN 13 true (decide_eq_false hq1),
      hN 14 true (decide_eq_false hq1),
      hN 15 true (decide_eq_false hq1),
      hN 16 true (decide_eq_false hq1),
      hN 17 true (decide_eq_false hq1),
      hP 18 (decide_eq_false hq1)] (by kernel_rfl) (by kernel_rfl) (by kernel_rfl) (by kernel_rfl) (by kernel_rfl) (by kernel_rfl) ?_
    refine nT ?_
    refine T.condF (b := false) (by kernel_rfl) rfl ?_
    refine T.skip ?_
    refine nT ?_
    refine T.seq ?_
    refine T.seq ?_
    refine xR [] (by kernel_rfl) (by kernel_rfl) ?_
    refine nT ?_
    by_cases hq4 : (rdE (B.drop a) e 4 (limE most ((B.drop a).take 4))) ≠ 0
    · refine T.condT (by kernel_rfl) (decide_eq_true hq4) ?_
      refine T.seq ?_
      refine xR [] (by kernel_rfl) (by kernel_rfl) ?_
      refine nT ?_
      refine T.ret ?_
      refine rT ?_
      refine Ends.turn (s' := ⟨[pv 0 0, dv (.int .i64 most), aa, aa, dv (.slice none 0 0), dv (.int .i64 ((a : Nat) : Int)), dv (.int .i64 ((rdC (B.drop a) e most : Nat) : Int)), aa, aa, aa, aa, aa, aa, aa, aa, aa, aa, aa, aa, aa, aa, aa, aa, aa, aa, aa, aa, aa, aa, aa, aa, aa, aa, dv (.bool false), aa, aa, aa, aa, aa, aa, aa, aa, aa, aa, aa, dv (.bool (decide ((rdE (B.drop a) e 4 (limE most ((B.drop a).take 4))) ≠ 0)))], [.live (.box 99 [.d (dsl false false kU8 B), .d (.val (.int .i64 ((rfA B a e 4 (limE most ((B.drop a).take 4)) : Nat) : Int))), .d (.val (.int .i64 (rdE (B.drop a) e 4 (limE most ((B.drop a).take 4)))))])]⟩) (fun _ _ hG => Gs.norm (by kernel_rfl) hG) ?_
      refine Ends.turn (s' := ⟨[pv 0 0, dv (.int .i64 most), aa, aa, ownV 1 kU8 0 0, dv (.int .i64 ((a : Nat) : Int)), dv (.int .i64 ((rdC (B.drop a) e most : Nat) : Int)), aa, aa, aa, aa, aa, aa, aa, aa, aa, aa, aa, aa, aa, aa, aa, aa, aa, aa, aa, aa, aa, aa, aa, aa, aa, aa, dv (.bool false), aa, aa, aa, aa, aa, aa, aa, aa, aa, aa, aa, dv (.bool (decide ((rdE (B.drop a) e 4 (limE most ((B.drop a).take 4))) ≠ 0)))], [.live (.box 99 [.d (dsl false false kU8 B), .d (.val (.int .i64 ((rfA B a e 4 (limE most ((B.drop a).take 4)) : Nat) : Int))), .d (.val (.int .i64 (rdE (B.drop a) e 4 (limE most ((B.drop a).take 4)))))]), .live (arrK 5 kU8 ([] : List UInt8))]⟩) (fun _ _ hG => Gs.absent 1 4 5 kU8 rfl rfl hG) ?_
      exact tE (.inl rfl) [.t 4 (.one (.own 1 kU8.sz 0 0))] ⟨⟨rfl, by kernel_rfl⟩, trivial⟩ [0, 1] (by have e1 : ((rdY (B.drop a) e most).length : Nat) = 0 := (by (rw [hy.1]; rfl)); have hE := congrArg (fun (q1 : Nat) => (ownV 1 kU8 0 q1 : AV)) e1; exact hE) rfl rfl rfl rfl rfl ⟨⟨rfl, (by have e1 : (((rfA B a e 4 (limE most ((B.drop a).take 4)) : Nat) : Int) : Int) = ((rfYA B a e most : Nat) : Int) := (by omega); have e2 : ((rdE (B.drop a) e 4 (limE most ((B.drop a).take 4))) : Int) = (rdYE (B.drop a) e most) := (by omega); have hE := congr (congrArg (fun (q1 : Int) (q2 : Int) => (.live (.box 99 [.d (dsl false false kU8 B), .d (.val (.int .i64 q1)), .d (.val (.int .i64 q2))]) : HS)) e1) e2; exact Eq.trans (by kernel_rfl) hE)⟩, ⟨⟨rfl, (by have e1 : (([] : List UInt8) : List UInt8) = (rdY (B.drop a) e most) := (by exact hy.1.symm); have hE := congrArg (fun (q1 : List UInt8) => (.live (arrK 5 kU8 q1) : HS)) e1; exact Eq.trans (by kernel_rfl) hE)⟩, trivial⟩⟩
    · refine T.condF (by kernel_rfl) (decide_eq_false hq4) ?_
      refine T.skip ?_
      refine nT ?_
      refine T.seq ?_
      refine xD [[], [], [1], [1, 2], [1, 2, 3], [], [5], [5, 6], [5, 6, 7], [], [9], [9, 10], [9, 10, 11], [], [9, 10, 11, 12, 13], [1, 2, 3, 4, 5, 6, 7, 8, 9, 10, 11, 12, 13, 14], [0, 1, 2, 3, 4, 5, 6, 7, 8, 9, 10, 11, 12, 13, 14, 15], [0, 1, 2, 3, 4, 5, 6, 7, 8, 9, 10, 11, 12, 13, 14, 15, 16]] [hR 0 rfl rfl (q_buildSlice 1 5 kU8 kU8_ok ([] : List UInt8) [] (cs := []) Try.underlying58 iat_5 rfl zero_5 rfl rfl rfl (Nat.le_of_ble_eq_true rfl) part_ok rfl trivial (lt_of rfl) trivial),
        hR 14 rfl rfl (r_bin (u1 := .int .i64 ((rfA B a e 4 (limE most ((B.drop a).take 4)) : Nat) : Int)) (u2 := .int .i64 ((rdC (B.drop a) e most : Nat) : Int)) (v := .int .i64 (((rfA B a e 4 (limE most ((B.drop a).take 4))) + (rdC (B.drop a) e most) : Nat) : Int)) (b_add (by rw [IntKind.wrap_i64]; omega)) (lt_of rfl) trivial),
        hR 15 rfl rfl (q_slice false false kU8 B ((B.take ((rfA B a e 4 (limE most ((B.drop a).take 4))) + (rdC (B.drop a) e most))).drop (rfA B a e 4 (limE most ((B.drop a).take 4)))) (rfA B a e 4 (limE most ((B.drop a).take 4))) ((rfA B a e 4 (limE most ((B.drop a).take 4))) + (rdC (B.drop a) e most)) (lo := some (.tmp 54, ((rfA B a e 4 (limE most ((B.drop a).take 4)) : Nat) : Int))) (hi := some (.tmp 60, (((rfA B a e 4 (limE most ((B.drop a).take 4))) + (rdC (B.drop a) e most) : Nat) : Int))) Try.underlying58 iat_5 rfl rfl rfl rfl rfl (by omega) (by omega) rfl (lt_of rfl) trivial),
        hR 16 rfl rfl (q_appendO 1 2 5 1 kU8 kU8_ok ([] : List UInt8) ((B.take ((rfA B a e 4 (limE most ((B.drop a).take 4))) + (rdC (B.drop a) e most))).drop (rfA B a e 4 (limE most ((B.drop a).take 4)))) ((B.take ((rfA B a e 4 (limE most ((B.drop a).take 4))) + (rdC (B.drop a) e most))).drop (rfA B a e 4 (limE most ((B.drop a).take 4)))) ([] : List UInt8).length (sy := (.d (dsl false false kU8 ((B.take ((rfA B a e 4 (limE most ((B.drop a).take 4))) + (rdC (B.drop a) e most))).drop (rfA B a e 4 (limE most ((B.drop a).take 4))))))) (rhs := []) elem_58 (by omega) (src_sl false false kU8 ((B.take ((rfA B a e 4 (limE most ((B.drop a).take 4))) + (rdC (B.drop a) e most))).drop (rfA B a e 4 (limE most ((B.drop a).take 4))))) (by simp) (by omega) (by omega) (lt_of rfl) trivial)] (by kernel_rfl) (by kernel_rfl) (by kernel_rfl) (by kernel_rfl) (by kernel_rfl) (by kernel_rfl) ?_
      refine nT ?_
      refine T.seq ?_
      refine xR [hR 5 rfl rfl (r_bin (u1 := .int .i64 ((rfA B a e 4 (limE most ((B.drop a).take 4)) : Nat) : Int)) (u2 := .int .i64 ((rdC (B.drop a) e most : Nat) : Int)) (v := .int .i64 (((rfA B a e 4 (limE most ((B.drop a).take 4))) + (rdC (B.drop a) e most) : Nat) : Int)) (b_add (by rw [IntKind.wrap_i64]; omega)) (lt_of rfl) trivial)] (by kernel_rfl) (by kernel_rfl) ?_
      refine nT ?_
      refine T.seq ?_
      refine xR [] (by kernel_rfl) (by kernel_rfl) ?_
      refine nT ?_
      refine T.ret ?_
      exact tE (.inl rfl) [.t 4 (.one (.own 2 kU8.sz 0 ((B.take ((rfA B a e 4 (limE most ((B.drop a).take 4))) + (rdC (B.drop a) e most))).drop (rfA B a e 4 (limE most ((B.drop a).take 4)))).length))] ⟨⟨rfl, by kernel_rfl⟩, trivial⟩ [0, 2] (by have e1 : ((rdY (B.drop a) e most).length : Nat) = ((B.take ((rfA B a e 4 (limE most ((B.drop a).take 4))) + (rdC (B.drop a) e most))).drop (rfA B a e 4 (limE most ((B.drop a).take 4)))).length := (by omega); have hE := congrArg (fun (q1 : Nat) => (ownV 2 kU8 0 q1 : AV)) e1; exact hE) rfl rfl rfl rfl rfl ⟨⟨rfl, (by have e1 : ((((rfA B a e 4 (limE most ((B.drop a).take 4))) + (rdC (B.drop a) e most) : Nat) : Int) : Int) = ((rfYA B a e most : Nat) : Int) := (by omega); have e2 : ((rdE (B.drop a) e 4 (limE most ((B.drop a).take 4))) : Int) = (rdYE (B.drop a) e most) := (by omega); have hE := congr (congrArg (fun (q1 : Int) (q2 : Int) => (.live (.box 99 [.d (dsl false false kU8 B), .d (.val (.int .i64 q1)), .d (.val (.int .i64 q2))]) : HS)) e1) e2; exact Eq.trans (by kernel_rfl) hE)⟩, ⟨⟨rfl, (by have e1 : (((B.take ((rfA B a e 4 (limE most ((B.drop a).take 4))) + (rdC (B.drop a) e most))).drop (rfA B a e 4 (limE most ((B.drop a).take 4)))) : List UInt8) = (rdY (B.drop a) e most) := (by omega); have hE := congrArg (fun (q1 : List UInt8) => (.live (arrK 5 kU8 q1) : HS)) e1; exact Eq.trans (by kernel_rfl) hE)⟩, trivial⟩⟩
end Go.Proofs.Ytdclfhahcfefeaa.Q
namespace Go.Proofs.Ytdclfhahcfefeaa.Q
set_option linter.unusedVariables false
set_option linter.unusedSimpArgs false

/-! ### Numbers that are read -/

theorem back_intX {n : Int} (hn : i64R n) (r : List UInt8) : rdI (intB n ++ r) 0 = n ∧ rdR (intB n ++ r) 0 8 0 = r ∧ rdE (intB n ++ r) 0 8 0 = 0 := by
  have hk : okT (intB n ++ r) 0 8 0 := okT_app (int_len n)
  refine ⟨?_, ?_, rdE_ok hk⟩
  · rw [rdI, if_pos hk, take_app (int_len n), intB, num_spell (Nat.lt_of_lt_of_le (u64_lt n) (by decide)), toI64_u64 hn]
  · rw [rdR_ok hk]; exact drop_app (int_len n)
theorem u64_toI64 {n : Nat} (h : n < 18446744073709551616) : u64 (toI64 n) = n := by unfold toI64 u64; split <;> omega
theorem rdI_range (r : List UInt8) (e : Int) : i64R (rdI r e) := by
  unfold rdI i64R
  split
  · have := numL_lt8 (l := r.take 8) (List.length_take_le _ _)
    unfold toI64
    split <;> omega
  · omega
theorem read_intX {r : List UInt8} {e : Int} (h : rdE r e 8 0 = 0) : e = 0 ∧ r = intB (rdI r e) ++ rdR r e 8 0 := by
  have h1 := okT_of h
  have h8 : (r.take 8).length = 8 := by have := h1.2.1; rw [List.length_take]; omega
  have hn := numL_lt8 (l := r.take 8) (by omega)
  refine ⟨h1.1, ?_⟩
  rw [rdI, if_pos h1, rdR_ok h1, intB, u64_toI64 hn]
  have := spell_num (r.take 8) []
  rw [List.nil_append, h8] at this
  rw [this]
  exact (List.take_append_drop 8 r).symm
theorem rdX_ok {r : List UInt8} {e : Int} (h : rdX r e = 0) : e = 0 ∧ r = [] := by
  unfold rdX at h
  split at h
  · cases h
  · rename_i h1
    refine ⟨h, ?_⟩
    cases r with
    | nil => rfl
    | cons a r => exact absurd ⟨h, by simp <;> omega⟩ h1
theorem rdX_nil : rdX [] 0 = 0 := rfl
end Go.Proofs.Ytdclfhahcfefeaa.Q
