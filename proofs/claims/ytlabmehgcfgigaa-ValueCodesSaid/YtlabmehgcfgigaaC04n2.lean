import Derived.Test.YtlabmehgcfgigaaC04n1
namespace Go.Proofs.Ytlabmehgcfgigaa.Q
open Go Go.RowKit
set_option linter.unusedVariables false
set_option linter.unusedSimpArgs false
set_option maxRecDepth 100000
set_option maxHeartbeats 4000000
-- (*quaestor/quaestorref01.Reader).Count
theorem ref01_rCount (B : List UInt8) (a : Nat) (e : Int) (most : Int) (ha : a ≤ B.length) (hB : B.length ≤ 140737488350000) : Holds Try.prog 96 ⟨[pv 0 0, dv (.int .i64 most)], [.box 52 [.d (dsl false false kU8 B), .d (.val (.int .i64 ((a : Nat) : Int))), .d (.val (.int .i64 e))]], dv (.int .i64 ((rdC (B.drop a) e most : Nat) : Int)), [.live (.box 52 [.d (dsl false false kU8 B), .d (.val (.int .i64 ((rfA B a e 4 (limE most ((B.drop a).take 4)) : Nat) : Int))), .d (.val (.int .i64 (rdE (B.drop a) e 4 (limE most ((B.drop a).take 4)))))])]⟩ := by
  refine Holds.of Try.func96 rfl (N := 39) Try.ntmps96 rfl fun w0 B0 S0 U0 => ?_
  show T _ (mkBase 39 1 w0 S0 U0 B0) ⟨[pv 0 0, dv (.int .i64 most)], [.live (.box 52 [.d (dsl false false kU8 B), .d (.val (.int .i64 ((a : Nat) : Int))), .d (.val (.int .i64 e))])]⟩ _ _
  have hn4 := rfN_lt4 B a
  refine T.seq ?_
  refine xR [] (by kernel_rfl) (by kernel_rfl) ?_
  refine nT ?_
  refine T.seq ?_
  refine T.seq ?_
  refine xR [] (by kernel_rfl) (by kernel_rfl) ?_
  refine nT ?_
  by_cases hq1 : e ≠ 0
  · have hr := rf_e (B := B) (a := a) hq1 4 (limE most ((B.drop a).take 4))
    refine T.condT (by kernel_rfl) (decide_eq_true hq1) ?_
    refine T.seq ?_
    refine xR [] (by kernel_rfl) (by kernel_rfl) ?_
    refine nT ?_
    refine T.ret ?_
    refine rT ?_
    exact tE (.inl rfl) [.t 4 (.one (.d (.val (.int .i64 0))))] ⟨⟨rfl, by kernel_rfl⟩, trivial⟩ [0] (by have e1 : (((rdC (B.drop a) e most : Nat) : Int) : Int) = 0 := (by (simp only [rdC]; (rw [if_neg hr.1]; rfl))); have hE := congrArg (fun (q1 : Int) => (dv (.int .i64 q1) : AV)) e1; exact hE) rfl rfl rfl rfl rfl ⟨⟨rfl, (by have e1 : (((a : Nat) : Int) : Int) = ((rfA B a e 4 (limE most ((B.drop a).take 4)) : Nat) : Int) := (by (rw [rfA_no hr.1])); have e2 : (e : Int) = (rdE (B.drop a) e 4 (limE most ((B.drop a).take 4))) := (by exact hr.2.symm); have hE := congr (congrArg (fun (q1 : Int) (q2 : Int) => (.live (.box 52 [.d (dsl false false kU8 B), .d (.val (.int .i64 q1)), .d (.val (.int .i64 q2))]) : HS)) e1) e2; exact Eq.trans (by kernel_rfl) hE)⟩, trivial⟩
  · refine T.condF (by kernel_rfl) (decide_eq_false hq1) ?_
    refine T.skip ?_
    refine nT ?_
    refine T.seq ?_
    refine xR [hR 1 rfl rfl (r_call (ref01_number B a e 4 (by assumption) (by assumption) (by omega)) Try.func95 rfl (by decide) [0] [] (l := [(.tmp 13, pv 0 0), (.const (.int .i64 4), dv (.int .i64 4))]) [] rfl 1 1 rfl rfl rfl rfl rfl rfl rfl rfl rfl ⟨.inl ⟨rfl, rfl⟩, ⟨.inl ⟨rfl, rfl⟩, trivial⟩⟩ rfl (fun b hb => by cases hb) (.inl rfl) (lt_of rfl) ⟨rfl, trivial⟩)] (by kernel_rfl) (by kernel_rfl) ?_
    refine nT ?_
    refine T.seq ?_
    refine T.seq ?_
    refine xR [] (by kernel_rfl) (by kernel_rfl) ?_
    refine nT ?_
    by_cases hq2 : a + 4 ≤ B.length
    · refine T.condF (by kernel_rfl) (congrArg Bool.not (decide_eq_true hq2)) ?_
      refine T.skip ?_
      refine nT ?_
      refine T.seq ?_
      refine T.seq ?_
      refine xR [hR 1 rfl rfl (r_conv (u := .int .u64 ((rfN B a 4 : Nat) : Int)) (v := .int .i64 ((rfN B a 4 : Nat) : Int)) (c_int Try.underlying64 Try.underlying3 (by rw [IntKind.wrap_i64]; omega)) (lt_of rfl) trivial),
        hR 3 rfl rfl (r_max (k := .i64) (a := 0) (b := most) (lt_of rfl) ⟨rfl, trivial⟩)] (by kernel_rfl) (by kernel_rfl) ?_
      refine nT ?_
      by_cases hq3 : ((rfN B a 4 : Nat) : Int) > (max 0 most)
      · have hr := rf_m (n := 4) (k := 4) (c := 11) (m := (limE most ((B.drop a).take 4))) rfl (by assumption) (by assumption) (by rw [lim_of (by assumption), if_pos (by assumption)]) (by decide)
        refine T.condT (by kernel_rfl) (decide_eq_true hq3) ?_
        refine T.seq ?_
        refine xR [] (by kernel_rfl) (by kernel_rfl) ?_
        refine nT ?_
        refine T.seq ?_
        refine xR [] (by kernel_rfl) (by kernel_rfl) ?_
        refine nT ?_
        refine T.ret ?_
        refine rT ?_
        exact tE (.inl rfl) [.t 4 (.one (.d (.val (.int .i64 0))))] ⟨⟨rfl, by kernel_rfl⟩, trivial⟩ [0] (by have e1 : (((rdC (B.drop a) e most : Nat) : Int) : Int) = 0 := (by (simp only [rdC]; (rw [if_neg hr.1]; rfl))); have hE := congrArg (fun (q1 : Int) => (dv (.int .i64 q1) : AV)) e1; exact hE) rfl rfl rfl rfl rfl ⟨⟨rfl, (by have e1 : (((a : Nat) : Int) : Int) = ((rfA B a e 4 (limE most ((B.drop a).take 4)) : Nat) : Int) := (by (rw [rfA_no hr.1])); have e2 : (11 : Int) = (rdE (B.drop a) e 4 (limE most ((B.drop a).take 4))) := (by exact hr.2.symm); have hE := congr (congrArg (fun (q1 : Int) (q2 : Int) => (.live (.box 52 [.d (dsl false false kU8 B), .d (.val (.int .i64 q1)), .d (.val (.int .i64 q2))]) : HS)) e1) e2; exact Eq.trans (by kernel_rfl) hE)⟩, trivial⟩
      · have hr := rf_ok (n := 4) (k := 4) (m := (limE most ((B.drop a).take 4))) rfl (by assumption) (by assumption) (by rw [lim_of (by assumption), if_neg (by assumption)])
        refine T.condF (by kernel_rfl) (decide_eq_false hq3) ?_
        refine T.skip ?_
        refine nT ?_
        refine T.seq ?_
        refine xR [hR 4 rfl rfl (r_bin (u1 := .int .i64 ((a : Nat) : Int)) (u2 := .int .i64 4) (v := .int .i64 ((a + 4 : Nat) : Int)) (b_add (by rw [IntKind.wrap_i64]; omega)) (lt_of rfl) ⟨rfl, trivial⟩)] (by kernel_rfl) (by kernel_rfl) ?_
        refine nT ?_
        refine T.seq ?_
        refine xR [hR 1 rfl rfl (r_conv (u := .int .u64 ((rfN B a 4 : Nat) : Int)) (v := .int .i64 ((rfN B a 4 : Nat) : Int)) (c_int Try.underlying64 Try.underlying3 (by rw [IntKind.wrap_i64]; omega)) (lt_of rfl) trivial)] (by kernel_rfl) (by kernel_rfl) ?_
        refine nT ?_
        refine T.ret ?_
        exact tE (.inl rfl) [.t 4 (.one (.d (.val (.int .i64 ((rfN B a 4 : Nat) : Int)))))] ⟨⟨rfl, by kernel_rfl⟩, trivial⟩ [0] (by have e1 : (((rdC (B.drop a) e most : Nat) : Int) : Int) = ((rfN B a 4 : Nat) : Int) := (by (simp only [rdC]; (rw [if_pos hr.1, ← rfN_ok (by assumption)]; done))); have hE := congrArg (fun (q1 : Int) => (dv (.int .i64 q1) : AV)) e1; exact hE) rfl rfl rfl rfl rfl ⟨⟨rfl, (by have e1 : (((a + 4 : Nat) : Int) : Int) = ((rfA B a e 4 (limE most ((B.drop a).take 4)) : Nat) : Int) := (by (rw [rfA_ok hr.1]; rfl)); have e2 : (e : Int) = (rdE (B.drop a) e 4 (limE most ((B.drop a).take 4))) := (by (rw [hr.2]; omega)); have hE := congr (congrArg (fun (q1 : Int) (q2 : Int) => (.live (.box 52 [.d (dsl false false kU8 B), .d (.val (.int .i64 q1)), .d (.val (.int .i64 q2))]) : HS)) e1) e2; exact Eq.trans (by kernel_rfl) hE)⟩, trivial⟩
    · have hr := rf_short (n := 4) (k := 4) rfl (by assumption) hq2 ha (limE most ((B.drop a).take 4))
      refine T.condT (by kernel_rfl) (congrArg Bool.not (decide_eq_false hq2)) ?_
      refine T.seq ?_
      refine xR [] (by kernel_rfl) (by kernel_rfl) ?_
      refine nT ?_
      refine T.seq ?_
      refine xR [] (by kernel_rfl) (by kernel_rfl) ?_
      refine nT ?_
      refine T.ret ?_
      refine rT ?_
      exact tE (.inl rfl) [.t 4 (.one (.d (.val (.int .i64 0))))] ⟨⟨rfl, by kernel_rfl⟩, trivial⟩ [0] (by have e1 : (((rdC (B.drop a) e most : Nat) : Int) : Int) = 0 := (by (simp only [rdC]; (rw [if_neg hr.1]; rfl))); have hE := congrArg (fun (q1 : Int) => (dv (.int .i64 q1) : AV)) e1; exact hE) rfl rfl rfl rfl rfl ⟨⟨rfl, (by have e1 : (((a : Nat) : Int) : Int) = ((rfA B a e 4 (limE most ((B.drop a).take 4)) : Nat) : Int) := (by (rw [rfA_no hr.1])); have e2 : (10 : Int) = (rdE (B.drop a) e 4 (limE most ((B.drop a).take 4))) := (by exact hr.2.symm); have hE := congr (congrArg (fun (q1 : Int) (q2 : Int) => (.live (.box 52 [.d (dsl false false kU8 B), .d (.val (.int .i64 q1)), .d (.val (.int .i64 q2))]) : HS)) e1) e2; exact Eq.trans (by kernel_rfl) hE)⟩, trivial⟩
end Go.Proofs.Ytlabmehgcfgigaa.Q
namespace Go.Proofs.Ytlabmehgcfgigaa.Q
open Go Go.RowKit
set_option linter.unusedVariables false
set_option linter.unusedSimpArgs false
set_option maxRecDepth 100000
set_option maxHeartbeats 4000000
-- (*quaestor/quaestorref01.Reader).Num
theorem ref01_rNum (B : List UInt8) (a : Nat) (e : Int) (ha : a ≤ B.length) (hB : B.length ≤ 140737488350000) : Holds Try.prog 71 ⟨[pv 0 0], [.box 52 [.d (dsl false false kU8 B), .d (.val (.int .i64 ((a : Nat) : Int))), .d (.val (.int .i64 e))]], dv (.float .f64 (rdN (B.drop a) e)), [.live (.box 52 [.d (dsl false false kU8 B), .d (.val (.int .i64 ((rfA B a e 8 (floatE ((B.drop a).take 8)) : Nat) : Int))), .d (.val (.int .i64 (rdE (B.drop a) e 8 (floatE ((B.drop a).take 8)))))])]⟩ := by
  refine Holds.of Try.func71 rfl (N := 41) Try.ntmps71 rfl fun w0 B0 S0 U0 => ?_
  show T _ (mkBase 41 1 w0 S0 U0 B0) ⟨[pv 0 0], [.live (.box 52 [.d (dsl false false kU8 B), .d (.val (.int .i64 ((a : Nat) : Int))), .d (.val (.int .i64 e))])]⟩ _ _
  have hn8 := rfN_lt B a (m := 8) (by decide)
  refine T.seq ?_
  refine xR [] (by kernel_rfl) (by kernel_rfl) ?_
  refine nT ?_
  refine T.seq ?_
  refine T.seq ?_
  refine xR [] (by kernel_rfl) (by kernel_rfl) ?_
  refine nT ?_
  by_cases hq1 : e ≠ 0
  · have hr := rf_e (B := B) (a := a) hq1 8 (floatE ((B.drop a).take 8))
    refine T.condT (by kernel_rfl) (decide_eq_true hq1) ?_
    refine T.seq ?_
    refine xR [] (by kernel_rfl) (by kernel_rfl) ?_
    refine nT ?_
    refine T.ret ?_
    refine rT ?_
    exact tE (.inl rfl) [.t 2 (.one (.d (.val (.float .f64 0))))] ⟨⟨rfl, by kernel_rfl⟩, trivial⟩ [0] (by have e1 : ((rdN (B.drop a) e) : Nat) = 0 := (by (simp only [rdN]; (rw [if_neg hr.1]; done))); have hE := congrArg (fun (q1 : Nat) => (dv (.float .f64 q1) : AV)) e1; exact hE) rfl rfl rfl rfl rfl ⟨⟨rfl, (by have e1 : (((a : Nat) : Int) : Int) = ((rfA B a e 8 (floatE ((B.drop a).take 8)) : Nat) : Int) := (by (rw [rfA_no hr.1])); have e2 : (e : Int) = (rdE (B.drop a) e 8 (floatE ((B.drop a).take 8))) := (by exact hr.2.symm); have hE := congr (congrArg (fun (q1 : Int) (q2 : Int) => (.live (.box 52 [.d (dsl false false kU8 B), .d (.val (.int .i64 q1)), .d (.val (.int .i64 q2))]) : HS)) e1) e2; exact Eq.trans (by kernel_rfl) hE)⟩, trivial⟩
  · refine T.condF (by kernel_rfl) (decide_eq_false hq1) ?_
    refine T.skip ?_
    refine nT ?_
    refine T.seq ?_
    refine xR [hR 1 rfl rfl (r_call (ref01_number B a e 8 (by assumption) (by assumption) (by omega)) Try.func95 rfl (by decide) [0] [] (l := [(.tmp 12, pv 0 0), (.const (.int .i64 8), dv (.int .i64 8))]) [] rfl 1 1 rfl rfl rfl rfl rfl rfl rfl rfl rfl ⟨.inl ⟨rfl, rfl⟩, ⟨.inl ⟨rfl, rfl⟩, trivial⟩⟩ rfl (fun b hb => by cases hb) (.inl rfl) (lt_of rfl) ⟨rfl, trivial⟩)] (by kernel_rfl) (by kernel_rfl) ?_
    refine nT ?_
    refine T.seq ?_
    refine T.seq ?_
    refine xR [] (by kernel_rfl) (by kernel_rfl) ?_
    refine nT ?_
    by_cases hq2 : a + 8 ≤ B.length
    · refine T.condF (by kernel_rfl) (congrArg Bool.not (decide_eq_true hq2)) ?_
      refine T.skip ?_
      refine nT ?_
      refine T.seq ?_
      refine xR [hR 1 rfl rfl (r_ext1 (u := .int .u64 ((rfN B a 8 : Nat) : Int)) (v := .float .f64 (rfN B a 8)) (e := Extern.MathFloatBits.float64frombits) Try.func85 (by kernel_rfl) (by kernel_rfl) (by kernel_rfl) (by kernel_rfl) (fun w => rfl) (lt_of rfl) trivial)] (by kernel_rfl) (by kernel_rfl) ?_
      refine nT ?_
      refine T.seq ?_
      refine T.seq ?_
      by_cases hq3 : (nanB (rfN B a 8)) = true
      · refine xR [hR 2 rfl rfl (r_bin (u1 := .float .f64 (rfN B a 8)) (u2 := .float .f64 (rfN B a 8)) (v := .bool (nanB (rfN B a 8))) b_nan (lt_of rfl) trivial),
          hY 4 hq3,
          hY 5 hq3,
          hP 6 hq3] (by kernel_rfl) (by kernel_rfl) ?_
        refine nT ?_
        by_cases hq4 : ((rfN B a 8 : Nat) : Int) ≠ 9221120237041090561
        · have hr := rf_m (n := 8) (k := 8) (c := 12) (m := (floatE ((B.drop a).take 8))) rfl (by assumption) (by assumption) (by rw [float_of (by assumption), if_pos ⟨by assumption, hq4⟩]) (by decide)
          refine T.condT (by kernel_rfl) (decide_eq_true hq4) ?_
          refine T.seq ?_
          refine xR [] (by kernel_rfl) (by kernel_rfl) ?_
          refine nT ?_
          refine T.seq ?_
          refine xR [] (by kernel_rfl) (by kernel_rfl) ?_
          refine nT ?_
          refine T.ret ?_
          refine rT ?_
          exact tE (.inl rfl) [.t 2 (.one (.d (.val (.float .f64 0))))] ⟨⟨rfl, by kernel_rfl⟩, trivial⟩ [0] (by have e1 : ((rdN (B.drop a) e) : Nat) = 0 := (by (simp only [rdN]; (rw [if_neg hr.1]; done))); have hE := congrArg (fun (q1 : Nat) => (dv (.float .f64 q1) : AV)) e1; exact hE) rfl rfl rfl rfl rfl ⟨⟨rfl, (by have e1 : (((a : Nat) : Int) : Int) = ((rfA B a e 8 (floatE ((B.drop a).take 8)) : Nat) : Int) := (by (rw [rfA_no hr.1])); have e2 : (12 : Int) = (rdE (B.drop a) e 8 (floatE ((B.drop a).take 8))) := (by exact hr.2.symm); have hE := congr (congrArg (fun (q1 : Int) (q2 : Int) => (.live (.box 52 [.d (dsl false false kU8 B), .d (.val (.int .i64 q1)), .d (.val (.int .i64 q2))]) : HS)) e1) e2; exact Eq.trans (by kernel_rfl) hE)⟩, trivial⟩
        · have hr := rf_ok (n := 8) (k := 8) (m := (floatE ((B.drop a).take 8))) rfl (by assumption) (by assumption) (by rw [float_of (by assumption), if_neg (fun h1 => h1.2 (Classical.not_not.1 hq4))])
          refine T.condF (by kernel_rfl) (decide_eq_false hq4) ?_
          refine T.skip ?_
          refine nT ?_
          refine T.seq ?_
          refine xR [hR 4 rfl rfl (r_bin (u1 := .int .i64 ((a : Nat) : Int)) (u2 := .int .i64 8) (v := .int .i64 ((a + 8 : Nat) : Int)) (b_add (by rw [IntKind.wrap_i64]; omega)) (lt_of rfl) ⟨rfl, trivial⟩)] (by kernel_rfl) (by kernel_rfl) ?_
          refine nT ?_
          refine T.seq ?_
          refine xR [] (by kernel_rfl) (by kernel_rfl) ?_
          refine nT ?_
          refine T.ret ?_
          exact tE (.inl rfl) [.t 2 (.one (.d (.val (.float .f64 (rfN B a 8)))))] ⟨⟨rfl, by kernel_rfl⟩, trivial⟩ [0] (by have e1 : ((rdN (B.drop a) e) : Nat) = rfN B a 8 := (by (simp only [rdN]; (rw [if_pos hr.1, ← rfN_ok (by assumption)]; done))); have hE := congrArg (fun (q1 : Nat) => (dv (.float .f64 q1) : AV)) e1; exact hE) rfl rfl rfl rfl rfl ⟨⟨rfl, (by have e1 : (((a + 8 : Nat) : Int) : Int) = ((rfA B a e 8 (floatE ((B.drop a).take 8)) : Nat) : Int) := (by (rw [rfA_ok hr.1]; rfl)); have e2 : (e : Int) = (rdE (B.drop a) e 8 (floatE ((B.drop a).take 8))) := (by (rw [hr.2]; omega)); have hE := congr (congrArg (fun (q1 : Int) (q2 : Int) => (.live (.box 52 [.d (dsl false false kU8 B), .d (.val (.int .i64 q1)), .d (.val (.int .i64 q2))]) : HS)) e1) e2; exact Eq.trans (by kernel_rfl) hE)⟩, trivial⟩
      · have hr := rf_ok (n := 8) (k := 8) (m := (floatE ((B.drop a).take 8))) rfl (by assumption) (by assumption) (by rw [float_of (by assumption), if_neg (fun h1 => hq3 h1.1)])
        replace hq3 := Bool.eq_false_iff.2 hq3
        refine xR [hR 2 rfl rfl (r_bin (u1 := .float .f64 (rfN B a 8)) (u2 := .float .f64 (rfN B a 8)) (v := .bool (nanB (rfN B a 8))) b_nan (lt_of rfl) trivial),
          hN 4 true hq3,
          hN 5 true hq3,
          hP 6 hq3] (by kernel_rfl) (by kernel_rfl) ?_
        refine nT ?_
        refine T.condF (b := false) (by kernel_rfl) rfl ?_
        refine T.skip ?_
        refine nT ?_
        refine T.seq ?_
        refine xR [hR 4 rfl rfl (r_bin (u1 := .int .i64 ((a : Nat) : Int)) (u2 := .int .i64 8) (v := .int .i64 ((a + 8 : Nat) : Int)) (b_add (by rw [IntKind.wrap_i64]; omega)) (lt_of rfl) ⟨rfl, trivial⟩)] (by kernel_rfl) (by kernel_rfl) ?_
        refine nT ?_
        refine T.seq ?_
        refine xR [] (by kernel_rfl) (by kernel_rfl) ?_
        refine nT ?_
        refine T.ret ?_
        exact tE (.inl rfl) [.t 2 (.one (.d (.val (.float .f64 (rfN B a 8)))))] ⟨⟨rfl, by kernel_rfl⟩, trivial⟩ [0] (by have e1 : ((rdN (B.drop a) e) : Nat) = rfN B a 8 := (by (simp only [rdN]; (rw [if_pos hr.1, ← rfN_ok (by assumption)]; done))); have hE := congrArg (fun (q1 : Nat) => (dv (.float .f64 q1) : AV)) e1; exact hE) rfl rfl rfl rfl rfl ⟨⟨rfl, (by have e1 : (((a + 8 : Nat) : Int) : Int) = ((rfA B a e 8 (floatE ((B.drop a).take 8)) : Nat) : Int) := (by (rw [rfA_ok hr.1]; rfl)); have e2 : (e : Int) = (rdE (B.drop a) e 8 (floatE ((B.drop a).take 8))) := (by (rw [hr.2]; omega)); have hE := congr (congrArg (fun (q1 : Int) (q2 : Int) => (.live (.box 52 [.d (dsl false false kU8 B), .d (.val (.int .i64 q1)), .d (.val (.int .i64 q2))]) : HS)) e1) e2; exact Eq.trans (by kernel_rfl) hE)⟩, trivial⟩
    · have hr := rf_short (n := 8) (k := 8) rfl (by assumption) hq2 ha (floatE ((B.drop a).take 8))
      refine T.condT (by kernel_rfl) (congrArg Bool.not (decide_eq_false hq2)) ?_
      refine T.seq ?_
      refine xR [] (by kernel_rfl) (by kernel_rfl) ?_
      refine nT ?_
      refine T.seq ?_
      refine xR [] (by kernel_rfl) (by kernel_rfl) ?_
      refine nT ?_
      refine T.ret ?_
      refine rT ?_
      exact tE (.inl rfl) [.t 2 (.one (.d (.val (.float .f64 0))))] ⟨⟨rfl, by kernel_rfl⟩, trivial⟩ [0] (by have e1 : ((rdN (B.drop a) e) : Nat) = 0 := (by (simp only [rdN]; (rw [if_neg hr.1]; done))); have hE := congrArg (fun (q1 : Nat) => (dv (.float .f64 q1) : AV)) e1; exact hE) rfl rfl rfl rfl rfl ⟨⟨rfl, (by have e1 : (((a : Nat) : Int) : Int) = ((rfA B a e 8 (floatE ((B.drop a).take 8)) : Nat) : Int) := (by (rw [rfA_no hr.1])); have e2 : (10 : Int) = (rdE (B.drop a) e 8 (floatE ((B.drop a).take 8))) := (by exact hr.2.symm); have hE := congr (congrArg (fun (q1 : Int) (q2 : Int) => (.live (.box 52 [.d (dsl false false kU8 B), .d (.val (.int .i64 q1)), .d (.val (.int .i64 q2))]) : HS)) e1) e2; exact Eq.trans (by kernel_rfl) hE)⟩, trivial⟩
end Go.Proofs.Ytlabmehgcfgigaa.Q
namespace Go.Proofs.Ytlabmehgcfgigaa.Q
open Go Go.RowKit
set_option linter.unusedVariables false
set_option linter.unusedSimpArgs false
set_option maxRecDepth 100000
set_option maxHeartbeats 4000000
-- (*quaestor/quaestorref01.Reader).Left
theorem ref01_rLeft (B : List UInt8) (a : Nat) (e : Int) (ha : a ≤ B.length) (hB : B.length ≤ 140737488350000) : Holds Try.prog 41 ⟨[pv 0 0], [.box 52 [.d (dsl false false kU8 B), .d (.val (.int .i64 ((a : Nat) : Int))), .d (.val (.int .i64 e))]], dv (.int .i64 (((B.drop a).length : Nat) : Int)), [.live (.box 52 [.d (dsl false false kU8 B), .d (.val (.int .i64 ((a : Nat) : Int))), .d (.val (.int .i64 e))])]⟩ := by
  refine Holds.of Try.func41 rfl (N := 13) Try.ntmps41 rfl fun w0 B0 S0 U0 => ?_
  show T _ (mkBase 13 1 w0 S0 U0 B0) ⟨[pv 0 0], [.live (.box 52 [.d (dsl false false kU8 B), .d (.val (.int .i64 ((a : Nat) : Int))), .d (.val (.int .i64 e))])]⟩ _ _
  refine T.seq ?_
  refine xR [] (by kernel_rfl) (by kernel_rfl) ?_
  refine nT ?_
  refine T.seq ?_
  refine xD [[], [0], [0, 1], [0, 1, 2], [0, 1, 2, 3], [], [5], [5, 6], [5, 6, 7], [0, 1, 2, 3, 4, 5, 6, 7, 8], [0, 1, 2, 3, 4, 5, 6, 7, 8, 9]] [hR 9 rfl rfl (r_bin (u1 := .int .i64 ((B.length : Nat) : Int)) (u2 := .int .i64 ((a : Nat) : Int)) (v := .int .i64 (((B.length : Nat) : Int) - ((a : Nat) : Int))) (b_sub (by rw [IntKind.wrap_i64]; omega)) (lt_of rfl) trivial)] (by kernel_rfl) (by kernel_rfl) (by kernel_rfl) (by kernel_rfl) (by kernel_rfl) (by kernel_rfl) ?_
  refine nT ?_
  refine T.ret ?_
  exact tE (.inl rfl) [.t 2 (.one (.d (.val (.int .i64 (((B.length : Nat) : Int) - ((a : Nat) : Int))))))] ⟨⟨rfl, by kernel_rfl⟩, trivial⟩ [0] (by have e1 : ((((B.drop a).length : Nat) : Int) : Int) = ((B.length : Nat) : Int) - ((a : Nat) : Int) := (by (simp only [List.length_drop]; omega)); have hE := congrArg (fun (q1 : Int) => (dv (.int .i64 q1) : AV)) e1; exact hE) rfl rfl rfl rfl rfl ⟨⟨rfl, (by kernel_rfl)⟩, trivial⟩
end Go.Proofs.Ytlabmehgcfgigaa.Q
namespace Go.Proofs.Ytlabmehgcfgigaa.Q
open Go Go.RowKit
set_option linter.unusedVariables false
set_option linter.unusedSimpArgs false
set_option maxRecDepth 100000
set_option maxHeartbeats 4000000
-- (*quaestor/quaestorref01.Reader).Bytes
theorem ref01_rBytes (B : List UInt8) (a : Nat) (e : Int) (most : Int) (ha : a ≤ B.length) (hB : B.length ≤ 140737488350000) : Holds Try.prog 70 ⟨[pv 0 0, dv (.int .i64 most)], [.box 52 [.d (dsl false false kU8 B), .d (.val (.int .i64 ((a : Nat) : Int))), .d (.val (.int .i64 e))]], ownV 1 kU8 0 (rdY (B.drop a) e most).length, [.live (.box 52 [.d (dsl false false kU8 B), .d (.val (.int .i64 ((rfYA B a e most : Nat) : Int))), .d (.val (.int .i64 (rdYE (B.drop a) e most)))]), .live (arrK 5 kU8 (rdY (B.drop a) e most))]⟩ := by
  refine Holds.of Try.func70 rfl (N := 72) Try.ntmps70 rfl fun w0 B0 S0 U0 => ?_
  show T _ (mkBase 72 1 w0 S0 U0 B0) ⟨[pv 0 0, dv (.int .i64 most)], [.live (.box 52 [.d (dsl false false kU8 B), .d (.val (.int .i64 ((a : Nat) : Int))), .d (.val (.int .i64 e))])]⟩ _ _
  have hrc := rdC_lt (B.drop a) e most
  have hra := rfA_le (B := B) (a := a) (e := e) (n := 4) (m := (limE most ((B.drop a).take 4))) ha
  refine T.seq ?_
  refine xR [] (by kernel_rfl) (by kernel_rfl) ?_
  refine nT ?_
  refine T.seq ?_
  refine xR [] (by kernel_rfl) (by kernel_rfl) ?_
  refine nT ?_
  refine T.seq ?_
  refine xR [hR 2 rfl rfl (r_call (ref01_rCount B a e most (by assumption) (by assumption)) Try.func96 rfl (by decide) [0] [] (l := [(.tmp 12, pv 0 0), (.tmp 13, dv (.int .i64 most))]) [] rfl 1 1 rfl rfl rfl rfl rfl rfl rfl rfl rfl ⟨.inl ⟨rfl, rfl⟩, ⟨.inl ⟨rfl, rfl⟩, trivial⟩⟩ rfl (fun b hb => by cases hb) (.inl rfl) (lt_of rfl) trivial)] (by kernel_rfl) (by kernel_rfl) ?_
  refine nT ?_
  refine T.seq ?_
  refine T.seq ?_
  by_cases hq1 : (rdE (B.drop a) e 4 (limE most ((B.drop a).take 4))) = 0
  · refine xD [[], [0], [0, 1], [0, 1, 2], [0, 1, 2, 3], [0, 1, 2, 3, 4], [0, 1, 2, 3, 4, 5], [0, 1, 2, 3, 4, 5], [0, 1, 2, 3, 4, 5, 7], [0, 1, 2, 3, 4, 5, 7, 8], [0, 1, 2, 3, 4, 5, 7, 8, 9], [0, 1, 2, 3, 4, 5, 7, 8, 9, 10], [0, 1, 2, 3, 4, 5], [0, 1, 2, 3, 4, 5, 12], [0, 1, 2, 3, 4, 5, 12, 13], [0, 1, 2, 3, 4, 5, 12, 13, 14], [0, 1, 2, 3, 4, 5, 7, 8, 9, 10, 11, 12, 13, 14, 15], [0, 1, 2, 3, 4, 5, 6, 7, 8, 9, 10, 11, 12, 13, 14, 15, 16], [0, 1, 2, 3, 4, 5, 6, 7, 8, 9, 10, 11, 12, 13, 14, 15, 16, 17]] [hY 6 (decide_eq_true hq1),
      hY 7 (decide_eq_true hq1),
      hY 8 (decide_eq_true hq1),
      hY 9 (decide_eq_true hq1),
      hY 10 (decide_eq_true hq1),
      hY 11 (decide_eq_true hq1),
      hY 12 (decide_eq_true hq1),
      hY 13 (decide_eq_true hq1),
      hY 14 (decide_eq_true hq1),
      hY 15 (decide_eq_true hq1),
      hS 16 (oY rfl rfl rfl rfl (lt_of rfl) (decide_eq_true hq1) (r_bin (u1 := .int .i64 ((B.length : Nat) : Int)) (u2 := .int .i64 ((rfA B a e 4 (limE most ((B.drop a).take 4)) : Nat) : Int)) (v := .int .i64 (((B.length : Nat) : Int) - ((rfA B a e 4 (limE most ((B.drop a).take 4)) : Nat) : Int))) (b_sub (by rw [IntKind.wrap_i64]; omega)) (lt_of rfl) trivial)),
      hY 17 (decide_eq_true hq1),
      hP 18 (decide_eq_true hq1)] (by kernel_rfl) (by kernel_rfl) (by kernel_rfl) (by kernel_rfl) (by kernel_rfl) (by kernel_rfl) ?_
    refine nT ?_
    by_cases hq2 : ((rdC (B.drop a) e most : Nat) : Int) > (((B.length : Nat) : Int) - ((rfA B a e 4 (limE most ((B.drop a).take 4)) : Nat) : Int))
    · have hy := rfY_short (by assumption) hq2 ha
      refine T.condT (by kernel_rfl) (decide_eq_true hq2) ?_
      refine T.seq ?_
      refine xR [] (by kernel_rfl) (by kernel_rfl) ?_
      refine nT ?_
      refine xR [] (by kernel_rfl) (by kernel_rfl) ?_
      refine nT ?_
      refine T.seq ?_
      refine T.seq ?_
      refine xR [] (by kernel_rfl) (by kernel_rfl) ?_
      refine nT ?_
      refine T.condT (b := true) (by kernel_rfl) rfl ?_
      refine T.seq ?_
      refine xR [] (by kernel_rfl) (by kernel_rfl) ?_
      refine nT ?_
      refine T.ret ?_
      refine rT ?_
      refine Ends.turn (s' := ⟨[pv 0 0, dv (.int .i64 most), aa, aa, dv (.slice none 0 0), dv (.int .i64 ((a : Nat) : Int)), dv (.int .i64 ((rdC (B.drop a) e most : Nat) : Int)), aa, aa, aa, aa, aa, aa, aa, aa, aa, aa, aa, aa, aa, aa, aa, aa, aa, aa, aa, aa, aa, aa, aa, aa, aa, aa, dv (.bool (decide (((rdC (B.drop a) e most : Nat) : Int) > (((B.length : Nat) : Int) - ((rfA B a e 4 (limE most ((B.drop a).take 4)) : Nat) : Int))))), aa, aa, aa, aa, aa, aa, aa, aa, aa, aa, aa, dv (.bool true)], [.live (.box 52 [.d (dsl false false kU8 B), .d (.val (.int .i64 ((a : Nat) : Int))), .d (.val (.int .i64 10))])]⟩) (fun _ _ hG => Gs.norm (by kernel_rfl) hG) ?_
      refine Ends.turn (s' := ⟨[pv 0 0, dv (.int .i64 most), aa, aa, ownV 1 kU8 0 0, dv (.int .i64 ((a : Nat) : Int)), dv (.int .i64 ((rdC (B.drop a) e most : Nat) : Int)), aa, aa, aa, aa, aa, aa, aa, aa, aa, aa, aa, aa, aa, aa, aa, aa, aa, aa, aa, aa, aa, aa, aa, aa, aa, aa, dv (.bool (decide (((rdC (B.drop a) e most : Nat) : Int) > (((B.length : Nat) : Int) - ((rfA B a e 4 (limE most ((B.drop a).take 4)) : Nat) : Int))))), aa, aa, aa, aa, aa, aa, aa, aa, aa, aa, aa, dv (.bool true)], [.live (.box 52 [.d (dsl false false kU8 B), .d (.val (.int .i64 ((a : Nat) : Int))), .d (.val (.int .i64 10))]), .live (arrK 5 kU8 ([] : List UInt8))]⟩) (fun _ _ hG => Gs.absent 1 4 5 kU8 rfl rfl hG) ?_
      exact tE (.inl rfl) [.t 4 (.one (.own 1 kU8.sz 0 0))] ⟨⟨rfl, by kernel_rfl⟩, trivial⟩ [0, 1] (by have e1 : ((rdY (B.drop a) e most).length : Nat) = 0 := (by (rw [hy.1]; rfl)); have hE := congrArg (fun (q1 : Nat) => (ownV 1 kU8 0 q1 : AV)) e1; exact hE) rfl rfl rfl rfl rfl ⟨⟨rfl, (by have e1 : (((a : Nat) : Int) : Int) = ((rfYA B a e most : Nat) : Int) := (by omega); have e2 : (10 : Int) = (rdYE (B.drop a) e most) := (by omega); have hE := congr (congrArg (fun (q1 : Int) (q2 : Int) => (.live (.box 52 [.d (dsl false false kU8 B), .d (.val (.int .i64 q1)), .d (.val (.int .i64 q2))]) : HS)) e1) e2; exact Eq.trans (by kernel_rfl) hE)⟩, ⟨⟨rfl, (by have e1 : (([] : List UInt8) : List UInt8) = (rdY (B.drop a) e most) := (by exact hy.1.symm); have hE := congrArg (fun (q1 : List UInt8) => (.live (arrK 5 kU8 q1) : HS)) e1; exact Eq.trans (by kernel_rfl) hE)⟩, trivial⟩⟩
    · have hy := rfY_ok (by assumption) hq2 ha
      refine T.condF (by kernel_rfl) (decide_eq_false hq2) ?_
      refine T.skip ?_
      refine nT ?_
      refine T.seq ?_
      refine T.seq ?_
      refine xR [] (by kernel_rfl) (by kernel_rfl) ?_
      refine nT ?_
      by_cases hq3 : (rdE (B.drop a) e 4 (limE most ((B.drop a).take 4))) ≠ 0
      · refine T.condT (by kernel_rfl) (decide_eq_true hq3) ?_
        refine T.seq ?_
        refine xR [] (by kernel_rfl) (by kernel_rfl) ?_
        refine nT ?_
        refine T.ret ?_
        refine rT ?_
        refine Ends.turn (s' := ⟨[pv 0 0, dv (.int .i64 most), aa, aa, dv (.slice none 0 0), dv (.int .i64 ((a : Nat) : Int)), dv (.int .i64 ((rdC (B.drop a) e most : Nat) : Int)), aa, aa, aa, aa, aa, aa, aa, aa, aa, aa, aa, aa, aa, aa, aa, aa, aa, aa, aa, aa, aa, aa, aa, aa, aa, aa, dv (.bool (decide (((rdC (B.drop a) e most : Nat) : Int) > (((B.length : Nat) : Int) - ((rfA B a e 4 (limE most ((B.drop a).take 4)) : Nat) : Int))))), aa, aa, aa, aa, aa, aa, aa, aa, aa, aa, aa, dv (.bool (decide ((rdE (B.drop a) e 4 (limE most ((B.drop a).take 4))) ≠ 0)))], [.live (.box 52 [.d (dsl false false kU8 B), .d (.val (.int .i64 ((rfA B a e 4 (limE most ((B.drop a).take 4)) : Nat) : Int))), .d (.val (.int .i64 (rdE (B.drop a) e 4 (limE most ((B.drop a).take 4)))))])]⟩) (fun _ _ hG => Gs.norm (by kernel_rfl) hG) ?_
        refine Ends.turn (s' := ⟨[pv 0 0, dv (.int .i64 most), aa, aa, ownV 1 kU8 0 0, dv (.int .i64 ((a : Nat) : Int)), dv (.int .i64 ((rdC (B.drop a) e most : Nat) : Int)), aa, aa, aa, aa, aa, aa, aa, aa, aa, aa, aa, aa, aa, aa, aa, aa, aa, aa, aa, aa, aa, aa, aa, aa, aa, aa, dv (.bool (decide (((rdC (B.drop a) e most : Nat) : Int) > (((B.length : Nat) : Int) - ((rfA B a e 4 (limE most ((B.drop a).take 4)) : Nat) : Int))))), aa, aa, aa, aa, aa, aa, aa, aa, aa, aa, aa, dv (.bool (decide ((rdE (B.drop a) e 4 (limE most ((B.drop a).take 4))) ≠ 0)))], [.live (.box 52 [.d (dsl false false kU8 B), .d (.val (.int .i64 ((rfA B a e 4 (limE most ((B.drop a).take 4)) : Nat) : Int))), .d (.val (.int .i64 (rdE (B.drop a) e 4 (limE most ((B.drop a).take 4)))))]), .live (arrK 5 kU8 ([] : List UInt8))]⟩) (fun _ _ hG => Gs.absent 1 4 5 kU8 rfl rfl hG) ?_
        exact tE (.inl rfl) [.t 4 (.one (.own 1 kU8.sz 0 0))] ⟨⟨rfl, by kernel_rfl⟩, trivial⟩ [0, 1] (by have e1 : ((rdY (B.drop a) e most).length : Nat) = 0 := (by omega); have hE := congrArg (fun (q1 : Nat) => (ownV 1 kU8 0 q1 : AV)) e1; exact hE) rfl rfl rfl rfl rfl ⟨⟨rfl, (by have e1 : (((rfA B a e 4 (limE most ((B.drop a).take 4)) : Nat) : Int) : Int) = ((rfYA B a e most : Nat) : Int) := (by omega); have e2 : ((rdE (B.drop a) e 4 (limE most ((B.drop a).take 4))) : Int) = (rdYE (B.drop a) e most) := (by omega); have hE := congr (congrArg (fun (q1 : Int) (q2 : Int) => (.live (.box 52 [.d (dsl false false kU8 B), .d (.val (.int .i64 q1)), .d (.val (.int .i64 q2))]) : HS)) e1) e2; exact Eq.trans (by kernel_rfl) hE)⟩, ⟨⟨rfl, (by have e1 : (([] : List UInt8) : List UInt8) = (rdY (B.drop a) e most) := (by omega); have hE := congrArg (fun (q1 : List UInt8) => (.live (arrK 5 kU8 q1) : HS)) e1; exact Eq.trans (by kernel_rfl) hE)⟩, trivial⟩⟩
      · refine T.condF (by kernel_rfl) (decide_eq_false hq3) ?_
        refine T.skip ?_
        refine nT ?_
        refine T.seq ?_
        refine xD [[], [], [1], [1, 2], [1, 2, 3], [], [5], [5, 6], [5, 6, 7], [], [9], [9, 10], [9, 10, 11], [], [9, 10, 11, 12, 13], [1, 2, 3, 4, 5, 6, 7, 8, 9, 10, 11, 12, 13, 14], [0, 1, 2, 3, 4, 5, 6, 7, 8, 9, 10, 11, 12, 13, 14, 15], [0, 1, 2, 3, 4, 5, 6, 7, 8, 9, 10, 11, 12, 13, 14, 15, 16]] [hR 0 rfl rfl (q_buildSlice 1 5 kU8 kU8_ok ([] : List UInt8) [] (cs := []) Try.underlying47 iat_5 rfl zero_5 rfl rfl rfl (Nat.le_of_ble_eq_true rfl) part_ok (by kernel_rfl) (wk_eq (by kernel_rfl)) (lt_of rfl) trivial),
          hR 14 rfl rfl (r_bin (u1 := .int .i64 ((rfA B a e 4 (limE most ((B.drop a).take 4)) : Nat) : Int)) (u2 := .int .i64 ((rdC (B.drop a) e most : Nat) : Int)) (v := .int .i64 (((rfA B a e 4 (limE most ((B.drop a).take 4))) + (rdC (B.drop a) e most) : Nat) : Int)) (b_add (by rw [IntKind.wrap_i64]; omega)) (lt_of rfl) trivial),
          hR 15 rfl rfl (q_slice false false kU8 B ((B.take ((rfA B a e 4 (limE most ((B.drop a).take 4))) + (rdC (B.drop a) e most))).drop (rfA B a e 4 (limE most ((B.drop a).take 4)))) (rfA B a e 4 (limE most ((B.drop a).take 4))) ((rfA B a e 4 (limE most ((B.drop a).take 4))) + (rdC (B.drop a) e most)) (lo := some (.tmp 54, ((rfA B a e 4 (limE most ((B.drop a).take 4)) : Nat) : Int))) (hi := some (.tmp 60, (((rfA B a e 4 (limE most ((B.drop a).take 4))) + (rdC (B.drop a) e most) : Nat) : Int))) Try.underlying47 iat_5 rfl rfl rfl rfl rfl (by omega) (by omega) rfl (lt_of rfl) trivial),
          hR 16 rfl rfl (q_appendO 1 2 5 1 kU8 kU8_ok ([] : List UInt8) ((B.take ((rfA B a e 4 (limE most ((B.drop a).take 4))) + (rdC (B.drop a) e most))).drop (rfA B a e 4 (limE most ((B.drop a).take 4)))) ((B.take ((rfA B a e 4 (limE most ((B.drop a).take 4))) + (rdC (B.drop a) e most))).drop (rfA B a e 4 (limE most ((B.drop a).take 4)))) ([] : List UInt8).length (sy := (.d (dsl false false kU8 ((B.take ((rfA B a e 4 (limE most ((B.drop a).take 4))) + (rdC (B.drop a) e most))).drop (rfA B a e 4 (limE most ((B.drop a).take 4))))))) (rhs := []) elem_47 (by omega) (src_sl false false kU8 ((B.take ((rfA B a e 4 (limE most ((B.drop a).take 4))) + (rdC (B.drop a) e most))).drop (rfA B a e 4 (limE most ((B.drop a).take 4))))) (by simp) (by (simp [maxLen, -List.getD_eq_getElem?_getD] <;> omega)) (by (simp [maxLen, -List.getD_eq_getElem?_getD] <;> omega)) (lt_of rfl) trivial)] (by kernel_rfl) (by kernel_rfl) (by kernel_rfl) (by kernel_rfl) (by kernel_rfl) (by kernel_rfl) ?_
        refine nT ?_
        refine T.seq ?_
        refine xR [hR 5 rfl rfl (r_bin (u1 := .int .i64 ((rfA B a e 4 (limE most ((B.drop a).take 4)) : Nat) : Int)) (u2 := .int .i64 ((rdC (B.drop a) e most : Nat) : Int)) (v := .int .i64 (((rfA B a e 4 (limE most ((B.drop a).take 4))) + (rdC (B.drop a) e most) : Nat) : Int)) (b_add (by rw [IntKind.wrap_i64]; omega)) (lt_of rfl) trivial)] (by kernel_rfl) (by kernel_rfl) ?_
        refine nT ?_
        refine T.seq ?_
        refine xR [] (by kernel_rfl) (by kernel_rfl) ?_
        refine nT ?_
        refine T.ret ?_
        exact tE (.inl rfl) [.t 4 (.one (.own 2 kU8.sz 0 ((B.take ((rfA B a e 4 (limE most ((B.drop a).take 4))) + (rdC (B.drop a) e most))).drop (rfA B a e 4 (limE most ((B.drop a).take 4)))).length))] ⟨⟨rfl, by kernel_rfl⟩, trivial⟩ [0, 2] (by have e1 : ((rdY (B.drop a) e most).length : Nat) = ((B.take ((rfA B a e 4 (limE most ((B.drop a).take 4))) + (rdC (B.drop a) e most))).drop (rfA B a e 4 (limE most ((B.drop a).take 4)))).length := (by (rw [hy.2.2.2.1, hy.1, hy.2.1]; done)); have hE := congrArg (fun (q1 : Nat) => (ownV 2 kU8 0 q1 : AV)) e1; exact hE) rfl rfl rfl rfl rfl ⟨⟨rfl, (by have e1 : ((((rfA B a e 4 (limE most ((B.drop a).take 4))) + (rdC (B.drop a) e most) : Nat) : Int) : Int) = ((rfYA B a e most : Nat) : Int) := (by omega); have e2 : ((rdE (B.drop a) e 4 (limE most ((B.drop a).take 4))) : Int) = (rdYE (B.drop a) e most) := (by omega); have hE := congr (congrArg (fun (q1 : Int) (q2 : Int) => (.live (.box 52 [.d (dsl false false kU8 B), .d (.val (.int .i64 q1)), .d (.val (.int .i64 q2))]) : HS)) e1) e2; exact Eq.trans (by kernel_rfl) hE)⟩, ⟨⟨rfl, (by have e1 : (((B.take ((rfA B a e 4 (limE most ((B.drop a).take 4))) + (rdC (B.drop a) e most))).drop (rfA B a e 4 (limE most ((B.drop a).take 4)))) : List UInt8) = (rdY (B.drop a) e most) := (by (rw [hy.2.2.2.1, hy.1, hy.2.1]; done)); have hE := congrArg (fun (q1 : List UInt8) => (.live (arrK 5 kU8 q1) : HS)) e1; exact Eq.trans (by kernel_rfl) hE)⟩, trivial⟩⟩
  · have hy := rfY_fail hq1
    refine xD [[], [0], [0, 1], [0, 1, 2], [0, 1, 2, 3], [0, 1, 2, 3, 4], [0, 1, 2, 3, 4, 5], [0, 1, 2, 3, 4, 5], [0, 1, 2, 3, 4, 5, 7], [0, 1, 2, 3, 4, 5, 7, 8], [0, 1, 2, 3, 4, 5, 7, 8, 9], [0, 1, 2, 3, 4, 5, 7, 8, 9, 10], [0, 1, 2, 3, 4, 5], [0, 1, 2, 3, 4, 5, 12], [0, 1, 2, 3, 4, 5, 12, 13], [0, 1, 2, 3, 4, 5, 12, 13, 14], [0, 1, 2, 3, 4, 5, 7, 8, 9, 10, 11, 12, 13, 14, 15], [0, 1, 2, 3, 4, 5, 6, 7, 8, 9, 10, 11, 12, 13, 14, 15, 16], [0, 1, 2, 3, 4, 5, 6, 7, 8, 9, 10, 11, 12, 13, 14, 15, 16, 17]] [hN 6 true (decide_eq_false hq1),
      hN 7 true (decide_eq_false hq1),
      hN 8 true (decide_eq_false hq1),
      hN 9 true (decide_eq_false hq1),
      hN 10 true (decide_eq_false hq1),
      hN 11 true (decide_eq_false hq1),
      hN 12 true (decide_eq_false hq1),
      hN 13 true (decide_eq_false hq1),
      hN 14 true (decide_eq_false hq1),
      hN 15 true (decide_eq_false hq1),
      hN 16 true (decide_eq_false hq1),
      hN 17 true (decide_eq_false hq1),
      hP 18 (decide_eq_false hq1)] (by kernel_rfl) (by kernel_rfl) (by kernel_rfl) (by kernel_rfl) (by kernel_rfl) (by kernel_rfl) ?_
    refine nT ?_
    refine T.condF (b := false) (by kernel_rfl) rfl ?_
    refine T.skip ?_
    refine nT ?_
    refine T.seq ?_
    refine T.seq ?_
    refine xR [] (by kernel_rfl) (by kernel_rfl) ?_
    refine nT ?_
    by_cases hq4 : (rdE (B.drop a) e 4 (limE most ((B.drop a).take 4))) ≠ 0
    · refine T.condT (by kernel_rfl) (decide_eq_true hq4) ?_
      refine T.seq ?_
      refine xR [] (by kernel_rfl) (by kernel_rfl) ?_
      refine nT ?_
      refine T.ret ?_
      refine rT ?_
      refine Ends.turn (s' := ⟨[pv 0 0, dv (.int .i64 most), aa, aa, dv (.slice none 0 0), dv (.int .i64 ((a : Nat) : Int)), dv (.int .i64 ((rdC (B.drop a) e most : Nat) : Int)), aa, aa, aa, aa, aa, aa, aa, aa, aa, aa, aa, aa, aa, aa, aa, aa, aa, aa, aa, aa, aa, aa, aa, aa, aa, aa, dv (.bool false), aa, aa, aa, aa, aa, aa, aa, aa, aa, aa, aa, dv (.bool (decide ((rdE (B.drop a) e 4 (limE most ((B.drop a).take 4))) ≠ 0)))], [.live (.box 52 [.d (dsl false false kU8 B), .d (.val (.int .i64 ((rfA B a e 4 (limE most ((B.drop a).take 4)) : Nat) : Int))), .d (.val (.int .i64 (rdE (B.drop a) e 4 (limE most ((B.drop a).take 4)))))])]⟩) (fun _ _ hG => Gs.norm (by kernel_rfl) hG) ?_
      refine Ends.turn (s' := ⟨[pv 0 0, dv (.int .i64 most), aa, aa, ownV 1 kU8 0 0, dv (.int .i64 ((a : Nat) : Int)), dv (.int .i64 ((rdC (B.drop a) e most : Nat) : Int)), aa, aa, aa, aa, aa, aa, aa, aa, aa, aa, aa, aa, aa, aa, aa, aa, aa, aa, aa, aa, aa, aa, aa, aa, aa, aa, dv (.bool false), aa, aa, aa, aa, aa, aa, aa, aa, aa, aa, aa, dv (.bool (decide ((rdE (B.drop a) e 4 (limE most ((B.drop a).take 4))) ≠ 0)))], [.live (.box 52 [.d (dsl false false kU8 B), .d (.val (.int .i64 ((rfA B a e 4 (limE most ((B.drop a).take 4)) : Nat) : Int))), .d (.val (.int .i64 (rdE (B.drop a) e 4 (limE most ((B.drop a).take 4)))))]), .live (arrK 5 kU8 ([] : List UInt8))]⟩) (fun _ _ hG => Gs.absent 1 4 5 kU8 rfl rfl hG) ?_
      exact tE (.inl rfl) [.t 4 (.one (.own 1 kU8.sz 0 0))] ⟨⟨rfl, by kernel_rfl⟩, trivial⟩ [0, 1] (by have e1 : ((rdY (B.drop a) e most).length : Nat) = 0 := (by (rw [hy.1]; rfl)); have hE := congrArg (fun (q1 : Nat) => (ownV 1 kU8 0 q1 : AV)) e1; exact hE) rfl rfl rfl rfl rfl ⟨⟨rfl, (by have e1 : (((rfA B a e 4 (limE most ((B.drop a).take 4)) : Nat) : Int) : Int) = ((rfYA B a e most : Nat) : Int) := (by omega); have e2 : ((rdE (B.drop a) e 4 (limE most ((B.drop a).take 4))) : Int) = (rdYE (B.drop a) e most) := (by omega); have hE := congr (congrArg (fun (q1 : Int) (q2 : Int) => (.live (.box 52 [.d (dsl false false kU8 B), .d (.val (.int .i64 q1)), .d (.val (.int .i64 q2))]) : HS)) e1) e2; exact Eq.trans (by kernel_rfl) hE)⟩, ⟨⟨rfl, (by have e1 : (([] : List UInt8) : List UInt8) = (rdY (B.drop a) e most) := (by exact hy.1.symm); have hE := congrArg (fun (q1 : List UInt8) => (.live (arrK 5 kU8 q1) : HS)) e1; exact Eq.trans (by kernel_rfl) hE)⟩, trivial⟩⟩
    · refine T.condF (by kernel_rfl) (decide_eq_false hq4) ?_
      refine T.skip ?_
      refine nT ?_
      refine T.seq ?_
      refine xD [[], [], [1], [1, 2], [1, 2, 3], [], [5], [5, 6], [5, 6, 7], [], [9], [9, 10], [9, 10, 11], [], [9, 10, 11, 12, 13], [1, 2, 3, 4, 5, 6, 7, 8, 9, 10, 11, 12, 13, 14], [0, 1, 2, 3, 4, 5, 6, 7, 8, 9, 10, 11, 12, 13, 14, 15], [0, 1, 2, 3, 4, 5, 6, 7, 8, 9, 10, 11, 12, 13, 14, 15, 16]] [hR 0 rfl rfl (q_buildSlice 1 5 kU8 kU8_ok ([] : List UInt8) [] (cs := []) Try.underlying47 iat_5 rfl zero_5 rfl rfl rfl (Nat.le_of_ble_eq_true rfl) part_ok (by kernel_rfl) (wk_eq (by kernel_rfl)) (lt_of rfl) trivial),
        hR 14 rfl rfl (r_bin (u1 := .int .i64 ((rfA B a e 4 (limE most ((B.drop a).take 4)) : Nat) : Int)) (u2 := .int .i64 ((rdC (B.drop a) e most : Nat) : Int)) (v := .int .i64 (((rfA B a e 4 (limE most ((B.drop a).take 4))) + (rdC (B.drop a) e most) : Nat) : Int)) (b_add (by rw [IntKind.wrap_i64]; omega)) (lt_of rfl) trivial),
        hR 15 rfl rfl (q_slice false false kU8 B ((B.take ((rfA B a e 4 (limE most ((B.drop a).take 4))) + (rdC (B.drop a) e most))).drop (rfA B a e 4 (limE most ((B.drop a).take 4)))) (rfA B a e 4 (limE most ((B.drop a).take 4))) ((rfA B a e 4 (limE most ((B.drop a).take 4))) + (rdC (B.drop a) e most)) (lo := some (.tmp 54, ((rfA B a e 4 (limE most ((B.drop a).take 4)) : Nat) : Int))) (hi := some (.tmp 60, (((rfA B a e 4 (limE most ((B.drop a).take 4))) + (rdC (B.drop a) e most) : Nat) : Int))) Try.underlying47 iat_5 rfl rfl rfl rfl rfl (by omega) (by omega) rfl (lt_of rfl) trivial),
        hR 16 rfl rfl (q_appendO 1 2 5 1 kU8 kU8_ok ([] : List UInt8) ((B.take ((rfA B a e 4 (limE most ((B.drop a).take 4))) + (rdC (B.drop a) e most))).drop (rfA B a e 4 (limE most ((B.drop a).take 4)))) ((B.take ((rfA B a e 4 (limE most ((B.drop a).take 4))) + (rdC (B.drop a) e most))).drop (rfA B a e 4 (limE most ((B.drop a).take 4)))) ([] : List UInt8).length (sy := (.d (dsl false false kU8 ((B.take ((rfA B a e 4 (limE most ((B.drop a).take 4))) + (rdC (B.drop a) e most))).drop (rfA B a e 4 (limE most ((B.drop a).take 4))))))) (rhs := []) elem_47 (by omega) (src_sl false false kU8 ((B.take ((rfA B a e 4 (limE most ((B.drop a).take 4))) + (rdC (B.drop a) e most))).drop (rfA B a e 4 (limE most ((B.drop a).take 4))))) (by simp) (by omega) (by omega) (lt_of rfl) trivial)] (by kernel_rfl) (by kernel_rfl) (by kernel_rfl) (by kernel_rfl) (by kernel_rfl) (by kernel_rfl) ?_
      refine nT ?_
      refine T.seq ?_
      refine xR [hR 5 rfl rfl (r_bin (u1 := .int .i64 ((rfA B a e 4 (limE most ((B.drop a).take 4)) : Nat) : Int)) (u2 := .int .i64 ((rdC (B.drop a) e most : Nat) : Int)) (v := .int .i64 (((rfA B a e 4 (limE most ((B.drop a).take 4))) + (rdC (B.drop a) e most) : Nat) : Int)) (b_add (by rw [IntKind.wrap_i64]; omega)) (lt_of rfl) trivial)] (by kernel_rfl) (by kernel_rfl) ?_
      refine nT ?_
      refine T.seq ?_
      refine xR [] (by kernel_rfl) (by kernel_rfl) ?_
      refine nT ?_
      refine T.ret ?_
      exact tE (.inl rfl) [.t 4 (.one (.own 2 kU8.sz 0 ((B.take ((rfA B a e 4 (limE most ((B.drop a).take 4))) + (rdC (B.drop a) e most))).drop (rfA B a e 4 (limE most ((B.drop a).take 4)))).length))] ⟨⟨rfl, by kernel_rfl⟩, trivial⟩ [0, 2] (by have e1 : ((rdY (B.drop a) e most).length : Nat) = ((B.take ((rfA B a e 4 (limE most ((B.drop a).take 4))) + (rdC (B.drop a) e most))).drop (rfA B a e 4 (limE most ((B.drop a).take 4)))).length := (by omega); have hE := congrArg (fun (q1 : Nat) => (ownV 2 kU8 0 q1 : AV)) e1; exact hE) rfl rfl rfl rfl rfl ⟨⟨rfl, (by have e1 : ((((rfA B a e 4 (limE most ((B.drop a).take 4))) + (rdC (B.drop a) e most) : Nat) : Int) : Int) = ((rfYA B a e most : Nat) : Int) := (by omega); have e2 : ((rdE (B.drop a) e 4 (limE most ((B.drop a).take 4))) : Int) = (rdYE (B.drop a) e most) := (by omega); have hE := congr (congrArg (fun (q1 : Int) (q2 : Int) => (.live (.box 52 [.d (dsl false false kU8 B), .d (.val (.int .i64 q1)), .d (.val (.int .i64 q2))]) : HS)) e1) e2; exact Eq.trans (by kernel_rfl) hE)⟩, ⟨⟨rfl, (by have e1 : (((B.take ((rfA B a e 4 (limE most ((B.drop a).take 4))) + (rdC (B.drop a) e most))).drop (rfA B a e 4 (limE most ((B.drop a).take 4)))) : List UInt8) = (rdY (B.drop a) e most) := (by omega); have hE := congrArg (fun (q1 : List UInt8) => (.live (arrK 5 kU8 q1) : HS)) e1; exact Eq.trans (by kernel_rfl) hE)⟩, trivial⟩⟩
end Go.Proofs.Ytlabmehgcfgigaa.Q
namespace Go.Proofs.Ytlabmehgcfgigaa.Q
set_option linter.unusedVariables false
set_option linter.unusedSimpArgs false

/-! ### Numbers that are read -/

theorem back_intX {n : Int} (hn : i64R n) (r : List UInt8) : rdI (intB n ++ r) 0 = n ∧ rdR (intB n ++ r) 0 8 0 = r ∧ rdE (intB n ++ r) 0 8 0 = 0 := by
  have hk : okT (intB n ++ r) 0 8 0 := okT_app (int_len n)
  refine ⟨?_, ?_, rdE_ok hk⟩
  · rw [rdI, if_pos hk, take_app (int_len n), intB, num_spell (Nat.lt_of_lt_of_le (u64_lt n) (by decide)), toI64_u64 hn]
  · rw [rdR_ok hk]; exact drop_app (int_len n)
theorem u64_toI64 {n : Nat} (h : n < 18446744073709551616) : u64 (toI64 n) = n := by unfold toI64 u64; split <;> omega
theorem rdI_range (r : List UInt8) (e : Int) : i64R (rdI r e) := by
  unfold rdI i64R
  split
  · have := numL_lt8 (l := r.take 8) (List.length_take_le _ _)
    unfold toI64
    split <;> omega
  · omega
theorem read_intX {r : List UInt8} {e : Int} (h : rdE r e 8 0 = 0) : e = 0 ∧ r = intB (rdI r e) ++ rdR r e 8 0 := by
  have h1 := okT_of h
  have h8 : (r.take 8).length = 8 := by have := h1.2.1; rw [List.length_take]; omega
  have hn := numL_lt8 (l := r.take 8) (by omega)
  refine ⟨h1.1, ?_⟩
  rw [rdI, if_pos h1, rdR_ok h1, intB, u64_toI64 hn]
  have := spell_num (r.take 8) []
  rw [List.nil_append, h8] at this
  rw [this]
  exact (List.take_append_drop 8 r).symm
theorem rdX_ok {r : List UInt8} {e : Int} (h : rdX r e = 0) : e = 0 ∧ r = [] := by
  unfold rdX at h
  split at h
  · cases h
  · rename_i h1
    refine ⟨h, ?_⟩
    cases r with
    | nil => rfl
    | cons a r => exact absurd ⟨h, by simp <;> omega⟩ h1
theorem rdX_nil : rdX [] 0 = 0 := rfl
end Go.Proofs.Ytlabmehgcfgigaa.Q
