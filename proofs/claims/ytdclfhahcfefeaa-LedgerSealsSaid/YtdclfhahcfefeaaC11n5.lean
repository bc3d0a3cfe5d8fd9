import Derived.Test.YtdclfhahcfefeaaC11n4
namespace Go.Proofs.Ytdclfhahcfefeaa.Q
open Go Go.RowKit
set_option linter.unusedVariables false
set_option linter.unusedSimpArgs false
set_option maxRecDepth 100000
set_option maxHeartbeats 4000000
-- quaestor/quaestorlaw10.Few
theorem law_Few (tb_ : Bool) (b : api_Block) (hq : b.f_Requests.length ≤ 9223372036854775807) (hr : b.f_Results.length ≤ 9223372036854775807) : Holds Try.prog 15 ⟨[.tv (.agg [.d (.val (.int .i64 b.f_Height)), .d (.val (strV b.f_Prev)), .d (dsl tb_ false (k_api_Envelope tb_) b.f_Requests), .d (dsl tb_ false (k_api_Result tb_) b.f_Results)])], [], dv (.bool (decide (smallB b))), []⟩ := by
  refine Holds.of Try.func15 rfl (N := 35) Try.ntmps15 rfl fun w0 B0 S0 U0 => ?_
  show T _ (mkBase 35 0 w0 S0 U0 B0) ⟨[.tv (.agg [.d (.val (.int .i64 b.f_Height)), .d (.val (strV b.f_Prev)), .d (dsl tb_ false (k_api_Envelope tb_) b.f_Requests), .d (dsl tb_ false (k_api_Result tb_) b.f_Results)])], []⟩ _ _
  refine T.seq ?_
  refine xR [] (by kernel_rfl) (by kernel_rfl) ?_
  refine nT ?_
  refine T.seq ?_
  refine T.seq ?_
  by_cases hq1 : ((b.f_Requests.length : Nat) : Int) > 20
  · refine xR [hN 5 false (decide_eq_true hq1),
      hN 6 false (decide_eq_true hq1),
      hN 7 false (decide_eq_true hq1),
      hN 8 false (decide_eq_true hq1),
      hP 9 (decide_eq_true hq1),
      hN 11 (b := true) false rfl,
      hN 12 (b := true) false rfl,
      hN 13 (b := true) false rfl,
      hN 14 (b := true) false rfl,
      hP 15 (b := true) (w := true) rfl] (by kernel_rfl) (by kernel_rfl) ?_
    refine nT ?_
    refine T.condT (b := true) (by kernel_rfl) rfl ?_
    refine T.seq ?_
    refine xR [] (by kernel_rfl) (by kernel_rfl) ?_
    refine nT ?_
    refine T.ret ?_
    refine rT ?_
    exact tE (.inl rfl) [.t 2 (.one (.d (.val (.bool false))))] ⟨⟨rfl, by kernel_rfl⟩, trivial⟩ [] (by have e1 : ((decide (smallB b)) : Bool) = false := (by exact decide_eq_false (fun h9 => by have h8 := h9.1.1.1; omega)); have hE := congrArg (fun (q1 : Bool) => (dv (.bool q1) : AV)) e1; exact hE) rfl rfl rfl rfl rfl trivial
  · by_cases hq2 : ((b.f_Results.length : Nat) : Int) > 20
    · refine xR [hY 5 (decide_eq_false hq1),
        hY 6 (decide_eq_false hq1),
        hY 7 (decide_eq_false hq1),
        hY 8 (decide_eq_false hq1),
        hP 9 (decide_eq_false hq1),
        hN 11 false (decide_eq_true hq2),
        hN 12 false (decide_eq_true hq2),
        hN 13 false (decide_eq_true hq2),
        hN 14 false (decide_eq_true hq2),
        hP 15 (decide_eq_true hq2)] (by kernel_rfl) (by kernel_rfl) ?_
      refine nT ?_
      refine T.condT (b := true) (by kernel_rfl) rfl ?_
      refine T.seq ?_
      refine xR [] (by kernel_rfl) (by kernel_rfl) ?_
      refine nT ?_
      refine T.ret ?_
      refine rT ?_
      exact tE (.inl rfl) [.t 2 (.one (.d (.val (.bool false))))] ⟨⟨rfl, by kernel_rfl⟩, trivial⟩ [] (by have e1 : ((decide (smallB b)) : Bool) = false := (by exact decide_eq_false (fun h9 => by have h8 := h9.1.2.1; omega)); have hE := congrArg (fun (q1 : Bool) => (dv (.bool q1) : AV)) e1; exact hE) rfl rfl rfl rfl rfl trivial
    · refine xR [hY 5 (decide_eq_false hq1),
        hY 6 (decide_eq_false hq1),
        hY 7 (decide_eq_false hq1),
        hY 8 (decide_eq_false hq1),
        hP 9 (decide_eq_false hq1),
        hY 11 (decide_eq_false hq2),
        hY 12 (decide_eq_false hq2),
        hY 13 (decide_eq_false hq2),
        hY 14 (decide_eq_false hq2),
        hP 15 (decide_eq_false hq2)] (by kernel_rfl) (by kernel_rfl) ?_
      refine nT ?_
      by_cases hq3 : ((b.f_Prev.length : Nat) : Int) > 5000
      · refine T.condT (by kernel_rfl) (decide_eq_true hq3) ?_
        refine T.seq ?_
        refine xR [] (by kernel_rfl) (by kernel_rfl) ?_
        refine nT ?_
        refine T.ret ?_
        refine rT ?_
        exact tE (.inl rfl) [.t 2 (.one (.d (.val (.bool false))))] ⟨⟨rfl, by kernel_rfl⟩, trivial⟩ [] (by have e1 : ((decide (smallB b)) : Bool) = false := (by exact decide_eq_false (fun h9 => by have h8 := h9.2; omega)); have hE := congrArg (fun (q1 : Bool) => (dv (.bool q1) : AV)) e1; exact hE) rfl rfl rfl rfl rfl trivial
      · refine T.condF (by kernel_rfl) (decide_eq_false hq3) ?_
        refine T.skip ?_
        refine nT ?_
        refine T.seq ?_
        refine T.seq ?_
        refine xR [] (by kernel_rfl) (by kernel_rfl) ?_
        refine nT ?_
        refine T.block ?_
        refine T.loop (ι := Nat) (fun (k : Nat) => ⟨[.tv (.agg [.d (.val (.int .i64 b.f_Height)), .d (.val (strV b.f_Prev)), .d (dsl tb_ false (k_api_Envelope tb_) b.f_Requests), .d (dsl tb_ false (k_api_Result tb_) b.f_Results)]), pv 0 0, dv (.bool false), dv (.int .i64 ((k : Nat) : Int)), aa, aa, aa, aa, aa, aa, aa, aa, aa, aa, aa, aa, aa, aa, aa, dv (.bool (decide (((b.f_Prev.length : Nat) : Int) > 5000)))], [.live (.box 33 [.d (.val (.int .i64 b.f_Height)), .d (.val (strV b.f_Prev)), .d (dsl tb_ false (k_api_Envelope tb_) b.f_Requests), .d (dsl tb_ false (k_api_Result tb_) b.f_Results)])]⟩) (fun (k : Nat) => (k ≤ b.f_Requests.length) ∧ (∀ j, j < k → szE (b.f_Requests.getD j z_api_Envelope) ≤ 500)) (fun (k : Nat) => b.f_Requests.length - k) (0) ⟨(Nat.zero_le _), (fun j hj => absurd hj (Nat.not_lt_zero _))⟩ (fun _ _ hG => Gs.into2 (s' := ⟨[.tv (.agg [.d (.val (.int .i64 b.f_Height)), .d (.val (strV b.f_Prev)), .d (dsl tb_ false (k_api_Envelope tb_) b.f_Requests), .d (dsl tb_ false (k_api_Result tb_) b.f_Results)]), pv 0 0, dv (.bool false), dv (.int .i64 0), aa, aa, aa, aa, aa, aa, aa, aa, aa, aa, aa, aa, aa, aa, aa, dv (.bool (decide (((b.f_Prev.length : Nat) : Int) > 5000)))], [.live (.box 33 [.d (.val (.int .i64 b.f_Height)), .d (.val (strV b.f_Prev)), .d (dsl tb_ false (k_api_Envelope tb_) b.f_Requests), .d (dsl tb_ false (k_api_Result tb_) b.f_Results)])]⟩) [0] (bm 20 524303) (t1 := [.tv (.agg [.d (.val (.int .i64 b.f_Height)), .d (.val (strV b.f_Prev)), .d (dsl tb_ false (k_api_Envelope tb_) b.f_Requests), .d (dsl tb_ false (k_api_Result tb_) b.f_Results)]), pv 0 0, dv (.bool false), dv (.int .i64 0), aa, aa, aa, aa, aa, aa, aa, aa, aa, aa, aa, aa, aa, aa, aa, dv (.bool (decide (((b.f_Prev.length : Nat) : Int) > 5000)))]) (h1 := [.live (.box 33 [.d (.val (.int .i64 b.f_Height)), .d (.val (strV b.f_Prev)), .d (dsl tb_ false (k_api_Envelope tb_) b.f_Requests), .d (dsl tb_ false (k_api_Result tb_) b.f_Results)])]) rfl rfl (by kernel_rfl) (by kernel_rfl) (by kernel_rfl) (by kernel_rfl) (by kernel_rfl) (by kernel_rfl) (by kernel_rfl) (by kernel_rfl) (by kernel_rfl) (by kernel_rfl) (by kernel_rfl) hG) ?_
        rintro k ⟨hk, hb⟩
        show T _ _ ⟨[.tv (.agg [.d (.val (.int .i64 b.f_Height)), .d (.val (strV b.f_Prev)), .d (dsl tb_ false (k_api_Envelope tb_) b.f_Requests), .d (dsl tb_ false (k_api_Result tb_) b.f_Results)]), pv 0 0, dv (.bool false), dv (.int .i64 ((k : Nat) : Int)), aa, aa, aa, aa, aa, aa, aa, aa, aa, aa, aa, aa, aa, aa, aa, dv (.bool (decide (((b.f_Prev.length : Nat) : Int) > 5000)))], [.live (.box 33 [.d (.val (.int .i64 b.f_Height)), .d (.val (strV b.f_Prev)), .d (dsl tb_ false (k_api_Envelope tb_) b.f_Requests), .d (dsl tb_ false (k_api_Result tb_) b.f_Results)])]⟩ _ _
        replace hk : k ≤ b.f_Requests.length := hk
        replace hb : ∀ j, j < k → szE (b.f_Requests.getD j z_api_Envelope) ≤ 500 := hb
        refine T.seq ?_
        refine T.seq ?_
        refine xR [] (by kernel_rfl) (by kernel_rfl) ?_
        refine nT ?_
        by_cases hq4 : ((k : Nat) : Int) < ((b.f_Requests.length : Nat) : Int)
        · refine T.condT (by kernel_rfl) (decide_eq_true hq4) ?_
          refine T.skip ?_
          refine nT ?_
          refine T.seq ?_
          refine T.block ?_
          refine T.seq ?_
          refine xR [hR 3 rfl rfl (q_index tb_ false (k_api_Envelope tb_) b.f_Requests k (k := .i64) (i := ((k : Nat) : Int)) Try.underlying30 iat_78 rfl rfl (by omega) (lt_of rfl) trivial)] (by kernel_rfl) (by kernel_rfl) ?_
          refine nT ?_
          by_cases hq5 : (((b.f_Requests.getD k z_api_Envelope).f_Body.length : Nat) : Int) > 500
          · refine T.condT (by kernel_rfl) (decide_eq_true hq5) ?_
            refine T.seq ?_
            refine xR [] (by kernel_rfl) (by kernel_rfl) ?_
            refine nT ?_
            refine T.ret ?_
            refine rB ?_
            refine rT ?_
            refine rT ?_
            refine rB ?_
            refine rT ?_
            exact tE (.inl rfl) [.t 2 (.one (.d (.val (.bool false))))] ⟨⟨rfl, by kernel_rfl⟩, trivial⟩ [] (by have e1 : ((decide (smallB b)) : Bool) = false := (by exact decide_eq_false (fun h9 => fewG_no2 (z := z_api_Envelope) (k := k) (by omega) (by assumption) rfl h9.1.1)); have hE := congrArg (fun (q1 : Bool) => (dv (.bool q1) : AV)) e1; exact hE) rfl rfl rfl rfl rfl trivial
          · refine T.condF (by kernel_rfl) (decide_eq_false hq5) ?_
            refine T.skip ?_
            refine nB ?_
            refine nT ?_
            refine xR [hR 1 rfl rfl (r_bin (u1 := .int .i64 ((k : Nat) : Int)) (u2 := .int .i64 1) (v := .int .i64 ((k + 1 : Nat) : Int)) (b_add (by rw [IntKind.wrap_i64]; omega)) (lt_of rfl) ⟨rfl, trivial⟩)] (by kernel_rfl) (by kernel_rfl) ?_
            refine nL (k + 1) ⟨(show (k + 1) ≤ b.f_Requests.length from (by omega)), (show ∀ j, j < (k + 1) → szE (b.f_Requests.getD j z_api_Envelope) ≤ 500 from (all_succ hb (by have h9 : ((((b.f_Requests.getD k z_api_Envelope).f_Body.length : Nat) : Int)) ≤ 500 := (by omega); exact Int.ofNat_le.1 h9)))⟩ (show (b.f_Requests.length - (k + 1) : Nat) < b.f_Requests.length - k from (by omega)) (fun _ _ hG => Gs.into2 (s' := ⟨[.tv (.agg [.d (.val (.int .i64 b.f_Height)), .d (.val (strV b.f_Prev)), .d (dsl tb_ false (k_api_Envelope tb_) b.f_Requests), .d (dsl tb_ false (k_api_Result tb_) b.f_Results)]), pv 0 0, dv (.bool false), dv (.int .i64 ((k + 1 : Nat) : Int)), aa, aa, aa, aa, aa, aa, aa, aa, aa, aa, aa, aa, aa, aa, aa, dv (.bool (decide (((b.f_Prev.length : Nat) : Int) > 5000)))], [.live (.box 33 [.d (.val (.int .i64 b.f_Height)), .d (.val (strV b.f_Prev)), .d (dsl tb_ false (k_api_Envelope tb_) b.f_Requests), .d (dsl tb_ false (k_api_Result tb_) b.f_Results)])]⟩) [0] (bm 20 524303) (t1 := [.tv (.agg [.d (.val (.int .i64 b.f_Height)), .d (.val (strV b.f_Prev)), .d (dsl tb_ false (k_api_Envelope tb_) b.f_Requests), .d (dsl tb_ false (k_api_Result tb_) b.f_Results)]), pv 0 0, dv (.bool false), dv (.int .i64 ((k + 1 : Nat) : Int)), aa, aa, aa, aa, aa, aa, aa, aa, aa, aa, aa, aa, aa, aa, aa, dv (.bool (decide (((b.f_Prev.length : Nat) : Int) > 5000)))]) (h1 := [.live (.box 33 [.d (.val (.int .i64 b.f_Height)), .d (.val (strV b.f_Prev)), .d (dsl tb_ false (k_api_Envelope tb_) b.f_Requests), .d (dsl tb_ false (k_api_Result tb_) b.f_Results)])]) rfl rfl (by kernel_rfl) (by kernel_rfl) (by kernel_rfl) (by kernel_rfl) (by kernel_rfl) (by kernel_rfl) (by kernel_rfl) (by kernel_rfl) (by kernel_rfl) (by kernel_rfl) (by kernel_rfl) hG)
        · refine T.condF (by kernel_rfl) (decide_eq_false hq4) ?_
          refine T.exit ?_
          refine xT ?_
          refine xT ?_
          refine xH ?_
          refine nT ?_
          refine T.seq ?_
          refine xR [] (by kernel_rfl) (by kernel_rfl) ?_
          refine nT ?_
          refine T.ret ?_
          exact tE (.inl rfl) [.t 2 (.one (.d (.val (.bool true))))] ⟨⟨rfl, by kernel_rfl⟩, trivial⟩ [] (by have e1 : ((decide (smallB b)) : Bool) = true := (by exact decide_eq_true ⟨⟨fewG_yes (z := z_api_Envelope) (k := k) (by assumption) rfl (by omega) hb, by omega, by omega⟩, by omega⟩); have hE := congrArg (fun (q1 : Bool) => (dv (.bool q1) : AV)) e1; exact hE) rfl rfl rfl rfl rfl trivial
end Go.Proofs.Ytdclfhahcfefeaa.Q
namespace Go.Proofs.Ytdclfhahcfefeaa.Q
open Go Go.RowKit
set_option linter.unusedVariables false
set_option linter.unusedSimpArgs false
set_option maxRecDepth 100000
set_option maxHeartbeats 4000000
-- quaestor/quaestorref03.Same
theorem ref03_Same (ta : Bool) (tb : Bool) (a : api_Envelope) (b : api_Envelope) : Holds Try.prog 71 ⟨[.tv (.agg [.d (.val (.int .i64 a.f_Signer)), .d (dsl ta false kU8 a.f_Body)]), .tv (.agg [.d (.val (.int .i64 b.f_Signer)), .d (dsl tb false kU8 b.f_Body)])], [], dv (.bool (decide (a = b))), []⟩ := by
  refine Holds.of Try.func71 rfl (N := 17) Try.ntmps71 rfl fun w0 B0 S0 U0 => ?_
  show T _ (mkBase 17 0 w0 S0 U0 B0) ⟨[.tv (.agg [.d (.val (.int .i64 a.f_Signer)), .d (dsl ta false kU8 a.f_Body)]), .tv (.agg [.d (.val (.int .i64 b.f_Signer)), .d (dsl tb false kU8 b.f_Body)])], []⟩ _ _
  refine T.seq ?_
  refine xR [] (by kernel_rfl) (by kernel_rfl) ?_
  refine nT ?_
  refine T.seq ?_
  by_cases hq1 : a.f_Signer = b.f_Signer
  · refine xR [hY 6 (decide_eq_true hq1),
      hY 7 (decide_eq_true hq1),
      hY 8 (decide_eq_true hq1),
      hY 9 (decide_eq_true hq1),
      hS 10 (oY rfl rfl rfl rfl (lt_of rfl) (decide_eq_true hq1) (r_call (ref01_Same ta false tb false a.f_Body b.f_Body ) Try.func29 rfl (by decide) [] [] (l := [(.tmp 12, slV ta false kU8 a.f_Body), (.tmp 14, slV tb false kU8 b.f_Body)]) [] rfl 0 0 rfl rfl rfl rfl rfl rfl rfl rfl rfl ⟨.inl ⟨rfl, rfl⟩, ⟨.inl ⟨rfl, rfl⟩, trivial⟩⟩ rfl (fun b hb => by cases hb) (.inl rfl) (lt_of rfl) trivial)),
      hP 11 (decide_eq_true hq1)] (by kernel_rfl) (by kernel_rfl) ?_
    refine nT ?_
    refine T.ret ?_
    exact tE (.inl rfl) [.t 4 (.one (.d (.val (.bool (decide (a.f_Body = b.f_Body))))))] ⟨⟨rfl, by kernel_rfl⟩, trivial⟩ [] (by have e1 : ((decide (a = b)) : Bool) = (decide (a.f_Body = b.f_Body)) := (by simp [api_Envelope_iff, *]); have hE := congrArg (fun (q1 : Bool) => (dv (.bool q1) : AV)) e1; exact hE) rfl rfl rfl rfl rfl trivial
  · refine xR [hN 6 true (decide_eq_false hq1),
      hN 7 true (decide_eq_false hq1),
      hN 8 true (decide_eq_false hq1),
      hN 9 true (decide_eq_false hq1),
      hN 10 true (decide_eq_false hq1),
      hP 11 (decide_eq_false hq1)] (by kernel_rfl) (by kernel_rfl) ?_
    refine nT ?_
    refine T.ret ?_
    exact tE (.inl rfl) [.t 4 (.one (.d (.val (.bool false))))] ⟨⟨rfl, by kernel_rfl⟩, trivial⟩ [] (by have e1 : ((decide (a = b)) : Bool) = false := (by simp [api_Envelope_iff, *]); have hE := congrArg (fun (q1 : Bool) => (dv (.bool q1) : AV)) e1; exact hE) rfl rfl rfl rfl rfl trivial
end Go.Proofs.Ytdclfhahcfefeaa.Q
namespace Go.Proofs.Ytdclfhahcfefeaa.Q
open Go Go.RowKit
set_option linter.unusedVariables false
set_option linter.unusedSimpArgs false
set_option maxRecDepth 100000
set_option maxHeartbeats 4000000
-- quaestor/quaestorref03.All
theorem ref03_All (ta : Bool) (na : Bool) (sa : Bool) (tb : Bool) (nb : Bool) (sb : Bool) (a : List api_Envelope) (b : List api_Envelope) (hl : a.length ≤ 9223372036854775807) : Holds Try.prog 44 ⟨[slV ta na (k_api_Envelope sa) a, slV tb nb (k_api_Envelope sb) b], [], dv (.bool (decide (a = b))), []⟩ := by
  refine Holds.of Try.func44 rfl (N := 27) Try.ntmps44 rfl fun w0 B0 S0 U0 => ?_
  show T _ (mkBase 27 0 w0 S0 U0 B0) ⟨[slV ta na (k_api_Envelope sa) a, slV tb nb (k_api_Envelope sb) b], []⟩ _ _
  refine T.seq ?_
  refine xR [] (by kernel_rfl) (by kernel_rfl) ?_
  refine nT ?_
  refine T.seq ?_
  refine T.seq ?_
  refine xR [] (by kernel_rfl) (by kernel_rfl) ?_
  refine nT ?_
  by_cases hq1 : ((a.length : Nat) : Int) ≠ ((b.length : Nat) : Int)
  · refine T.condT (by kernel_rfl) (decide_eq_true hq1) ?_
    refine T.seq ?_
    refine xR [] (by kernel_rfl) (by kernel_rfl) ?_
    refine nT ?_
    refine T.ret ?_
    refine rT ?_
    exact tE (.inl rfl) [.t 4 (.one (.d (.val (.bool false))))] ⟨⟨rfl, by kernel_rfl⟩, trivial⟩ [] (by have e1 : ((decide (a = b)) : Bool) = false := (by exact decide_eq_false (fun e => by have h9 : a.length ≠ b.length := (by omega); exact h9 (by rw [e]))); have hE := congrArg (fun (q1 : Bool) => (dv (.bool q1) : AV)) e1; exact hE) rfl rfl rfl rfl rfl trivial
  · refine T.condF (by kernel_rfl) (decide_eq_false hq1) ?_
    refine T.skip ?_
    refine nT ?_
    refine T.seq ?_
    refine T.seq ?_
    refine xR [] (by kernel_rfl) (by kernel_rfl) ?_
    refine nT ?_
    refine T.block ?_
    refine T.loop (ι := Nat) (fun (k : Nat) => ⟨[slV ta na (k_api_Envelope sa) a, slV tb nb (k_api_Envelope sb) b, aa, aa, dv (.bool false), dv (.int .i64 ((k : Nat) : Int)), aa, aa, aa, aa, dv (.bool (decide (((a.length : Nat) : Int) ≠ ((b.length : Nat) : Int))))], []⟩) (fun (k : Nat) => (k ≤ a.length) ∧ (a.length = b.length) ∧ (∀ j, j < k → a.getD j z_api_Envelope = b.getD j z_api_Envelope)) (fun (k : Nat) => a.length - k) (0) ⟨(Nat.zero_le _), (by omega), (fun j hj => absurd hj (Nat.not_lt_zero _))⟩ (fun _ _ hG => Gs.into2 (s' := ⟨[slV ta na (k_api_Envelope sa) a, slV tb nb (k_api_Envelope sb) b, aa, aa, dv (.bool false), dv (.int .i64 0), aa, aa, aa, aa, dv (.bool (decide (((a.length : Nat) : Int) ≠ ((b.length : Nat) : Int))))], []⟩) [] (bm 11 1075) (t1 := [slV ta na (k_api_Envelope sa) a, slV tb nb (k_api_Envelope sb) b, aa, aa, dv (.bool false), dv (.int .i64 0), aa, aa, aa, aa, dv (.bool (decide (((a.length : Nat) : Int) ≠ ((b.length : Nat) : Int))))]) (h1 := []) rfl rfl (by kernel_rfl) (by kernel_rfl) (by kernel_rfl) (by kernel_rfl) (by kernel_rfl) (by kernel_rfl) (by kernel_rfl) (by kernel_rfl) (by kernel_rfl) (by kernel_rfl) (by kernel_rfl) hG) ?_
    rintro k ⟨hk, hab, hb⟩
    show T _ _ ⟨[slV ta na (k_api_Envelope sa) a, slV tb nb (k_api_Envelope sb) b, aa, aa, dv (.bool false), dv (.int .i64 ((k : Nat) : Int)), aa, aa, aa, aa, dv (.bool (decide (((a.length : Nat) : Int) ≠ ((b.length : Nat) : Int))))], []⟩ _ _
    replace hk : k ≤ a.length := hk
    replace hab : a.length = b.length := hab
    replace hb : ∀ j, j < k → a.getD j z_api_Envelope = b.getD j z_api_Envelope := hb
    refine T.seq ?_
    refine T.seq ?_
    refine xR [] (by kernel_rfl) (by kernel_rfl) ?_
    refine nT ?_
    by_cases hq2 : ((k : Nat) : Int) < ((a.length : Nat) : Int)
    · refine T.condT (by kernel_rfl) (decide_eq_true hq2) ?_
      refine T.skip ?_
      refine nT ?_
      refine T.seq ?_
      refine T.block ?_
      refine T.seq ?_
      refine xD [[], [], [0, 1], [0, 1, 2], [], [], [4, 5], [4, 5, 6], [0, 1, 2, 3, 4, 5, 6, 7], [0, 1, 2, 3, 4, 5, 6, 7, 8]] [hR 2 rfl rfl (q_index ta na (k_api_Envelope sa) a k (k := .i64) (i := ((k : Nat) : Int)) Try.underlying30 iat_78 rfl rfl (by omega) (lt_of rfl) trivial),
        hR 6 rfl rfl (q_index tb nb (k_api_Envelope sb) b k (k := .i64) (i := ((k : Nat) : Int)) Try.underlying30 iat_78 rfl rfl (by omega) (lt_of rfl) trivial),
        hR 8 rfl rfl (r_call (ref03_Same sa sb (a.getD k z_api_Envelope) (b.getD k z_api_Envelope) ) Try.func71 rfl (by decide) [] [] (l := [(.tmp 20, .tv (.agg [.d (.val (.int .i64 (a.getD k z_api_Envelope).f_Signer)), .d (dsl sa false kU8 (a.getD k z_api_Envelope).f_Body)])), (.tmp 24, .tv (.agg [.d (.val (.int .i64 (b.getD k z_api_Envelope).f_Signer)), .d (dsl sb false kU8 (b.getD k z_api_Envelope).f_Body)]))]) [] rfl 0 0 rfl rfl rfl rfl rfl rfl rfl rfl rfl ⟨⟨.inl ⟨rfl, rfl⟩, ⟨.inl ⟨rfl, rfl⟩, trivial⟩⟩, ⟨⟨.inl ⟨rfl, rfl⟩, ⟨.inl ⟨rfl, rfl⟩, trivial⟩⟩, trivial⟩⟩ rfl (fun b hb => by cases hb) (.inl rfl) (lt_of rfl) trivial)] (by kernel_rfl) (by kernel_rfl) (by kernel_rfl) (by kernel_rfl) (by kernel_rfl) (by kernel_rfl) ?_
      refine nT ?_
      by_cases hq3 : (a.getD k z_api_Envelope) = (b.getD k z_api_Envelope)
      · refine T.condF (by kernel_rfl) (congrArg Bool.not (decide_eq_true hq3)) ?_
        refine T.skip ?_
        refine nB ?_
        refine nT ?_
        refine xR [hR 1 rfl rfl (r_bin (u1 := .int .i64 ((k : Nat) : Int)) (u2 := .int .i64 1) (v := .int .i64 ((k + 1 : Nat) : Int)) (b_add (by rw [IntKind.wrap_i64]; omega)) (lt_of rfl) ⟨rfl, trivial⟩)] (by kernel_rfl) (by kernel_rfl) ?_
        refine nL (k + 1) ⟨(show (k + 1) ≤ a.length from (by omega)), (show a.length = b.length from hab), (show ∀ j, j < (k + 1) → a.getD j z_api_Envelope = b.getD j z_api_Envelope from (all_succ hb (by assumption)))⟩ (show (a.length - (k + 1) : Nat) < a.length - k from (by omega)) (fun _ _ hG => Gs.into2 (s' := ⟨[slV ta na (k_api_Envelope sa) a, slV tb nb (k_api_Envelope sb) b, aa, aa, dv (.bool false), dv (.int .i64 ((k + 1 : Nat) : Int)), aa, aa, aa, aa, dv (.bool (decide (((a.length : Nat) : Int) ≠ ((b.length : Nat) : Int))))], []⟩) [] (bm 11 1075) (t1 := [slV ta na (k_api_Envelope sa) a, slV tb nb (k_api_Envelope sb) b, aa, aa, dv (.bool false), dv (.int .i64 ((k + 1 : Nat) : Int)), aa, aa, aa, aa, dv (.bool (decide (((a.length : Nat) : Int) ≠ ((b.length : Nat) : Int))))]) (h1 := []) rfl rfl (by kernel_rfl) (by kernel_rfl) (by kernel_rfl) (by kernel_rfl) (by kernel_rfl) (by kernel_rfl) (by kernel_rfl) (by kernel_rfl) (by kernel_rfl) (by kernel_rfl) (by kernel_rfl) hG)
      · refine T.condT (by kernel_rfl) (congrArg Bool.not (decide_eq_false hq3)) ?_
        refine T.seq ?_
        refine xR [] (by kernel_rfl) (by kernel_rfl) ?_
        refine nT ?_
        refine T.ret ?_
        refine rB ?_
        refine rT ?_
        refine rT ?_
        refine rB ?_
        refine rT ?_
        exact tE (.inl rfl) [.t 4 (.one (.d (.val (.bool false))))] ⟨⟨rfl, by kernel_rfl⟩, trivial⟩ [] (by have e1 : ((decide (a = b)) : Bool) = false := (by exact decide_eq_false (fun e => by have h9 : ¬ a.getD k z_api_Envelope = b.getD k z_api_Envelope := (by assumption); exact h9 (by rw [e]))); have hE := congrArg (fun (q1 : Bool) => (dv (.bool q1) : AV)) e1; exact hE) rfl rfl rfl rfl rfl trivial
    · refine T.condF (by kernel_rfl) (decide_eq_false hq2) ?_
      refine T.exit ?_
      refine xT ?_
      refine xT ?_
      refine xH ?_
      refine nT ?_
      refine T.seq ?_
      refine xR [] (by kernel_rfl) (by kernel_rfl) ?_
      refine nT ?_
      refine T.ret ?_
      exact tE (.inl rfl) [.t 4 (.one (.d (.val (.bool true))))] ⟨⟨rfl, by kernel_rfl⟩, trivial⟩ [] (by have e1 : ((decide (a = b)) : Bool) = true := (by exact decide_eq_true (rows_eq (z := z_api_Envelope) (k := k) hab (by omega) hb)); have hE := congrArg (fun (q1 : Bool) => (dv (.bool q1) : AV)) e1; exact hE) rfl rfl rfl rfl rfl trivial
end Go.Proofs.Ytdclfhahcfefeaa.Q
namespace Go.Proofs.Ytdclfhahcfefeaa.Q
open Go Go.RowKit
set_option linter.unusedVariables false
set_option linter.unusedSimpArgs false
set_option maxRecDepth 100000
set_option maxHeartbeats 4000000
theorem seq_88 : SEq Try.prog 88 (fun x : api_Result => .agg #[.int .i64 x.f_Code, .int .i64 x.f_Stage]) := seq_of (g := fun x : api_Result => #[.int .i64 x.f_Code, .int .i64 x.f_Stage]) (bs' := fun a b => [decide (a.f_Code = b.f_Code), decide (a.f_Stage = b.f_Stage)]) Try.underlying88 (by kernel_rfl) (by kernel_rfl) (fun a b => ⟨by decide, ⟨_, _, rfl, rfl, .int Try.underlying43⟩, ⟨by decide, ⟨_, _, rfl, rfl, .int Try.underlying3⟩, trivial⟩⟩) (fun a b => by rw [Bool.eq_iff_iff]; simp [api_Result_iff])
-- quaestor/quaestorref10.Same
theorem ref10_Same (ta : Bool) (tb_ : Bool) (a : api_Block) (b : api_Block) (hq : a.f_Requests.length ≤ 9223372036854775807) (hr : a.f_Results.length ≤ 9223372036854775807) : Holds Try.prog 20 ⟨[.tv (.agg [.d (.val (.int .i64 a.f_Height)), .d (.val (strV a.f_Prev)), .d (dsl ta false (k_api_Envelope ta) a.f_Requests), .d (dsl ta false (k_api_Result ta) a.f_Results)]), .tv (.agg [.d (.val (.int .i64 b.f_Height)), .d (.val (strV b.f_Prev)), .d (dsl tb_ false (k_api_Envelope tb_) b.f_Requests), .d (dsl tb_ false (k_api_Result tb_) b.f_Results)])], [], dv (.bool (decide (a = b))), []⟩ := by
  refine Holds.of Try.func20 rfl (N := 53) Try.ntmps20 rfl fun w0 B0 S0 U0 => ?_
  show T _ (mkBase 53 0 w0 S0 U0 B0) ⟨[.tv (.agg [.d (.val (.int .i64 a.f_Height)), .d (.val (strV a.f_Prev)), .d (dsl ta false (k_api_Envelope ta) a.f_Requests), .d (dsl ta false (k_api_Result ta) a.f_Results)]), .tv (.agg [.d (.val (.int .i64 b.f_Height)), .d (.val (strV b.f_Prev)), .d (dsl tb_ false (k_api_Envelope tb_) b.f_Requests), .d (dsl tb_ false (k_api_Result tb_) b.f_Results)])], []⟩ _ _
  refine T.seq ?_
  refine xR [] (by kernel_rfl) (by kernel_rfl) ?_
  refine nT ?_
  refine T.seq ?_
  refine T.seq ?_
  by_cases hq1 : a.f_Height ≠ b.f_Height
  · refine xR [hN 6 false (decide_eq_true hq1),
      hN 7 false (decide_eq_true hq1),
      hN 8 false (decide_eq_true hq1),
      hN 9 false (decide_eq_true hq1),
      hN 10 false (decide_eq_true hq1),
      hP 11 (decide_eq_true hq1),
      hN 13 (b := true) false rfl,
      hN 14 (b := true) false rfl,
      hN 15 (b := true) false rfl,
      hN 16 (b := true) false rfl,
      hN 17 (b := true) false rfl,
      hN 18 (b := true) false rfl,
      hP 19 (b := true) (w := true) rfl,
      hN 21 (b := true) false rfl,
      hN 22 (b := true) false rfl,
      hN 23 (b := true) false rfl,
      hN 24 (b := true) false rfl,
      hN 25 (b := true) false rfl,
      hN 26 (b := true) false rfl,
      hN 27 (b := true) false rfl,
      hP 28 (b := true) (w := true) rfl] (by kernel_rfl) (by kernel_rfl) ?_
    refine nT ?_
    refine T.condT (b := true) (by kernel_rfl) rfl ?_
    refine T.seq ?_
    refine xR [] (by kernel_rfl) (by kernel_rfl) ?_
    refine nT ?_
    refine T.ret ?_
    refine rT ?_
    exact tE (.inl rfl) [.t 4 (.one (.d (.val (.bool false))))] ⟨⟨rfl, by kernel_rfl⟩, trivial⟩ [] (by have e1 : ((decide (a = b)) : Bool) = false := (by (refine decide_eq_false fun e => ?_; subst e; simp_all; done)); have hE := congrArg (fun (q1 : Bool) => (dv (.bool q1) : AV)) e1; exact hE) rfl rfl rfl rfl rfl trivial
  · by_cases hq2 : a.f_Prev ≠ b.f_Prev
    · refine xR [hY 6 (decide_eq_false hq1),
        hY 7 (decide_eq_false hq1),
        hY 8 (decide_eq_false hq1),
        hY 9 (decide_eq_false hq1),
        hY 10 (decide_eq_false hq1),
        hP 11 (decide_eq_false hq1),
        hN 13 false (decide_eq_true hq2),
        hN 14 false (decide_eq_true hq2),
        hN 15 false (decide_eq_true hq2),
        hN 16 false (decide_eq_true hq2),
        hN 17 false (decide_eq_true hq2),
        hN 18 false (decide_eq_true hq2),
        hP 19 (decide_eq_true hq2),
        hN 21 (b := true) false rfl,
        hN 22 (b := true) false rfl,
        hN 23 (b := true) false rfl,
        hN 24 (b := true) false rfl,
        hN 25 (b := true) false rfl,
        hN 26 (b := true) false rfl,
        hN 27 (b := true) false rfl,
        hP 28 (b := true) (w := true) rfl] (by kernel_rfl) (by kernel_rfl) ?_
      refine nT ?_
      refine T.condT (b := true) (by kernel_rfl) rfl ?_
      refine T.seq ?_
      refine xR [] (by kernel_rfl) (by kernel_rfl) ?_
      refine nT ?_
      refine T.ret ?_
      refine rT ?_
      exact tE (.inl rfl) [.t 4 (.one (.d (.val (.bool false))))] ⟨⟨rfl, by kernel_rfl⟩, trivial⟩ [] (by have e1 : ((decide (a = b)) : Bool) = false := (by (refine decide_eq_false fun e => ?_; subst e; simp_all; done)); have hE := congrArg (fun (q1 : Bool) => (dv (.bool q1) : AV)) e1; exact hE) rfl rfl rfl rfl rfl trivial
    · by_cases hq3 : a.f_Requests = b.f_Requests
      · refine xR [hY 6 (decide_eq_false hq1),
          hY 7 (decide_eq_false hq1),
          hY 8 (decide_eq_false hq1),
          hY 9 (decide_eq_false hq1),
          hY 10 (decide_eq_false hq1),
          hP 11 (decide_eq_false hq1),
          hY 13 (decide_eq_false hq2),
          hY 14 (decide_eq_false hq2),
          hY 15 (decide_eq_false hq2),
          hY 16 (decide_eq_false hq2),
          hS 17 (oY rfl rfl rfl rfl (lt_of rfl) (decide_eq_false hq2) (r_call (ref03_All ta false ta tb_ false tb_ a.f_Requests b.f_Requests (by assumption)) Try.func44 rfl (by decide) [] [] (l := [(.tmp 20, slV ta false (k_api_Envelope ta) a.f_Requests), (.tmp 22, slV tb_ false (k_api_Envelope tb_) b.f_Requests)]) [] rfl 0 0 rfl rfl rfl rfl rfl rfl rfl rfl rfl ⟨.inl ⟨rfl, rfl⟩, ⟨.inl ⟨rfl, rfl⟩, trivial⟩⟩ rfl (fun b hb => by cases hb) (.inl rfl) (lt_of rfl) trivial)),
          hY 18 (decide_eq_false hq2),
          hP 19 (decide_eq_false hq2),
          hY 21 (congrArg Bool.not (decide_eq_true hq3)),
          hY 22 (congrArg Bool.not (decide_eq_true hq3)),
          hY 23 (congrArg Bool.not (decide_eq_true hq3)),
          hY 24 (congrArg Bool.not (decide_eq_true hq3)),
          hY 25 (congrArg Bool.not (decide_eq_true hq3)),
          hY 26 (congrArg Bool.not (decide_eq_true hq3)),
          hY 27 (congrArg Bool.not (decide_eq_true hq3)),
          hP 28 (congrArg Bool.not (decide_eq_true hq3))] (by kernel_rfl) (by kernel_rfl) ?_
        refine nT ?_
        by_cases hq4 : ((a.f_Results.length : Nat) : Int) ≠ ((b.f_Results.length : Nat) : Int)
        · refine T.condT (by kernel_rfl) (decide_eq_true hq4) ?_
          refine T.seq ?_
          refine xR [] (by kernel_rfl) (by kernel_rfl) ?_
          refine nT ?_
          refine T.ret ?_
          refine rT ?_
          exact tE (.inl rfl) [.t 4 (.one (.d (.val (.bool false))))] ⟨⟨rfl, by kernel_rfl⟩, trivial⟩ [] (by have e1 : ((decide (a = b)) : Bool) = false := (by (refine decide_eq_false fun e => ?_; subst e; simp_all; done)); have hE := congrArg (fun (q1 : Bool) => (dv (.bool q1) : AV)) e1; exact hE) rfl rfl rfl rfl rfl trivial
        · refine T.condF (by kernel_rfl) (decide_eq_false hq4) ?_
          refine T.skip ?_
          refine nT ?_
          refine T.seq ?_
          refine T.seq ?_
          refine xR [] (by kernel_rfl) (by kernel_rfl) ?_
          refine nT ?_
          refine T.block ?_
          refine T.loop (ι := Nat) (fun (k : Nat) => ⟨[.tv (.agg [.d (.val (.int .i64 a.f_Height)), .d (.val (strV a.f_Prev)), .d (dsl ta false (k_api_Envelope ta) a.f_Requests), .d (dsl ta false (k_api_Result ta) a.f_Results)]), .tv (.agg [.d (.val (.int .i64 b.f_Height)), .d (.val (strV b.f_Prev)), .d (dsl tb_ false (k_api_Envelope tb_) b.f_Requests), .d (dsl tb_ false (k_api_Result tb_) b.f_Results)]), pv 0 0, pv 1 0, dv (.bool false), dv (.int .i64 ((k : Nat) : Int)), aa, aa, aa, aa, aa, aa, aa, aa, aa, aa, aa, aa, aa, aa, aa, aa, aa, aa, aa, aa, aa, aa, aa, aa, aa, aa, aa, aa, dv (.bool (decide (((a.f_Results.length : Nat) : Int) ≠ ((b.f_Results.length : Nat) : Int))))], [.live (.box 33 [.d (.val (.int .i64 a.f_Height)), .d (.val (strV a.f_Prev)), .d (dsl ta false (k_api_Envelope ta) a.f_Requests), .d (dsl ta false (k_api_Result ta) a.f_Results)]), .live (.box 33 [.d (.val (.int .i64 b.f_Height)), .d (.val (strV b.f_Prev)), .d (dsl tb_ false (k_api_Envelope tb_) b.f_Requests), .d (dsl tb_ false (k_api_Result tb_) b.f_Results)])]⟩) (fun (k : Nat) => (k ≤ a.f_Results.length) ∧ (a.f_Height = b.f_Height ∧ a.f_Prev = b.f_Prev ∧ a.f_Requests = b.f_Requests ∧ a.f_Results.length = b.f_Results.length) ∧ (∀ j, j < k → a.f_Results.getD j z_api_Result = b.f_Results.getD j z_api_Result)) (fun (k : Nat) => a.f_Results.length - k) (0) ⟨(Nat.zero_le _), ⟨by exact Classical.not_not.1 (by assumption), by exact Classical.not_not.1 (by assumption), by assumption, by omega⟩, (fun j hj => absurd hj (Nat.not_lt_zero _))⟩ (fun _ _ hG => Gs.into2 (s' := ⟨[.tv (.agg [.d (.val (.int .i64 a.f_Height)), .d (.val (strV a.f_Prev)), .d (dsl ta false (k_api_Envelope ta) a.f_Requests), .d (dsl ta false (k_api_Result ta) a.f_Results)]), .tv (.agg [.d (.val (.int .i64 b.f_Height)), .d (.val (strV b.f_Prev)), .d (dsl tb_ false (k_api_Envelope tb_) b.f_Requests), .d (dsl tb_ false (k_api_Result tb_) b.f_Results)]), pv 0 0, pv 1 0, dv (.bool false), dv (.int .i64 0), aa, aa, aa, aa, aa, aa, aa, aa, aa, aa, aa, aa, aa, aa, aa, aa, aa, aa, aa, aa, aa, aa, aa, aa, aa, aa, aa, aa, dv (.bool (decide (((a.f_Results.length : Nat) : Int) ≠ ((b.f_Results.length : Nat) : Int))))], [.live (.box 33 [.d (.val (.int .i64 a.f_Height)), .d (.val (strV a.f_Prev)), .d (dsl ta false (k_api_Envelope ta) a.f_Requests), .d (dsl ta false (k_api_Result ta) a.f_Results)]), .live (.box 33 [.d (.val (.int .i64 b.f_Height)), .d (.val (strV b.f_Prev)), .d (dsl tb_ false (k_api_Envelope tb_) b.f_Requests), .d (dsl tb_ false (k_api_Result tb_) b.f_Results)])]⟩) [0, 1] (bm 35 17179869247) (t1 := [.tv (.agg [.d (.val (.int .i64 a.f_Height)), .d (.val (strV a.f_Prev)), .d (dsl ta false (k_api_Envelope ta) a.f_Requests), .d (dsl ta false (k_api_Result ta) a.f_Results)]), .tv (.agg [.d (.val (.int .i64 b.f_Height)), .d (.val (strV b.f_Prev)), .d (dsl tb_ false (k_api_Envelope tb_) b.f_Requests), .d (dsl tb_ false (k_api_Result tb_) b.f_Results)]), pv 0 0, pv 1 0, dv (.bool false), dv (.int .i64 0), aa, aa, aa, aa, aa, aa, aa, aa, aa, aa, aa, aa, aa, aa, aa, aa, aa, aa, aa, aa, aa, aa, aa, aa, aa, aa, aa, aa, dv (.bool (decide (((a.f_Results.length : Nat) : Int) ≠ ((b.f_Results.length : Nat) : Int))))]) (h1 := [.live (.box 33 [.d (.val (.int .i64 a.f_Height)), .d (.val (strV a.f_Prev)), .d (dsl ta false (k_api_Envelope ta) a.f_Requests), .d (dsl ta false (k_api_Result ta) a.f_Results)]), .live (.box 33 [.d (.val (.int .i64 b.f_Height)), .d (.val (strV b.f_Prev)), .d (dsl tb_ false (k_api_Envelope tb_) b.f_Requests), .d (dsl tb_ false (k_api_Result tb_) b.f_Results)])]) rfl rfl (by kernel_rfl) (by kernel_rfl) (by kernel_rfl) (by kernel_rfl) (by kernel_rfl) (by kernel_rfl) (by kernel_rfl) (by kernel_rfl) (by kernel_rfl) (by kernel_rfl) (by kernel_rfl) hG) ?_
          rintro k ⟨hk, hh, hb⟩
          show T _ _ ⟨[.tv (.agg [.d (.val (.int .i64 a.f_Height)), .d (.val (strV a.f_Prev)), .d (dsl ta false (k_api_Envelope ta) a.f_Requests), .d (dsl ta false (k_api_Result ta) a.f_Results)]), .tv (.agg [.d (.val (.int .i64 b.f_Height)), .d (.val (strV b.f_Prev)), .d (dsl tb_ false (k_api_Envelope tb_) b.f_Requests), .d (dsl tb_ false (k_api_Result tb_) b.f_Results)]), pv 0 0, pv 1 0, dv (.bool false), dv (.int .i64 ((k : Nat) : Int)), aa, aa, aa, aa, aa, aa, aa, aa, aa, aa, aa, aa, aa, aa, aa, aa, aa, aa, aa, aa, aa, aa, aa, aa, aa, aa, aa, aa, dv (.bool (decide (((a.f_Results.length : Nat) : Int) ≠ ((b.f_Results.length : Nat) : Int))))], [.live (.box 33 [.d (.val (.int .i64 a.f_Height)), .d (.val (strV a.f_Prev)), .d (dsl ta false (k_api_Envelope ta) a.f_Requests), .d (dsl ta false (k_api_Result ta) a.f_Results)]), .live (.box 33 [.d (.val (.int .i64 b.f_Height)), .d (.val (strV b.f_Prev)), .d (dsl tb_ false (k_api_Envelope tb_) b.f_Requests), .d (dsl tb_ false (k_api_Result tb_) b.f_Results)])]⟩ _ _
          replace hk : k ≤ a.f_Results.length := hk
          replace hh : a.f_Height = b.f_Height ∧ a.f_Prev = b.f_Prev ∧ a.f_Requests = b.f_Requests ∧ a.f_Results.length = b.f_Results.length := hh
          replace hb : ∀ j, j < k → a.f_Results.getD j z_api_Result = b.f_Results.getD j z_api_Result := hb
          have hh4 := hh.2.2.2
          refine T.seq ?_
          refine T.seq ?_
          refine xR [] (by kernel_rfl) (by kernel_rfl) ?_
          refine nT ?_
          by_cases hq5 : ((k : Nat) : Int) < ((a.f_Results.length : Nat) : Int)
          · refine T.condT (by kernel_rfl) (decide_eq_true hq5) ?_
            refine T.skip ?_
            refine nT ?_
            refine T.seq ?_
            refine T.block ?_
            refine T.seq ?_
            refine xD [[], [0], [], [0, 1, 2], [0, 1, 2, 3], [], [5], [], [5, 6, 7], [5, 6, 7, 8], [0, 1, 2, 3, 4, 5, 6, 7, 8, 9]] [hR 3 rfl rfl (q_index ta false (k_api_Result ta) a.f_Results k (k := .i64) (i := ((k : Nat) : Int)) Try.underlying31 iat_88 rfl rfl (by omega) (lt_of rfl) trivial),
              hR 8 rfl rfl (q_index tb_ false (k_api_Result tb_) b.f_Results k (k := .i64) (i := ((k : Nat) : Int)) Try.underlying31 iat_88 rfl rfl (by omega) (lt_of rfl) trivial),
              hR 10 rfl rfl (r_neSt (ax := .tv (.agg [.d (.val (.int .i64 (a.f_Results.getD k z_api_Result).f_Code)), .d (.val (.int .i64 (a.f_Results.getD k z_api_Result).f_Stage))])) (ay := .tv (.agg [.d (.val (.int .i64 (b.f_Results.getD k z_api_Result).f_Code)), .d (.val (.int .i64 (b.f_Results.getD k z_api_Result).f_Stage))])) (a := (a.f_Results.getD k z_api_Result)) (b := (b.f_Results.getD k z_api_Result)) seq_88 ⟨[.int .i64 (a.f_Results.getD k z_api_Result).f_Code, .int .i64 (a.f_Results.getD k z_api_Result).f_Stage], rfl, rfl⟩ ⟨[.int .i64 (b.f_Results.getD k z_api_Result).f_Code, .int .i64 (b.f_Results.getD k z_api_Result).f_Stage], rfl, rfl⟩ (lt_of rfl) trivial)] (by kernel_rfl) (by kernel_rfl) (by kernel_rfl) (by kernel_rfl) (by kernel_rfl) (by kernel_rfl) ?_
            refine nT ?_
            by_cases hq6 : (a.f_Results.getD k z_api_Result) ≠ (b.f_Results.getD k z_api_Result)
            · refine T.condT (by kernel_rfl) (decide_eq_true hq6) ?_
              refine T.seq ?_
              refine xR [] (by kernel_rfl) (by kernel_rfl) ?_
              refine nT ?_
              refine T.ret ?_
              refine rB ?_
              refine rT ?_
              refine rT ?_
              refine rB ?_
              refine rT ?_
              exact tE (.inl rfl) [.t 4 (.one (.d (.val (.bool false))))] ⟨⟨rfl, by kernel_rfl⟩, trivial⟩ [] (by have e1 : ((decide (a = b)) : Bool) = false := (by (refine decide_eq_false fun e => ?_; subst e; simp_all; done)); have hE := congrArg (fun (q1 : Bool) => (dv (.bool q1) : AV)) e1; exact hE) rfl rfl rfl rfl rfl trivial
            · refine T.condF (by kernel_rfl) (decide_eq_false hq6) ?_
              refine T.skip ?_
              refine nB ?_
              refine nT ?_
              refine xR [hR 1 rfl rfl (r_bin (u1 := .int .i64 ((k : Nat) : Int)) (u2 := .int .i64 1) (v := .int .i64 ((k + 1 : Nat) : Int)) (b_add (by rw [IntKind.wrap_i64]; omega)) (lt_of rfl) ⟨rfl, trivial⟩)] (by kernel_rfl) (by kernel_rfl) ?_
              refine nL (k + 1) ⟨(show (k + 1) ≤ a.f_Results.length from (by omega)), (show a.f_Height = b.f_Height ∧ a.f_Prev = b.f_Prev ∧ a.f_Requests = b.f_Requests ∧ a.f_Results.length = b.f_Results.length from hh), (show ∀ j, j < (k + 1) → a.f_Results.getD j z_api_Result = b.f_Results.getD j z_api_Result from (all_succ hb (by exact Classical.not_not.1 (by assumption))))⟩ (show (a.f_Results.length - (k + 1) : Nat) < a.f_Results.length - k from (by omega)) (fun _ _ hG => Gs.into2 (s' := ⟨[.tv (.agg [.d (.val (.int .i64 a.f_Height)), .d (.val (strV a.f_Prev)), .d (dsl ta false (k_api_Envelope ta) a.f_Requests), .d (dsl ta false (k_api_Result ta) a.f_Results)]), .tv (.agg [.d (.val (.int .i64 b.f_Height)), .d (.val (strV b.f_Prev)), .d (dsl tb_ false (k_api_Envelope tb_) b.f_Requests), .d (dsl tb_ false (k_api_Result tb_) b.f_Results)]), pv 0 0, pv 1 0, dv (.bool false), dv (.int .i64 ((k + 1 : Nat) : Int)), aa, aa, aa, aa, aa, aa, aa, aa, aa, aa, aa, aa, aa, aa, aa, aa, aa, aa, aa, aa, aa, aa, aa, aa, aa, aa, aa, aa, dv (.bool (decide (((a.f_Results.length : Nat) : Int) ≠ ((b.f_Results.length : Nat) : Int))))], [.live (.box 33 [.d (.val (.int .i64 a.f_Height)), .d (.val (strV a.f_Prev)), .d (dsl ta false (k_api_Envelope ta) a.f_Requests), .d (dsl ta false (k_api_Result ta) a.f_Results)]), .live (.box 33 [.d (.val (.int .i64 b.f_Height)), .d (.val (strV b.f_Prev)), .d (dsl tb_ false (k_api_Envelope tb_) b.f_Requests), .d (dsl tb_ false (k_api_Result tb_) b.f_Results)])]⟩) [0, 1] (bm 35 17179869247) (t1 := [.tv (.agg [.d (.val (.int .i64 a.f_Height)), .d (.val (strV a.f_Prev)), .d (dsl ta false (k_api_Envelope ta) a.f_Requests), .d (dsl ta false (k_api_Result ta) a.f_Results)]), .tv (.agg [.d (.val (.int .i64 b.f_Height)), .d (.val (strV b.f_Prev)), .d (dsl tb_ false (k_api_Envelope tb_) b.f_Requests), .d (dsl tb_ false (k_api_Result tb_) b.f_Results)]), pv 0 0, pv 1 0, dv (.bool false), dv (.int .i64 ((k + 1 : Nat) : Int)), aa, aa, aa, aa, aa, aa, aa, aa, aa, aa, aa, aa, aa, aa, aa, aa, aa, aa, aa, aa, aa, aa, aa, aa, aa, aa, aa, aa, dv (.bool (decide (((a.f_Results.length : Nat) : Int) ≠ ((b.f_Results.length : Nat) : Int))))]) (h1 := [.live (.box 33 [.d (.val (.int .i64 a.f_Height)), .d (.val (strV a.f_Prev)), .d (dsl ta false (k_api_Envelope ta) a.f_Requests), .d (dsl ta false (k_api_Result ta) a.f_Results)]), .live (.box 33 [.d (.val (.int .i64 b.f_Height)), .d (.val (strV b.f_Prev)), .d (dsl tb_ false (k_api_Envelope tb_) b.f_Requests), .d (dsl tb_ false (k_api_Result tb_) b.f_Results)])]) rfl rfl (by kernel_rfl) (by kernel_rfl) (by kernel_rfl) (by kernel_rfl) (by kernel_rfl) (by kernel_rfl) (by kernel_rfl) (by kernel_rfl) (by kernel_rfl) (by kernel_rfl) (by kernel_rfl) hG)
          · refine T.condF (by kernel_rfl) (decide_eq_false hq5) ?_
            refine T.exit ?_
            refine xT ?_
            refine xT ?_
            refine xH ?_
            refine nT ?_
            refine T.seq ?_
            refine xR [] (by kernel_rfl) (by kernel_rfl) ?_
            refine nT ?_
            refine T.ret ?_
            exact tE (.inl rfl) [.t 4 (.one (.d (.val (.bool true))))] ⟨⟨rfl, by kernel_rfl⟩, trivial⟩ [] (by have e1 : ((decide (a = b)) : Bool) = true := (by exact decide_eq_true ((api_Block_iff _ _).2 ⟨hh.1, hh.2.1, hh.2.2.1, rows_eq (z := z_api_Result) (k := k) hh4 (by omega) hb⟩)); have hE := congrArg (fun (q1 : Bool) => (dv (.bool q1) : AV)) e1; exact hE) rfl rfl rfl rfl rfl trivial
      · refine xR [hY 6 (decide_eq_false hq1),
          hY 7 (decide_eq_false hq1),
          hY 8 (decide_eq_false hq1),
          hY 9 (decide_eq_false hq1),
          hY 10 (decide_eq_false hq1),
          hP 11 (decide_eq_false hq1),
          hY 13 (decide_eq_false hq2),
          hY 14 (decide_eq_false hq2),
          hY 15 (decide_eq_false hq2),
          hY 16 (decide_eq_false hq2),
          hS 17 (oY rfl rfl rfl rfl (lt_of rfl) (decide_eq_false hq2) (r_call (ref03_All ta false ta tb_ false tb_ a.f_Requests b.f_Requests (by assumption)) Try.func44 rfl (by decide) [] [] (l := [(.tmp 20, slV ta false (k_api_Envelope ta) a.f_Requests), (.tmp 22, slV tb_ false (k_api_Envelope tb_) b.f_Requests)]) [] rfl 0 0 rfl rfl rfl rfl rfl rfl rfl rfl rfl ⟨.inl ⟨rfl, rfl⟩, ⟨.inl ⟨rfl, rfl⟩, trivial⟩⟩ rfl (fun b hb => by cases hb) (.inl rfl) (lt_of rfl) trivial)),
          hY 18 (decide_eq_false hq2),
          hP 19 (decide_eq_false hq2),
          hN 21 false (congrArg Bool.not (decide_eq_false hq3)),
          hN 22 false (congrArg Bool.not (decide_eq_false hq3)),
          hN 23 false (congrArg Bool.not (decide_eq_false hq3)),
          hN 24 false (congrArg Bool.not (decide_eq_false hq3)),
          hN 25 false (congrArg Bool.not (decide_eq_false hq3)),
          hN 26 false (congrArg Bool.not (decide_eq_false hq3)),
          hN 27 false (congrArg Bool.not (decide_eq_false hq3)),
          hP 28 (congrArg Bool.not (decide_eq_false hq3))] (by kernel_rfl) (by kernel_rfl) ?_
        refine nT ?_
        refine T.condT (b := true) (by kernel_rfl) rfl ?_
        refine T.seq ?_
        refine xR [] (by kernel_rfl) (by kernel_rfl) ?_
        refine nT ?_
        refine T.ret ?_
        refine rT ?_
        exact tE (.inl rfl) [.t 4 (.one (.d (.val (.bool false))))] ⟨⟨rfl, by kernel_rfl⟩, trivial⟩ [] (by have e1 : ((decide (a = b)) : Bool) = false := (by (refine decide_eq_false fun e => ?_; subst e; simp_all; done)); have hE := congrArg (fun (q1 : Bool) => (dv (.bool q1) : AV)) e1; exact hE) rfl rfl rfl rfl rfl trivial
end Go.Proofs.Ytdclfhahcfefeaa.Q
namespace Go.Proofs.Ytdclfhahcfefeaa.Q
open Go Go.RowKit
set_option linter.unusedVariables false
set_option linter.unusedSimpArgs false
set_option maxRecDepth 100000
set_option maxHeartbeats 4000000
theorem zero_78 : Zero Try.prog 78 [.int .i64 0, .slice none 0 0] := ⟨_, _, iat_78, rfl, rfl⟩
theorem elem_30 : Elem Try.prog 30 78 2 32 := ⟨Try.underlying30, _, _, iat_78, rfl, rfl, rfl, rfl, by decide⟩
-- slices.Clone[[]quaestor/api.Envelope,quaestor/api.Envelope]
theorem clone_Env (ta : Bool) (na : Bool) (a : List api_Envelope) (hp : a.length ≤ 1000000) : Holds Try.prog 66 ⟨[slV ta na (k_api_Envelope false) a], [], ownV 0 (k_api_Envelope false) 0 a.length, [.live (arrK 78 (k_api_Envelope false) a)]⟩ := by
  refine Holds.of Try.func66 rfl (N := 8) Try.ntmps66 rfl fun w0 B0 S0 U0 => ?_
  show T _ (mkBase 8 0 w0 S0 U0 B0) ⟨[slV ta na (k_api_Envelope false) a], []⟩ _ _
  cases na
  · refine T.nilOr (k := 0) rfl (fun h0 => ?_) ?_
    · have h0 := List.eq_nil_of_length_eq_zero h0
      subst h0
      show T _ _ ⟨[dv (.slice none 0 0)], []⟩ _ _
      refine T.seq ?_
      refine xR [] (by kernel_rfl) (by kernel_rfl) ?_
      refine nT ?_
      refine T.seq ?_
      refine T.seq ?_
      refine xR [hR 1 rfl rfl (r_bin (u1 := .slice none 0 0) (u2 := .slice none 0 0) (v := .bool true) (b_eqlNilS Try.underlying30) (lt_of rfl) ⟨rfl, trivial⟩)] (by kernel_rfl) (by kernel_rfl) ?_
      refine nT ?_
      refine T.condT (b := true) (by kernel_rfl) rfl ?_
      refine T.seq ?_
      refine xR [] (by kernel_rfl) (by kernel_rfl) ?_
      refine nT ?_
      refine T.ret ?_
      refine rT ?_
      refine Ends.turn (s' := ⟨[dv (.slice none 0 0), aa, dv (.slice none 0 0), aa, dv (.bool true)], []⟩) (fun _ _ hG => Gs.norm (by kernel_rfl) hG) ?_
      refine Ends.turn (s' := ⟨[dv (.slice none 0 0), aa, ownV 0 (k_api_Envelope false) 0 0, aa, dv (.bool true)], [.live (arrK 78 (k_api_Envelope false) ([] : List api_Envelope))]⟩) (fun _ _ hG => Gs.absent 0 2 78 (k_api_Envelope false) rfl rfl hG) ?_
      exact tE (.inl rfl) [.t 2 (.one (.own 0 (k_api_Envelope false).sz 0 0))] ⟨⟨rfl, by kernel_rfl⟩, trivial⟩ [0] (by have e1 : (([] : List api_Envelope).length : Nat) = 0 := (by rfl); have hE := congrArg (fun (q1 : Nat) => (ownV 0 (k_api_Envelope false) 0 q1 : AV)) e1; exact hE) rfl rfl rfl rfl rfl ⟨⟨rfl, (by kernel_rfl)⟩, trivial⟩
    · show T _ _ ⟨[slV ta true (k_api_Envelope false) a], []⟩ _ _
      refine T.seq ?_
      refine xR [] (by kernel_rfl) (by kernel_rfl) ?_
      refine nT ?_
      refine T.seq ?_
      refine T.seq ?_
      refine xR [hR 1 rfl rfl (r_eqNil (s := .d (dsl ta true (k_api_Envelope false) a)) Try.underlying30 (.inl rfl) (lt_of rfl) ⟨rfl, trivial⟩)] (by kernel_rfl) (by kernel_rfl) ?_
      refine nT ?_
      refine T.condF (b := false) (by kernel_rfl) rfl ?_
      refine T.skip ?_
      refine nT ?_
      refine T.seq ?_
      refine xR [hR 0 rfl rfl (q_buildSlice 0 78 (k_api_Envelope false) (k_api_Envelope_ok false) ([] : List api_Envelope) [] (cs := []) Try.underlying30 iat_78 rfl zero_78 rfl rfl rfl (Nat.le_of_ble_eq_true rfl) part_ok rfl trivial (lt_of rfl) trivial),
        hR 2 rfl rfl (q_appendO 0 1 78 32 (k_api_Envelope false) (k_api_Envelope_ok false) ([] : List api_Envelope) a a ([] : List api_Envelope).length (sy := (.d (dsl ta true (k_api_Envelope false) a))) (rhs := []) elem_30 (by omega) (src_sl ta true (k_api_Envelope false) a) (by simp) (by (simp [maxLen, -List.getD_eq_getElem?_getD] <;> omega)) (by (simp [maxLen, -List.getD_eq_getElem?_getD] <;> omega)) (lt_of rfl) trivial)] (by kernel_rfl) (by kernel_rfl) ?_
      refine nT ?_
      refine T.ret ?_
      exact tE (.inl rfl) [.t 2 (.one (.own 1 (k_api_Envelope false).sz 0 a.length))] ⟨⟨rfl, by kernel_rfl⟩, trivial⟩ [1] rfl rfl rfl rfl rfl rfl ⟨⟨rfl, (by kernel_rfl)⟩, trivial⟩
  · refine T.seq ?_
    refine xR [] (by kernel_rfl) (by kernel_rfl) ?_
    refine nT ?_
    refine T.seq ?_
    refine T.seq ?_
    refine xR [hR 1 rfl rfl (r_eqNil (s := .d (dsl ta true (k_api_Envelope false) a)) Try.underlying30 (.inl rfl) (lt_of rfl) ⟨rfl, trivial⟩)] (by kernel_rfl) (by kernel_rfl) ?_
    refine nT ?_
    refine T.condF (b := false) (by kernel_rfl) rfl ?_
    refine T.skip ?_
    refine nT ?_
    refine T.seq ?_
    refine xR [hR 0 rfl rfl (q_buildSlice 0 78 (k_api_Envelope false) (k_api_Envelope_ok false) ([] : List api_Envelope) [] (cs := []) Try.underlying30 iat_78 rfl zero_78 rfl rfl rfl (Nat.le_of_ble_eq_true rfl) part_ok rfl trivial (lt_of rfl) trivial),
      hR 2 rfl rfl (q_appendO 0 1 78 32 (k_api_Envelope false) (k_api_Envelope_ok false) ([] : List api_Envelope) a a ([] : List api_Envelope).length (sy := (.d (dsl ta true (k_api_Envelope false) a))) (rhs := []) elem_30 (by omega) (src_sl ta true (k_api_Envelope false) a) (by simp) (by (simp [maxLen, -List.getD_eq_getElem?_getD] <;> omega)) (by (simp [maxLen, -List.getD_eq_getElem?_getD] <;> omega)) (lt_of rfl) trivial)] (by kernel_rfl) (by kernel_rfl) ?_
    refine nT ?_
    refine T.ret ?_
    exact tE (.inl rfl) [.t 2 (.one (.own 1 (k_api_Envelope false).sz 0 a.length))] ⟨⟨rfl, by kernel_rfl⟩, trivial⟩ [1] rfl rfl rfl rfl rfl rfl ⟨⟨rfl, (by kernel_rfl)⟩, trivial⟩
end Go.Proofs.Ytdclfhahcfefeaa.Q
namespace Go.Proofs.Ytdclfhahcfefeaa.Q
open Go Go.RowKit
set_option linter.unusedVariables false
set_option linter.unusedSimpArgs false
set_option maxRecDepth 100000
set_option maxHeartbeats 4000000
theorem zero_88 : Zero Try.prog 88 [.int .i64 0, .int .i64 0] := ⟨_, _, iat_88, rfl, rfl⟩
theorem elem_31 : Elem Try.prog 31 88 2 16 := ⟨Try.underlying31, _, _, iat_88, rfl, rfl, rfl, rfl, by decide⟩
-- slices.Clone[[]quaestor/api.Result,quaestor/api.Result]
theorem clone_Res (ta : Bool) (na : Bool) (a : List api_Result) (hp : a.length ≤ 1000000) : Holds Try.prog 65 ⟨[slV ta na (k_api_Result false) a], [], ownV 0 (k_api_Result false) 0 a.length, [.live (arrK 88 (k_api_Result false) a)]⟩ := by
  refine Holds.of Try.func65 rfl (N := 8) Try.ntmps65 rfl fun w0 B0 S0 U0 => ?_
  show T _ (mkBase 8 0 w0 S0 U0 B0) ⟨[slV ta na (k_api_Result false) a], []⟩ _ _
  cases na
  · refine T.nilOr (k := 0) rfl (fun h0 => ?_) ?_
    · have h0 := List.eq_nil_of_length_eq_zero h0
      subst h0
      show T _ _ ⟨[dv (.slice none 0 0)], []⟩ _ _
      refine T.seq ?_
      refine xR [] (by kernel_rfl) (by kernel_rfl) ?_
      refine nT ?_
      refine T.seq ?_
      refine T.seq ?_
      refine xR [hR 1 rfl rfl (r_bin (u1 := .slice none 0 0) (u2 := .slice none 0 0) (v := .bool true) (b_eqlNilS Try.underlying31) (lt_of rfl) ⟨rfl, trivial⟩)] (by kernel_rfl) (by kernel_rfl) ?_
      refine nT ?_
      refine T.condT (b := true) (by kernel_rfl) rfl ?_
      refine T.seq ?_
      refine xR [] (by kernel_rfl) (by kernel_rfl) ?_
      refine nT ?_
      refine T.ret ?_
      refine rT ?_
      refine Ends.turn (s' := ⟨[dv (.slice none 0 0), aa, dv (.slice none 0 0), aa, dv (.bool true)], []⟩) (fun _ _ hG => Gs.norm (by kernel_rfl) hG) ?_
      refine Ends.turn (s' := ⟨[dv (.slice none 0 0), aa, ownV 0 (k_api_Result false) 0 0, aa, dv (.bool true)], [.live (arrK 88 (k_api_Result false) ([] : List api_Result))]⟩) (fun _ _ hG => Gs.absent 0 2 88 (k_api_Result false) rfl rfl hG) ?_
      exact tE (.inl rfl) [.t 2 (.one (.own 0 (k_api_Result false).sz 0 0))] ⟨⟨rfl, by kernel_rfl⟩, trivial⟩ [0] (by have e1 : (([] : List api_Result).length : Nat) = 0 := (by rfl); have hE := congrArg (fun (q1 : Nat) => (ownV 0 (k_api_Result false) 0 q1 : AV)) e1; exact hE) rfl rfl rfl rfl rfl ⟨⟨rfl, (by kernel_rfl)⟩, trivial⟩
    · show T _ _ ⟨[slV ta true (k_api_Result false) a], []⟩ _ _
      refine T.seq ?_
      refine xR [] (by kernel_rfl) (by kernel_rfl) ?_
      refine nT ?_
      refine T.seq ?_
      refine T.seq ?_
      refine xR [hR 1 rfl rfl (r_eqNil (s := .d (dsl ta true (k_api_Result false) a)) Try.underlying31 (.inl rfl) (lt_of rfl) ⟨rfl, trivial⟩)] (by kernel_rfl) (by kernel_rfl) ?_
      refine nT ?_
      refine T.condF (b := false) (by kernel_rfl) rfl ?_
      refine T.skip ?_
      refine nT ?_
      refine T.seq ?_
      refine xR [hR 0 rfl rfl (q_buildSlice 0 88 (k_api_Result false) (k_api_Result_ok false) ([] : List api_Result) [] (cs := []) Try.underlying31 iat_88 rfl zero_88 rfl rfl rfl (Nat.le_of_ble_eq_true rfl) part_ok rfl trivial (lt_of rfl) trivial),
        hR 2 rfl rfl (q_appendO 0 1 88 16 (k_api_Result false) (k_api_Result_ok false) ([] : List api_Result) a a ([] : List api_Result).length (sy := (.d (dsl ta true (k_api_Result false) a))) (rhs := []) elem_31 (by omega) (src_sl ta true (k_api_Result false) a) (by simp) (by (simp [maxLen, -List.getD_eq_getElem?_getD] <;> omega)) (by (simp [maxLen, -List.getD_eq_getElem?_getD] <;> omega)) (lt_of rfl) trivial)] (by kernel_rfl) (by kernel_rfl) ?_
      refine nT ?_
      refine T.ret ?_
      exact tE (.inl rfl) [.t 2 (.one (.own 1 (k_api_Result false).sz 0 a.length))] ⟨⟨rfl, by kernel_rfl⟩, trivial⟩ [1] rfl rfl rfl rfl rfl rfl ⟨⟨rfl, (by kernel_rfl)⟩, trivial⟩
  · refine T.seq ?_
    refine xR [] (by kernel_rfl) (by kernel_rfl) ?_
    refine nT ?_
    refine T.seq ?_
    refine T.seq ?_
    refine xR [hR 1 rfl rfl (r_eqNil (s := .d (dsl ta true (k_api_Result false) a)) Try.underlying31 (.inl rfl) (lt_of rfl) ⟨rfl, trivial⟩)] (by kernel_rfl) (by kernel_rfl) ?_
    refine nT ?_
    refine T.condF (b := false) (by kernel_rfl) rfl ?_
    refine T.skip ?_
    refine nT ?_
    refine T.seq ?_
    refine xR [hR 0 rfl rfl (q_buildSlice 0 88 (k_api_Result false) (k_api_Result_ok false) ([] : List api_Result) [] (cs := []) Try.underlying31 iat_88 rfl zero_88 rfl rfl rfl (Nat.le_of_ble_eq_true rfl) part_ok rfl trivial (lt_of rfl) trivial),
      hR 2 rfl rfl (q_appendO 0 1 88 16 (k_api_Result false) (k_api_Result_ok false) ([] : List api_Result) a a ([] : List api_Result).length (sy := (.d (dsl ta true (k_api_Result false) a))) (rhs := []) elem_31 (by omega) (src_sl ta true (k_api_Result false) a) (by simp) (by (simp [maxLen, -List.getD_eq_getElem?_getD] <;> omega)) (by (simp [maxLen, -List.getD_eq_getElem?_getD] <;> omega)) (lt_of rfl) trivial)] (by kernel_rfl) (by kernel_rfl) ?_
    refine nT ?_
    refine T.ret ?_
    exact tE (.inl rfl) [.t 2 (.one (.own 1 (k_api_Result false).sz 0 a.length))] ⟨⟨rfl, by kernel_rfl⟩, trivial⟩ [1] rfl rfl rfl rfl rfl rfl ⟨⟨rfl, (by kernel_rfl)⟩, trivial⟩
end Go.Proofs.Ytdclfhahcfefeaa.Q
namespace Go.Proofs.Ytdclfhahcfefeaa.Q
open Go Go.RowKit
set_option linter.unusedVariables false
set_option linter.unusedSimpArgs false
set_option maxRecDepth 100000
set_option maxHeartbeats 4000000
theorem iat_80 : Try.prog.info? 80 = some Try.t80 := by kernel_rfl
theorem zero_80 : Zero Try.prog 80 [.int .i64 0, strV [], .slice none 0 0, .slice none 0 0, strV []] := ⟨_, _, iat_80, rfl, rfl⟩
theorem elem_72 : Elem Try.prog 72 80 5 88 := ⟨Try.underlying72, _, _, iat_80, rfl, rfl, rfl, rfl, by decide⟩
-- slices.Clone[[]quaestor/ledger.link,quaestor/ledger.link]
theorem clone_link (ta : Bool) (na : Bool) (a : List ledger_link) (hp : a.length ≤ 1000000) : Holds Try.prog 45 ⟨[slV ta na (k_ledger_link false) a], [], ownV 0 (k_ledger_link false) 0 a.length, [.live (arrK 80 (k_ledger_link false) a)]⟩ := by
  refine Holds.of Try.func45 rfl (N := 8) Try.ntmps45 rfl fun w0 B0 S0 U0 => ?_
  show T _ (mkBase 8 0 w0 S0 U0 B0) ⟨[slV ta na (k_ledger_link false) a], []⟩ _ _
  cases na
  · refine T.nilOr (k := 0) rfl (fun h0 => ?_) ?_
    · have h0 := List.eq_nil_of_length_eq_zero h0
      subst h0
      show T _ _ ⟨[dv (.slice none 0 0)], []⟩ _ _
      refine T.seq ?_
      refine xR [] (by kernel_rfl) (by kernel_rfl) ?_
      refine nT ?_
      refine T.seq ?_
      refine T.seq ?_
      refine xR [hR 1 rfl rfl (r_bin (u1 := .slice none 0 0) (u2 := .slice none 0 0) (v := .bool true) (b_eqlNilS Try.underlying72) (lt_of rfl) ⟨rfl, trivial⟩)] (by kernel_rfl) (by kernel_rfl) ?_
      refine nT ?_
      refine T.condT (b := true) (by kernel_rfl) rfl ?_
      refine T.seq ?_
      refine xR [] (by kernel_rfl) (by kernel_rfl) ?_
      refine nT ?_
      refine T.ret ?_
      refine rT ?_
      refine Ends.turn (s' := ⟨[dv (.slice none 0 0), aa, dv (.slice none 0 0), aa, dv (.bool true)], []⟩) (fun _ _ hG => Gs.norm (by kernel_rfl) hG) ?_
      refine Ends.turn (s' := ⟨[dv (.slice none 0 0), aa, ownV 0 (k_ledger_link false) 0 0, aa, dv (.bool true)], [.live (arrK 80 (k_ledger_link false) ([] : List ledger_link))]⟩) (fun _ _ hG => Gs.absent 0 2 80 (k_ledger_link false) rfl rfl hG) ?_
      exact tE (.inl rfl) [.t 2 (.one (.own 0 (k_ledger_link false).sz 0 0))] ⟨⟨rfl, by kernel_rfl⟩, trivial⟩ [0] (by have e1 : (([] : List ledger_link).length : Nat) = 0 := (by rfl); have hE := congrArg (fun (q1 : Nat) => (ownV 0 (k_ledger_link false) 0 q1 : AV)) e1; exact hE) rfl rfl rfl rfl rfl ⟨⟨rfl, (by kernel_rfl)⟩, trivial⟩
    · show T _ _ ⟨[slV ta true (k_ledger_link false) a], []⟩ _ _
      refine T.seq ?_
      refine xR [] (by kernel_rfl) (by kernel_rfl) ?_
      refine nT ?_
      refine T.seq ?_
      refine T.seq ?_
      refine xR [hR 1 rfl rfl (r_eqNil (s := .d (dsl ta true (k_ledger_link false) a)) Try.underlying72 (.inl rfl) (lt_of rfl) ⟨rfl, trivial⟩)] (by kernel_rfl) (by kernel_rfl) ?_
      refine nT ?_
      refine T.condF (b := false) (by kernel_rfl) rfl ?_
      refine T.skip ?_
      refine nT ?_
      refine T.seq ?_
      refine xR [hR 0 rfl rfl (q_buildSlice 0 80 (k_ledger_link false) (k_ledger_link_ok false) ([] : List ledger_link) [] (cs := []) Try.underlying72 iat_80 rfl zero_80 rfl rfl rfl (Nat.le_of_ble_eq_true rfl) part_ok rfl trivial (lt_of rfl) trivial),
        hR 2 rfl rfl (q_appendO 0 1 80 88 (k_ledger_link false) (k_ledger_link_ok false) ([] : List ledger_link) a a ([] : List ledger_link).length (sy := (.d (dsl ta true (k_ledger_link false) a))) (rhs := []) elem_72 (by omega) (src_sl ta true (k_ledger_link false) a) (by simp) (by (simp [maxLen, -List.getD_eq_getElem?_getD] <;> omega)) (by (simp [maxLen, -List.getD_eq_getElem?_getD] <;> omega)) (lt_of rfl) trivial)] (by kernel_rfl) (by kernel_rfl) ?_
      refine nT ?_
      refine T.ret ?_
      exact tE (.inl rfl) [.t 2 (.one (.own 1 (k_ledger_link false).sz 0 a.length))] ⟨⟨rfl, by kernel_rfl⟩, trivial⟩ [1] rfl rfl rfl rfl rfl rfl ⟨⟨rfl, (by kernel_rfl)⟩, trivial⟩
  · refine T.seq ?_
    refine xR [] (by kernel_rfl) (by kernel_rfl) ?_
    refine nT ?_
    refine T.seq ?_
    refine T.seq ?_
    refine xR [hR 1 rfl rfl (r_eqNil (s := .d (dsl ta true (k_ledger_link false) a)) Try.underlying72 (.inl rfl) (lt_of rfl) ⟨rfl, trivial⟩)] (by kernel_rfl) (by kernel_rfl) ?_
    refine nT ?_
    refine T.condF (b := false) (by kernel_rfl) rfl ?_
    refine T.skip ?_
    refine nT ?_
    refine T.seq ?_
    refine xR [hR 0 rfl rfl (q_buildSlice 0 80 (k_ledger_link false) (k_ledger_link_ok false) ([] : List ledger_link) [] (cs := []) Try.underlying72 iat_80 rfl zero_80 rfl rfl rfl (Nat.le_of_ble_eq_true rfl) part_ok rfl trivial (lt_of rfl) trivial),
      hR 2 rfl rfl (q_appendO 0 1 80 88 (k_ledger_link false) (k_ledger_link_ok false) ([] : List ledger_link) a a ([] : List ledger_link).length (sy := (.d (dsl ta true (k_ledger_link false) a))) (rhs := []) elem_72 (by omega) (src_sl ta true (k_ledger_link false) a) (by simp) (by (simp [maxLen, -List.getD_eq_getElem?_getD] <;> omega)) (by (simp [maxLen, -List.getD_eq_getElem?_getD] <;> omega)) (lt_of rfl) trivial)] (by kernel_rfl) (by kernel_rfl) ?_
    refine nT ?_
    refine T.ret ?_
    exact tE (.inl rfl) [.t 2 (.one (.own 1 (k_ledger_link false).sz 0 a.length))] ⟨⟨rfl, by kernel_rfl⟩, trivial⟩ [1] rfl rfl rfl rfl rfl rfl ⟨⟨rfl, (by kernel_rfl)⟩, trivial⟩
end Go.Proofs.Ytdclfhahcfefeaa.Q
