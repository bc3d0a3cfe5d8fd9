import Derived.Test.YtdclfhahcfefeaaC11n10
namespace Go.Proofs.Ytdclfhahcfefeaa.Q
open Go Go.RowKit
set_option linter.unusedVariables false
set_option linter.unusedSimpArgs false
set_option maxRecDepth 100000
set_option maxHeartbeats 4000000
theorem wide_35 : Wide Try.prog 35 (some 7) := ⟨_, _, Try.underlying35, .inl ⟨_, rfl⟩, iat_35, rfl⟩
-- quaestor/ledger.From
theorem ledger_From_ok (h : Int) (d : List UInt8) (hc : 0 ≤ h ∧ h ≤ 1099511627776) : Holds Try.prog 21 ⟨[dv (.int .i64 h), dv (strV d)], [], .tup [.one (.ptr 0 0), .one (.d (.val (.int .i64 0)))], [.live (.box 74 [.d (.val (.int .i64 h)), .d (.val (strV d)), .d (.val (.bool true)), .own 1 (k_ledger_link false).sz 0 ([] : List ledger_link).length]), .live (arrK 80 (k_ledger_link false) ([] : List ledger_link))]⟩ := by
  refine Holds.of Try.func21 rfl (N := 17) Try.ntmps21 rfl fun w0 B0 S0 U0 => ?_
  show T _ (mkBase 17 0 w0 S0 U0 B0) ⟨[dv (.int .i64 h), dv (strV d)], []⟩ _ _
  refine T.seq ?_
  refine xR [] (by kernel_rfl) (by kernel_rfl) ?_
  refine nT ?_
  refine T.seq ?_
  refine T.seq ?_
  by_cases hq1 : h < 0
  · exact absurd hq1 (by omega)
  · refine xR [hY 3 (decide_eq_false hq1),
      hY 4 (decide_eq_false hq1),
      hP 5 (decide_eq_false hq1)] (by kernel_rfl) (by kernel_rfl) ?_
    refine nT ?_
    by_cases hq2 : h > 1099511627776
    · exact absurd hq2 (by omega)
    · refine T.condF (by kernel_rfl) (decide_eq_false hq2) ?_
      refine T.skip ?_
      refine nT ?_
      refine T.seq ?_
      refine xR [] (by kernel_rfl) (by kernel_rfl) ?_
      refine nT ?_
      refine T.ret ?_
      refine Ends.turn (s' := ⟨[dv (.int .i64 h), dv (strV d), aa, aa, pv 0 0, dv (.int .i64 0), aa, aa, aa, aa, aa, dv (.bool (decide (h > 1099511627776)))], [.live (.box 74 [.d (.val (.int .i64 h)), .d (.val (strV d)), .d (.val (.bool true)), .d (.val (.slice none 0 0))])]⟩) (fun _ _ hG => Gs.norm (by kernel_rfl) hG) ?_
      refine Ends.turn (s' := ⟨[dv (.int .i64 h), dv (strV d), aa, aa, pv 0 0, dv (.int .i64 0), aa, aa, aa, aa, aa, dv (.bool (decide (h > 1099511627776)))], [.live (.box 74 [.d (.val (.int .i64 h)), .d (.val (strV d)), .d (.val (.bool true)), .own 1 (k_ledger_link false).sz 0 0]), .live (arrK 80 (k_ledger_link false) ([] : List ledger_link))]⟩) (fun _ _ hG => Gs.absentB 1 0 3 80 (k_ledger_link false) (Tb := 74) (cs := [.d (.val (.int .i64 h)), .d (.val (strV d)), .d (.val (.bool true)), .d (.val (.slice none 0 0))]) rfl rfl rfl hG) ?_
      exact tE (.inl rfl) [.t 4 (.one (.ptr 0 0)), .t 5 (.one (.d (.val (.int .i64 0))))] ⟨⟨rfl, by kernel_rfl⟩, ⟨⟨rfl, by kernel_rfl⟩, trivial⟩⟩ [0, 1] rfl rfl rfl rfl rfl rfl ⟨⟨rfl, (by have e1 : (0 : Nat) = ([] : List ledger_link).length := (by rfl); have hE := congrArg (fun (q1 : Nat) => (.live (.box 74 [.d (.val (.int .i64 h)), .d (.val (strV d)), .d (.val (.bool true)), .own 1 (k_ledger_link false).sz 0 q1]) : HS)) e1; exact Eq.trans (by kernel_rfl) hE)⟩, ⟨⟨rfl, (by kernel_rfl)⟩, trivial⟩⟩
end Go.Proofs.Ytdclfhahcfefeaa.Q
namespace Go.Proofs.Ytdclfhahcfefeaa.Q
open Go Go.RowKit
set_option linter.unusedVariables false
set_option linter.unusedSimpArgs false
set_option maxRecDepth 100000
set_option maxHeartbeats 4000000
-- quaestor/ledger.From
theorem ledger_From_no (h : Int) (d : List UInt8) (hc : ¬ (0 ≤ h ∧ h ≤ 1099511627776)) : Holds Try.prog 21 ⟨[dv (.int .i64 h), dv (strV d)], [], .tup [.one (.d (.val (.pointer none))), .one (.d (.val (.int .i64 100)))], []⟩ := by
  refine Holds.of Try.func21 rfl (N := 17) Try.ntmps21 rfl fun w0 B0 S0 U0 => ?_
  show T _ (mkBase 17 0 w0 S0 U0 B0) ⟨[dv (.int .i64 h), dv (strV d)], []⟩ _ _
  refine T.seq ?_
  refine xR [] (by kernel_rfl) (by kernel_rfl) ?_
  refine nT ?_
  refine T.seq ?_
  refine T.seq ?_
  by_cases hq1 : h < 0
  · refine xR [hN 3 false (decide_eq_true hq1),
      hN 4 false (decide_eq_true hq1),
      hP 5 (decide_eq_true hq1)] (by kernel_rfl) (by kernel_rfl) ?_
    refine nT ?_
    refine T.condT (b := true) (by kernel_rfl) rfl ?_
    refine T.seq ?_
    refine xR [] (by kernel_rfl) (by kernel_rfl) ?_
    refine nT ?_
    refine T.ret ?_
    refine rT ?_
    exact tE (.inl rfl) [.t 4 (.one (.d (.val (.pointer none)))), .t 5 (.one (.d (.val (.int .i64 100))))] ⟨⟨rfl, by kernel_rfl⟩, ⟨⟨rfl, by kernel_rfl⟩, trivial⟩⟩ [] rfl rfl rfl rfl rfl rfl trivial
  · refine xR [hY 3 (decide_eq_false hq1),
      hY 4 (decide_eq_false hq1),
      hP 5 (decide_eq_false hq1)] (by kernel_rfl) (by kernel_rfl) ?_
    refine nT ?_
    by_cases hq2 : h > 1099511627776
    · refine T.condT (by kernel_rfl) (decide_eq_true hq2) ?_
      refine T.seq ?_
      refine xR [] (by kernel_rfl) (by kernel_rfl) ?_
      refine nT ?_
      refine T.ret ?_
      refine rT ?_
      exact tE (.inl rfl) [.t 4 (.one (.d (.val (.pointer none)))), .t 5 (.one (.d (.val (.int .i64 100))))] ⟨⟨rfl, by kernel_rfl⟩, ⟨⟨rfl, by kernel_rfl⟩, trivial⟩⟩ [] rfl rfl rfl rfl rfl rfl trivial
    · exact absurd ⟨by omega, by omega⟩ hc
end Go.Proofs.Ytdclfhahcfefeaa.Q
namespace Go.Proofs.Ytdclfhahcfefeaa.Q
open Go Go.RowKit
set_option linter.unusedVariables false
set_option linter.unusedSimpArgs false
set_option maxRecDepth 100000
set_option maxHeartbeats 4000000
-- quaestor/quaestorref11.From
theorem ref11_From_ok (h : Int) (d : List UInt8) (hc : 0 ≤ h ∧ h ≤ 1099511627776) : Holds Try.prog 22 ⟨[dv (.int .i64 h), dv (strV d)], [], .tup [.one (.ptr 0 0), .one (.d (.val (.int .i64 0)))], [.live (.box 76 [.d (.val (.bool true)), .d (.val (.int .i64 h)), .d (.val (strV d)), .own 1 (k_api_Block false).sz 0 ([] : List api_Block).length]), .live (arrK 33 (k_api_Block false) ([] : List api_Block))]⟩ := by
  refine Holds.of Try.func22 rfl (N := 16) Try.ntmps22 rfl fun w0 B0 S0 U0 => ?_
  show T _ (mkBase 16 0 w0 S0 U0 B0) ⟨[dv (.int .i64 h), dv (strV d)], []⟩ _ _
  refine T.seq ?_
  refine xR [] (by kernel_rfl) (by kernel_rfl) ?_
  refine nT ?_
  refine T.seq ?_
  refine T.seq ?_
  by_cases hq1 : h < 0
  · exact absurd hq1 (by omega)
  · refine xR [hY 3 (decide_eq_false hq1),
      hY 4 (decide_eq_false hq1),
      hP 5 (decide_eq_false hq1)] (by kernel_rfl) (by kernel_rfl) ?_
    refine nT ?_
    by_cases hq2 : h > 1099511627776
    · exact absurd hq2 (by omega)
    · refine T.condF (by kernel_rfl) (decide_eq_false hq2) ?_
      refine T.skip ?_
      refine nT ?_
      refine T.seq ?_
      refine xR [] (by kernel_rfl) (by kernel_rfl) ?_
      refine nT ?_
      refine T.ret ?_
      refine Ends.turn (s' := ⟨[dv (.int .i64 h), dv (strV d), aa, aa, pv 0 0, dv (.int .i64 0), aa, aa, aa, aa, aa, dv (.bool (decide (h > 1099511627776)))], [.live (.box 76 [.d (.val (.bool true)), .d (.val (.int .i64 h)), .d (.val (strV d)), .d (.val (.slice none 0 0))])]⟩) (fun _ _ hG => Gs.norm (by kernel_rfl) hG) ?_
      refine Ends.turn (s' := ⟨[dv (.int .i64 h), dv (strV d), aa, aa, pv 0 0, dv (.int .i64 0), aa, aa, aa, aa, aa, dv (.bool (decide (h > 1099511627776)))], [.live (.box 76 [.d (.val (.bool true)), .d (.val (.int .i64 h)), .d (.val (strV d)), .own 1 (k_api_Block false).sz 0 0]), .live (arrK 33 (k_api_Block false) ([] : List api_Block))]⟩) (fun _ _ hG => Gs.absentB 1 0 3 33 (k_api_Block false) (Tb := 76) (cs := [.d (.val (.bool true)), .d (.val (.int .i64 h)), .d (.val (strV d)), .d (.val (.slice none 0 0))]) rfl rfl rfl hG) ?_
      exact tE (.inl rfl) [.t 4 (.one (.ptr 0 0)), .t 5 (.one (.d (.val (.int .i64 0))))] ⟨⟨rfl, by kernel_rfl⟩, ⟨⟨rfl, by kernel_rfl⟩, trivial⟩⟩ [0, 1] rfl rfl rfl rfl rfl rfl ⟨⟨rfl, (by have e1 : (0 : Nat) = ([] : List api_Block).length := (by rfl); have hE := congrArg (fun (q1 : Nat) => (.live (.box 76 [.d (.val (.bool true)), .d (.val (.int .i64 h)), .d (.val (strV d)), .own 1 (k_api_Block false).sz 0 q1]) : HS)) e1; exact Eq.trans (by kernel_rfl) hE)⟩, ⟨⟨rfl, (by kernel_rfl)⟩, trivial⟩⟩
end Go.Proofs.Ytdclfhahcfefeaa.Q
namespace Go.Proofs.Ytdclfhahcfefeaa.Q
open Go Go.RowKit
set_option linter.unusedVariables false
set_option linter.unusedSimpArgs false
set_option maxRecDepth 100000
set_option maxHeartbeats 4000000
-- quaestor/quaestorref11.From
theorem ref11_From_no (h : Int) (d : List UInt8) (hc : ¬ (0 ≤ h ∧ h ≤ 1099511627776)) : Holds Try.prog 22 ⟨[dv (.int .i64 h), dv (strV d)], [], .tup [.one (.d (.val (.pointer none))), .one (.d (.val (.int .i64 100)))], []⟩ := by
  refine Holds.of Try.func22 rfl (N := 16) Try.ntmps22 rfl fun w0 B0 S0 U0 => ?_
  show T _ (mkBase 16 0 w0 S0 U0 B0) ⟨[dv (.int .i64 h), dv (strV d)], []⟩ _ _
  refine T.seq ?_
  refine xR [] (by kernel_rfl) (by kernel_rfl) ?_
  refine nT ?_
  refine T.seq ?_
  refine T.seq ?_
  by_cases hq1 : h < 0
  · refine xR [hN 3 false (decide_eq_true hq1),
      hN 4 false (decide_eq_true hq1),
      hP 5 (decide_eq_true hq1)] (by kernel_rfl) (by kernel_rfl) ?_
    refine nT ?_
    refine T.condT (b := true) (by kernel_rfl) rfl ?_
    refine T.seq ?_
    refine xR [] (by kernel_rfl) (by kernel_rfl) ?_
    refine nT ?_
    refine T.ret ?_
    refine rT ?_
    exact tE (.inl rfl) [.t 4 (.one (.d (.val (.pointer none)))), .t 5 (.one (.d (.val (.int .i64 100))))] ⟨⟨rfl, by kernel_rfl⟩, ⟨⟨rfl, by kernel_rfl⟩, trivial⟩⟩ [] rfl rfl rfl rfl rfl rfl trivial
  · refine xR [hY 3 (decide_eq_false hq1),
      hY 4 (decide_eq_false hq1),
      hP 5 (decide_eq_false hq1)] (by kernel_rfl) (by kernel_rfl) ?_
    refine nT ?_
    by_cases hq2 : h > 1099511627776
    · refine T.condT (by kernel_rfl) (decide_eq_true hq2) ?_
      refine T.seq ?_
      refine xR [] (by kernel_rfl) (by kernel_rfl) ?_
      refine nT ?_
      refine T.ret ?_
      refine rT ?_
      exact tE (.inl rfl) [.t 4 (.one (.d (.val (.pointer none)))), .t 5 (.one (.d (.val (.int .i64 100))))] ⟨⟨rfl, by kernel_rfl⟩, ⟨⟨rfl, by kernel_rfl⟩, trivial⟩⟩ [] rfl rfl rfl rfl rfl rfl trivial
    · exact absurd ⟨by omega, by omega⟩ hc
end Go.Proofs.Ytdclfhahcfefeaa.Q
