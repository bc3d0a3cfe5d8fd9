import Derived.Test.YtdclfhahcfefeaaC11n20
namespace Go.Proofs.Ytdclfhahcfefeaa.Q
open Go Go.RowKit
set_option linter.unusedVariables false
set_option linter.unusedSimpArgs false
set_option maxRecDepth 100000
set_option maxHeartbeats 4000000
-- quaestor/quaestorlaw11.LedgerSeals
theorem law_LedgerSeals (a : arr_2_int) (x : quaestorlaw11_Snap) (y : quaestorlaw11_Snap) (ha0 : i64R a.f_0) (ha1 : i64R a.f_1) : Holds Try.prog 8 ⟨[.tv (.agg [.d (.val (.int .i64 a.f_0)), .d (.val (.int .i64 a.f_1))]), .tv (.agg [.d (.val (strV x.f_Head)), .d (dsl false false kU8 x.f_State)]), .tv (.agg [.d (.val (strV y.f_Head)), .d (dsl false false kU8 y.f_State)])], [], dv (.bool true), []⟩ := by
  refine Holds.of Try.func8 rfl (N := 117) Try.ntmps8 rfl fun w0 B0 S0 U0 => ?_
  show T _ (mkBase 117 0 w0 S0 U0 B0) ⟨[.tv (.agg [.d (.val (.int .i64 a.f_0)), .d (.val (.int .i64 a.f_1))]), .tv (.agg [.d (.val (strV x.f_Head)), .d (dsl false false kU8 x.f_State)]), .tv (.agg [.d (.val (strV y.f_Head)), .d (dsl false false kU8 y.f_State)])], []⟩ _ _
  refine T.seq ?_
  refine xR [] (by kernel_rfl) (by kernel_rfl) ?_
  refine nT ?_
  refine T.seq ?_
  refine T.seq ?_
  by_cases hq1 : ((x.f_Head.length : Nat) : Int) > 5000
  · refine xR [hN 5 false (decide_eq_true hq1),
      hN 6 false (decide_eq_true hq1),
      hN 7 false (decide_eq_true hq1),
      hN 8 false (decide_eq_true hq1),
      hP 9 (decide_eq_true hq1),
      hN 11 (b := true) false rfl,
      hN 12 (b := true) false rfl,
      hN 13 (b := true) false rfl,
      hN 14 (b := true) false rfl,
      hP 15 (b := true) (w := true) rfl,
      hN 17 (b := true) false rfl,
      hN 18 (b := true) false rfl,
      hN 19 (b := true) false rfl,
      hN 20 (b := true) false rfl,
      hP 21 (b := true) (w := true) rfl] (by kernel_rfl) (by kernel_rfl) ?_
    refine nT ?_
    refine T.condT (b := true) (by kernel_rfl) rfl ?_
    refine T.seq ?_
    refine xR [] (by kernel_rfl) (by kernel_rfl) ?_
    refine nT ?_
    refine T.ret ?_
    refine rT ?_
    exact tE (.inl rfl) [.t 6 (.one (.d (.val (.bool true))))] ⟨⟨rfl, by kernel_rfl⟩, trivial⟩ [] rfl rfl rfl rfl rfl rfl trivial
  · by_cases hq2 : ((x.f_State.length : Nat) : Int) > 5000
    · refine xR [hY 5 (decide_eq_false hq1),
        hY 6 (decide_eq_false hq1),
        hY 7 (decide_eq_false hq1),
        hY 8 (decide_eq_false hq1),
        hP 9 (decide_eq_false hq1),
        hN 11 false (decide_eq_true hq2),
        hN 12 false (decide_eq_true hq2),
        hN 13 false (decide_eq_true hq2),
        hN 14 false (decide_eq_true hq2),
        hP 15 (decide_eq_true hq2),
        hN 17 (b := true) false rfl,
        hN 18 (b := true) false rfl,
        hN 19 (b := true) false rfl,
        hN 20 (b := true) false rfl,
        hP 21 (b := true) (w := true) rfl] (by kernel_rfl) (by kernel_rfl) ?_
      refine nT ?_
      refine T.condT (b := true) (by kernel_rfl) rfl ?_
      refine T.seq ?_
      refine xR [] (by kernel_rfl) (by kernel_rfl) ?_
      refine nT ?_
      refine T.ret ?_
      refine rT ?_
      exact tE (.inl rfl) [.t 6 (.one (.d (.val (.bool true))))] ⟨⟨rfl, by kernel_rfl⟩, trivial⟩ [] rfl rfl rfl rfl rfl rfl trivial
    · by_cases hq3 : ((y.f_Head.length : Nat) : Int) > 5000
      · refine xR [hY 5 (decide_eq_false hq1),
          hY 6 (decide_eq_false hq1),
          hY 7 (decide_eq_false hq1),
          hY 8 (decide_eq_false hq1),
          hP 9 (decide_eq_false hq1),
          hY 11 (decide_eq_false hq2),
          hY 12 (decide_eq_false hq2),
          hY 13 (decide_eq_false hq2),
          hY 14 (decide_eq_false hq2),
          hP 15 (decide_eq_false hq2),
          hN 17 false (decide_eq_true hq3),
          hN 18 false (decide_eq_true hq3),
          hN 19 false (decide_eq_true hq3),
          hN 20 false (decide_eq_true hq3),
          hP 21 (decide_eq_true hq3)] (by kernel_rfl) (by kernel_rfl) ?_
        refine nT ?_
        refine T.condT (b := true) (by kernel_rfl) rfl ?_
        refine T.seq ?_
        refine xR [] (by kernel_rfl) (by kernel_rfl) ?_
        refine nT ?_
        refine T.ret ?_
        refine rT ?_
        exact tE (.inl rfl) [.t 6 (.one (.d (.val (.bool true))))] ⟨⟨rfl, by kernel_rfl⟩, trivial⟩ [] rfl rfl rfl rfl rfl rfl trivial
      · refine xR [hY 5 (decide_eq_false hq1),
          hY 6 (decide_eq_false hq1),
          hY 7 (decide_eq_false hq1),
          hY 8 (decide_eq_false hq1),
          hP 9 (decide_eq_false hq1),
          hY 11 (decide_eq_false hq2),
          hY 12 (decide_eq_false hq2),
          hY 13 (decide_eq_false hq2),
          hY 14 (decide_eq_false hq2),
          hP 15 (decide_eq_false hq2),
          hY 17 (decide_eq_false hq3),
          hY 18 (decide_eq_false hq3),
          hY 19 (decide_eq_false hq3),
          hY 20 (decide_eq_false hq3),
          hP 21 (decide_eq_false hq3)] (by kernel_rfl) (by kernel_rfl) ?_
        refine nT ?_
        by_cases hq4 : ((y.f_State.length : Nat) : Int) > 5000
        · refine T.condT (by kernel_rfl) (decide_eq_true hq4) ?_
          refine T.seq ?_
          refine xR [] (by kernel_rfl) (by kernel_rfl) ?_
          refine nT ?_
          refine T.ret ?_
          refine rT ?_
          exact tE (.inl rfl) [.t 6 (.one (.d (.val (.bool true))))] ⟨⟨rfl, by kernel_rfl⟩, trivial⟩ [] rfl rfl rfl rfl rfl rfl trivial
        · have hp1 := pack_len a.f_0 x.f_Head x.f_State; have hp2 := pack_len a.f_1 y.f_Head y.f_State; have huo := un_ok (h := a.f_0) (d := x.f_Head) (s := x.f_State) (M := (((packB a.f_0 x.f_Head x.f_State).length : Nat) : Int)) ha0 (by omega) (by omega) (Int.le_refl _); have hsl := seal_inj (h := a.f_0) (h' := a.f_1) (d := x.f_Head) (d' := y.f_Head) (s := x.f_State) (s' := y.f_State) ha0 ha1 (by omega) (by omega) (by omega) (by omega)
          refine T.condF (by kernel_rfl) (decide_eq_false hq4) ?_
          refine T.skip ?_
          refine nT ?_
          refine T.seq ?_
          refine xD [[], [0], [], [2], [0, 1], [0, 1, 2, 3, 4]] [hR 0 rfl rfl (r_indexB (k := .i64) (l := 0) (off := 0) (i := 0) (m := 0) (o' := 0) Try.underlying67 iat_3 rfl (by decide) rfl (lt_of rfl) ⟨rfl, trivial⟩),
            hR 2 rfl rfl (r_indexB (k := .i64) (l := 0) (off := 0) (i := 1) (m := 1) (o' := 1) Try.underlying67 iat_3 rfl (by decide) rfl (lt_of rfl) ⟨rfl, trivial⟩)] (by kernel_rfl) (by kernel_rfl) (by kernel_rfl) (by kernel_rfl) (by kernel_rfl) (by kernel_rfl) ?_
          refine nT ?_
          refine T.seq ?_
          refine xD [[], [], [1], [], [3], [0, 1, 2, 3, 4], [], [], [7], [], [9], [0, 1, 2, 3, 4, 5, 6, 7, 8, 9, 10], [0, 1, 2, 3, 4, 5, 6, 7, 8, 9, 10, 11], [0, 1, 2, 3, 4, 5, 6, 7, 8, 9, 10, 11, 12]] [hR 5 rfl rfl (r_call (ledger_Pack a.f_0 x.f_Head false false x.f_State (by omega) (by omega)) Try.func26 rfl (by decide) [3] [] (l := [(.tmp 41, dv (.int .i64 a.f_0)), (.tmp 43, dv (strV x.f_Head)), (.tmp 45, slV false false kU8 x.f_State)]) [] rfl 0 1 rfl rfl rfl rfl rfl rfl rfl rfl rfl ⟨.inl ⟨rfl, rfl⟩, ⟨.inl ⟨rfl, rfl⟩, ⟨.inl ⟨rfl, rfl⟩, trivial⟩⟩⟩ rfl (fun b hb => by cases hb) (.inl rfl) (lt_of rfl) trivial),
            hR 11 rfl rfl (r_call (ledger_Pack a.f_1 y.f_Head false false y.f_State (by omega) (by omega)) Try.func26 rfl (by decide) [4] [] (l := [(.tmp 47, dv (.int .i64 a.f_1)), (.tmp 49, dv (strV y.f_Head)), (.tmp 51, slV false false kU8 y.f_State)]) [] rfl 0 1 rfl rfl rfl rfl rfl rfl rfl rfl rfl ⟨.inl ⟨rfl, rfl⟩, ⟨.inl ⟨rfl, rfl⟩, ⟨.inl ⟨rfl, rfl⟩, trivial⟩⟩⟩ rfl (fun b hb => by cases hb) (.inl rfl) (lt_of rfl) trivial)] (by kernel_rfl) (by kernel_rfl) (by kernel_rfl) (by kernel_rfl) (by kernel_rfl) (by kernel_rfl) ?_
          refine nT ?_
          refine T.seq ?_
          refine xR [hR 1 rfl rfl (r_call (ledger_Unpack true false (packB a.f_0 x.f_Head x.f_State) (by omega)) Try.func27 rfl (by decide) [] [3] (l := [(.tmp 54, ownV 3 kU8 0 (packB a.f_0 x.f_Head x.f_State).length)]) [(3, .live (arrK 5 kU8 (packB a.f_0 x.f_Head x.f_State)))] rfl 0 0 rfl rfl rfl rfl rfl rfl rfl rfl rfl ⟨.inr (.inl ⟨rfl, (fun h => by cases h), rfl, rfl, by simp, 5, (packB a.f_0 x.f_Head x.f_State).length, elOf kU8 (packB a.f_0 x.f_Head x.f_State), List.Mem.head _, by omega, fun i j => by rw [Nat.zero_add]⟩), trivial⟩ rfl (by intro b hb; simp only [List.mem_cons, List.not_mem_nil, or_false] at hb; rcases hb with rfl; exact ⟨_, List.Mem.head _⟩) (.inr ⟨(And.intro trivial (And.intro trivial (And.intro (dsl_nt (nn := false) kU8_nt) (And.intro trivial trivial)))), trivial⟩) (lt_of rfl) trivial)] (by kernel_rfl) (by kernel_rfl) ?_
          refine nT ?_
          refine T.seq ?_
          refine T.seq ?_
          by_cases hq5 : a.f_0 ≥ 0
          · by_cases hq6 : (decide ((unE (((packB a.f_0 x.f_Head x.f_State).length : Nat) : Int) (packB a.f_0 x.f_Head x.f_State)) = 0)) ≠ (decide (a.f_0 ≤ 1099511627776))
            · exact absurd (by (rw [decide_eq_decide]; exact huo.1.trans ⟨fun h9 => h9.2, fun h9 => ⟨by omega, h9⟩⟩)) hq6
            · by_cases hq7 : (unE (((packB a.f_0 x.f_Head x.f_State).length : Nat) : Int) (packB a.f_0 x.f_Head x.f_State)) = 0
              · by_cases hq8 : (unH (((packB a.f_0 x.f_Head x.f_State).length : Nat) : Int) (packB a.f_0 x.f_Head x.f_State)) ≠ a.f_0
                · exact absurd (huo.2 (by assumption)).1 hq8
                · by_cases hq9 : (unD (((packB a.f_0 x.f_Head x.f_State).length : Nat) : Int) (packB a.f_0 x.f_Head x.f_State)) ≠ x.f_Head
                  · exact absurd (huo.2 (by assumption)).2.1 hq9
                  · refine xR [hY 5 (decide_eq_true hq5),
                      hY 6 (decide_eq_true hq5),
                      hP 7 (decide_eq_true hq5),
                      hY 10 (decide_eq_false hq6),
                      hY 11 (decide_eq_false hq6),
                      hY 12 (decide_eq_false hq6),
                      hY 13 (decide_eq_true hq7),
                      hY 14 (decide_eq_true hq7),
                      hY 15 (decide_eq_true hq7),
                      hY 16 (decide_eq_true hq7),
                      hY 17 (decide_eq_false hq8),
                      hY 18 (decide_eq_false hq8),
                      hY 19 (decide_eq_false hq8),
                      hY 20 (decide_eq_false hq8),
                      hS 21 (oY rfl rfl rfl rfl (lt_of rfl) (decide_eq_true hq7) (r_pickF (b := (decide ((unH (((packB a.f_0 x.f_Head x.f_State).length : Nat) : Int) (packB a.f_0 x.f_Head x.f_State)) ≠ a.f_0))) (av := dv (.bool (decide ((unD (((packB a.f_0 x.f_Head x.f_State).length : Nat) : Int) (packB a.f_0 x.f_Head x.f_State)) ≠ x.f_Head)))) (lt_of rfl) trivial (decide_eq_false hq8))),
                      hY 22 (decide_eq_true hq7),
                      hY 23 (decide_eq_false hq9),
                      hY 24 (decide_eq_false hq9),
                      hY 25 (decide_eq_false hq9),
                      hS 26 (oY rfl rfl rfl rfl (lt_of rfl) (decide_eq_false hq9) (r_call (ref01_Same false false false false (unS (((packB a.f_0 x.f_Head x.f_State).length : Nat) : Int) (packB a.f_0 x.f_Head x.f_State)) x.f_State ) Try.func29 rfl (by decide) [] [] (l := [(.tmp 83, slV false false kU8 (unS (((packB a.f_0 x.f_Head x.f_State).length : Nat) : Int) (packB a.f_0 x.f_Head x.f_State))), (.tmp 85, slV false false kU8 x.f_State)]) [] rfl 0 0 rfl rfl rfl rfl rfl rfl rfl rfl rfl ⟨.inl ⟨rfl, rfl⟩, ⟨.inl ⟨rfl, rfl⟩, trivial⟩⟩ rfl (fun b hb => by cases hb) (.inl rfl) (lt_of rfl) trivial)),
                      hY 27 (decide_eq_false hq9),
                      hS 28 (oY rfl rfl rfl rfl (lt_of rfl) (decide_eq_true hq7) (r_pickF (b := (decide ((unD (((packB a.f_0 x.f_Head x.f_State).length : Nat) : Int) (packB a.f_0 x.f_Head x.f_State)) ≠ x.f_Head))) (av := dv (.bool (!(decide ((unS (((packB a.f_0 x.f_Head x.f_State).length : Nat) : Int) (packB a.f_0 x.f_Head x.f_State)) = x.f_State))))) (lt_of rfl) trivial (decide_eq_false hq9))),
                      hS 29 (oY rfl rfl rfl rfl (lt_of rfl) (decide_eq_false hq6) (r_pickT (b := (decide ((unE (((packB a.f_0 x.f_Head x.f_State).length : Nat) : Int) (packB a.f_0 x.f_Head x.f_State)) = 0))) (av := dv (.bool (!(decide ((unS (((packB a.f_0 x.f_Head x.f_State).length : Nat) : Int) (packB a.f_0 x.f_Head x.f_State)) = x.f_State))))) (lt_of rfl) trivial (decide_eq_true hq7))),
                      hP 30 (decide_eq_false hq6)] (by kernel_rfl) (by kernel_rfl) ?_
                    refine nT ?_
                    by_cases hq10 : (unS (((packB a.f_0 x.f_Head x.f_State).length : Nat) : Int) (packB a.f_0 x.f_Head x.f_State)) = x.f_State
                    · refine T.condF (by kernel_rfl) (congrArg Bool.not (decide_eq_true hq10)) ?_
                      refine T.skip ?_
                      refine nT ?_
                      refine T.seq ?_
                      by_cases hq11 : a.f_0 = a.f_1
                      · by_cases hq12 : x.f_Head = y.f_Head
                        · by_cases hq13 : (decide ((ofB 7 [packB a.f_0 x.f_Head x.f_State]) = (ofB 7 [packB a.f_1 y.f_Head y.f_State]))) = (decide (x.f_State = y.f_State))
                          · refine xR [hR 1 rfl rfl (r_call (ledger_Seal true false (packB a.f_0 x.f_Head x.f_State) (by omega)) Try.func31 rfl (by decide) [] [3] (l := [(.tmp 91, ownV 3 kU8 0 (packB a.f_0 x.f_Head x.f_State).length)]) [(3, .live (arrK 5 kU8 (packB a.f_0 x.f_Head x.f_State)))] rfl 0 0 rfl rfl rfl rfl rfl rfl rfl rfl rfl ⟨.inr (.inl ⟨rfl, (fun h => by cases h), rfl, rfl, by simp, 5, (packB a.f_0 x.f_Head x.f_State).length, elOf kU8 (packB a.f_0 x.f_Head x.f_State), List.Mem.head _, by omega, fun i j => by rw [Nat.zero_add]⟩), trivial⟩ rfl (by intro b hb; simp only [List.mem_cons, List.not_mem_nil, or_false] at hb; rcases hb with rfl; exact ⟨_, List.Mem.head _⟩) (.inr ⟨trivial, trivial⟩) (lt_of rfl) trivial),
                              hR 3 rfl rfl (r_call (ledger_Seal true false (packB a.f_1 y.f_Head y.f_State) (by omega)) Try.func31 rfl (by decide) [] [4] (l := [(.tmp 93, ownV 4 kU8 0 (packB a.f_1 y.f_Head y.f_State).length)]) [(4, .live (arrK 5 kU8 (packB a.f_1 y.f_Head y.f_State)))] rfl 0 0 rfl rfl rfl rfl rfl rfl rfl rfl rfl ⟨.inr (.inl ⟨rfl, (fun h => by cases h), rfl, rfl, by simp, 5, (packB a.f_1 y.f_Head y.f_State).length, elOf kU8 (packB a.f_1 y.f_Head y.f_State), List.Mem.head _, by omega, fun i j => by rw [Nat.zero_add]⟩), trivial⟩ rfl (by intro b hb; simp only [List.mem_cons, List.not_mem_nil, or_false] at hb; rcases hb with rfl; exact ⟨_, List.Mem.head _⟩) (.inr ⟨trivial, trivial⟩) (lt_of rfl) trivial),
                              hY 9 (decide_eq_true hq11),
                              hY 10 (decide_eq_true hq11),
                              hY 11 (decide_eq_true hq11),
                              hY 12 (decide_eq_true hq11),
                              hY 13 (decide_eq_true hq11),
                              hP 14 (decide_eq_true hq11),
                              hY 16 (decide_eq_true hq12),
                              hY 17 (decide_eq_true hq12),
                              hY 18 (decide_eq_true hq12),
                              hY 19 (decide_eq_true hq12),
                              hS 20 (oY rfl rfl rfl rfl (lt_of rfl) (decide_eq_true hq12) (r_call (ref01_Same false false false false x.f_State y.f_State ) Try.func29 rfl (by decide) [] [] (l := [(.tmp 108, slV false false kU8 x.f_State), (.tmp 110, slV false false kU8 y.f_State)]) [] rfl 0 0 rfl rfl rfl rfl rfl rfl rfl rfl rfl ⟨.inl ⟨rfl, rfl⟩, ⟨.inl ⟨rfl, rfl⟩, trivial⟩⟩ rfl (fun b hb => by cases hb) (.inl rfl) (lt_of rfl) trivial)),
                              hP 21 (decide_eq_true hq12),
                              hS 24 (oY rfl rfl rfl rfl (lt_of rfl) (decide_eq_true hq13) (r_call (law_awake  ) Try.func14 rfl (by decide) [] [] (l := []) [] rfl 0 0 rfl rfl rfl rfl rfl rfl rfl rfl rfl trivial rfl (fun b hb => by cases hb) (.inl rfl) (lt_of rfl) trivial)),
                              hP 25 (decide_eq_true hq13)] (by kernel_rfl) (by kernel_rfl) ?_
                            refine nT ?_
                            refine T.ret ?_
                            exact tE (.inl rfl) [.t 6 (.one (.d (.val (.bool true))))] ⟨⟨rfl, by kernel_rfl⟩, trivial⟩ [] rfl rfl rfl rfl rfl rfl trivial
                          · refine xR [hR 1 rfl rfl (r_call (ledger_Seal true false (packB a.f_0 x.f_Head x.f_State) (by omega)) Try.func31 rfl (by decide) [] [3] (l := [(.tmp 91, ownV 3 kU8 0 (packB a.f_0 x.f_Head x.f_State).length)]) [(3, .live (arrK 5 kU8 (packB a.f_0 x.f_Head x.f_State)))] rfl 0 0 rfl rfl rfl rfl rfl rfl rfl rfl rfl ⟨.inr (.inl ⟨rfl, (fun h => by cases h), rfl, rfl, by simp, 5, (packB a.f_0 x.f_Head x.f_State).length, elOf kU8 (packB a.f_0 x.f_Head x.f_State), List.Mem.head _, by omega, fun i j => by rw [Nat.zero_add]⟩), trivial⟩ rfl (by intro b hb; simp only [List.mem_cons, List.not_mem_nil, or_false] at hb; rcases hb with rfl; exact ⟨_, List.Mem.head _⟩) (.inr ⟨trivial, trivial⟩) (lt_of rfl) trivial),
                              hR 3 rfl rfl (r_call (ledger_Seal true false (packB a.f_1 y.f_Head y.f_State) (by omega)) Try.func31 rfl (by decide) [] [4] (l := [(.tmp 93, ownV 4 kU8 0 (packB a.f_1 y.f_Head y.f_State).length)]) [(4, .live (arrK 5 kU8 (packB a.f_1 y.f_Head y.f_State)))] rfl 0 0 rfl rfl rfl rfl rfl rfl rfl rfl rfl ⟨.inr (.inl ⟨rfl, (fun h => by cases h), rfl, rfl, by simp, 5, (packB a.f_1 y.f_Head y.f_State).length, elOf kU8 (packB a.f_1 y.f_Head y.f_State), List.Mem.head _, by omega, fun i j => by rw [Nat.zero_add]⟩), trivial⟩ rfl (by intro b hb; simp only [List.mem_cons, List.not_mem_nil, or_false] at hb; rcases hb with rfl; exact ⟨_, List.Mem.head _⟩) (.inr ⟨trivial, trivial⟩) (lt_of rfl) trivial),
                              hY 9 (decide_eq_true hq11),
                              hY 10 (decide_eq_true hq11),
                              hY 11 (decide_eq_true hq11),
                              hY 12 (decide_eq_true hq11),
                              hY 13 (decide_eq_true hq11),
                              hP 14 (decide_eq_true hq11),
                              hY 16 (decide_eq_true hq12),
                              hY 17 (decide_eq_true hq12),
                              hY 18 (decide_eq_true hq12),
                              hY 19 (decide_eq_true hq12),
                              hS 20 (oY rfl rfl rfl rfl (lt_of rfl) (decide_eq_true hq12) (r_call (ref01_Same false false false false x.f_State y.f_State ) Try.func29 rfl (by decide) [] [] (l := [(.tmp 108, slV false false kU8 x.f_State), (.tmp 110, slV false false kU8 y.f_State)]) [] rfl 0 0 rfl rfl rfl rfl rfl rfl rfl rfl rfl ⟨.inl ⟨rfl, rfl⟩, ⟨.inl ⟨rfl, rfl⟩, trivial⟩⟩ rfl (fun b hb => by cases hb) (.inl rfl) (lt_of rfl) trivial)),
                              hP 21 (decide_eq_true hq12),
                              hN 24 true (decide_eq_false hq13),
                              hP 25 (decide_eq_false hq13)] (by kernel_rfl) (by kernel_rfl) ?_
                            refine nT ?_
                            refine T.ret ?_
                            exact tE (.inl rfl) [.t 6 (.one (.d (.val (.bool false))))] ⟨⟨rfl, by kernel_rfl⟩, trivial⟩ [] (by have e1 : (true : Bool) = false := (by simp_all); have hE := congrArg (fun (q1 : Bool) => (dv (.bool q1) : AV)) e1; exact hE) rfl rfl rfl rfl rfl trivial
                        · by_cases hq14 : (decide ((ofB 7 [packB a.f_0 x.f_Head x.f_State]) = (ofB 7 [packB a.f_1 y.f_Head y.f_State]))) = false
                          · refine xR [hR 1 rfl rfl (r_call (ledger_Seal true false (packB a.f_0 x.f_Head x.f_State) (by omega)) Try.func31 rfl (by decide) [] [3] (l := [(.tmp 91, ownV 3 kU8 0 (packB a.f_0 x.f_Head x.f_State).length)]) [(3, .live (arrK 5 kU8 (packB a.f_0 x.f_Head x.f_State)))] rfl 0 0 rfl rfl rfl rfl rfl rfl rfl rfl rfl ⟨.inr (.inl ⟨rfl, (fun h => by cases h), rfl, rfl, by simp, 5, (packB a.f_0 x.f_Head x.f_State).length, elOf kU8 (packB a.f_0 x.f_Head x.f_State), List.Mem.head _, by omega, fun i j => by rw [Nat.zero_add]⟩), trivial⟩ rfl (by intro b hb; simp only [List.mem_cons, List.not_mem_nil, or_false] at hb; rcases hb with rfl; exact ⟨_, List.Mem.head _⟩) (.inr ⟨trivial, trivial⟩) (lt_of rfl) trivial),
                              hR 3 rfl rfl (r_call (ledger_Seal true false (packB a.f_1 y.f_Head y.f_State) (by omega)) Try.func31 rfl (by decide) [] [4] (l := [(.tmp 93, ownV 4 kU8 0 (packB a.f_1 y.f_Head y.f_State).length)]) [(4, .live (arrK 5 kU8 (packB a.f_1 y.f_Head y.f_State)))] rfl 0 0 rfl rfl rfl rfl rfl rfl rfl rfl rfl ⟨.inr (.inl ⟨rfl, (fun h => by cases h), rfl, rfl, by simp, 5, (packB a.f_1 y.f_Head y.f_State).length, elOf kU8 (packB a.f_1 y.f_Head y.f_State), List.Mem.head _, by omega, fun i j => by rw [Nat.zero_add]⟩), trivial⟩ rfl (by intro b hb; simp only [List.mem_cons, List.not_mem_nil, or_false] at hb; rcases hb with rfl; exact ⟨_, List.Mem.head _⟩) (.inr ⟨trivial, trivial⟩) (lt_of rfl) trivial),
                              hY 9 (decide_eq_true hq11),
                              hY 10 (decide_eq_true hq11),
                              hY 11 (decide_eq_true hq11),
                              hY 12 (decide_eq_true hq11),
                              hY 13 (decide_eq_true hq11),
                              hP 14 (decide_eq_true hq11),
                              hN 16 true (decide_eq_false hq12),
                              hN 17 true (decide_eq_false hq12),
                              hN 18 true (decide_eq_false hq12),
                              hN 19 true (decide_eq_false hq12),
                              hN 20 true (decide_eq_false hq12),
                              hP 21 (decide_eq_false hq12),
                              hS 24 (oY rfl rfl rfl rfl (lt_of rfl) (decide_eq_true hq14) (r_call (law_awake  ) Try.func14 rfl (by decide) [] [] (l := []) [] rfl 0 0 rfl rfl rfl rfl rfl rfl rfl rfl rfl trivial rfl (fun b hb => by cases hb) (.inl rfl) (lt_of rfl) trivial)),
                              hP 25 (decide_eq_true hq14)] (by kernel_rfl) (by kernel_rfl) ?_
                            refine nT ?_
                            refine T.ret ?_
                            exact tE (.inl rfl) [.t 6 (.one (.d (.val (.bool true))))] ⟨⟨rfl, by kernel_rfl⟩, trivial⟩ [] rfl rfl rfl rfl rfl rfl trivial
                          · refine xR [hR 1 rfl rfl (r_call (ledger_Seal true false (packB a.f_0 x.f_Head x.f_State) (by omega)) Try.func31 rfl (by decide) [] [3] (l := [(.tmp 91, ownV 3 kU8 0 (packB a.f_0 x.f_Head x.f_State).length)]) [(3, .live (arrK 5 kU8 (packB a.f_0 x.f_Head x.f_State)))] rfl 0 0 rfl rfl rfl rfl rfl rfl rfl rfl rfl ⟨.inr (.inl ⟨rfl, (fun h => by cases h), rfl, rfl, by simp, 5, (packB a.f_0 x.f_Head x.f_State).length, elOf kU8 (packB a.f_0 x.f_Head x.f_State), List.Mem.head _, by omega, fun i j => by rw [Nat.zero_add]⟩), trivial⟩ rfl (by intro b hb; simp only [List.mem_cons, List.not_mem_nil, or_false] at hb; rcases hb with rfl; exact ⟨_, List.Mem.head _⟩) (.inr ⟨trivial, trivial⟩) (lt_of rfl) trivial),
                              hR 3 rfl rfl (r_call (ledger_Seal true false (packB a.f_1 y.f_Head y.f_State) (by omega)) Try.func31 rfl (by decide) [] [4] (l := [(.tmp 93, ownV 4 kU8 0 (packB a.f_1 y.f_Head y.f_State).length)]) [(4, .live (arrK 5 kU8 (packB a.f_1 y.f_Head y.f_State)))] rfl 0 0 rfl rfl rfl rfl rfl rfl rfl rfl rfl ⟨.inr (.inl ⟨rfl, (fun h => by cases h), rfl, rfl, by simp, 5, (packB a.f_1 y.f_Head y.f_State).length, elOf kU8 (packB a.f_1 y.f_Head y.f_State), List.Mem.head _, by omega, fun i j => by rw [Nat.zero_add]⟩), trivial⟩ rfl (by intro b hb; simp only [List.mem_cons, List.not_mem_nil, or_false] at hb; rcases hb with rfl; exact ⟨_, List.Mem.head _⟩) (.inr ⟨trivial, trivial⟩) (lt_of rfl) trivial),
                              hY 9 (decide_eq_true hq11),
                              hY 10 (decide_eq_true hq11),
                              hY 11 (decide_eq_true hq11),
                              hY 12 (decide_eq_true hq11),
                              hY 13 (decide_eq_true hq11),
                              hP 14 (decide_eq_true hq11),
                              hN 16 true (decide_eq_false hq12),
                              hN 17 true (decide_eq_false hq12),
                              hN 18 true (decide_eq_false hq12),
                              hN 19 true (decide_eq_false hq12),
                              hN 20 true (decide_eq_false hq12),
                              hP 21 (decide_eq_false hq12),
                              hN 24 true (decide_eq_false hq14),
                              hP 25 (decide_eq_false hq14)] (by kernel_rfl) (by kernel_rfl) ?_
                            refine nT ?_
                            refine T.ret ?_
                            exact tE (.inl rfl) [.t 6 (.one (.d (.val (.bool false))))] ⟨⟨rfl, by kernel_rfl⟩, trivial⟩ [] (by have e1 : (true : Bool) = false := (by simp_all); have hE := congrArg (fun (q1 : Bool) => (dv (.bool q1) : AV)) e1; exact hE) rfl rfl rfl rfl rfl trivial
                      · by_cases hq15 : (decide ((ofB 7 [packB a.f_0 x.f_Head x.f_State]) = (ofB 7 [packB a.f_1 y.f_Head y.f_State]))) = false
                        · refine xR [hR 1 rfl rfl (r_call (ledger_Seal true false (packB a.f_0 x.f_Head x.f_State) (by omega)) Try.func31 rfl (by decide) [] [3] (l := [(.tmp 91, ownV 3 kU8 0 (packB a.f_0 x.f_Head x.f_State).length)]) [(3, .live (arrK 5 kU8 (packB a.f_0 x.f_Head x.f_State)))] rfl 0 0 rfl rfl rfl rfl rfl rfl rfl rfl rfl ⟨.inr (.inl ⟨rfl, (fun h => by cases h), rfl, rfl, by simp, 5, (packB a.f_0 x.f_Head x.f_State).length, elOf kU8 (packB a.f_0 x.f_Head x.f_State), List.Mem.head _, by omega, fun i j => by rw [Nat.zero_add]⟩), trivial⟩ rfl (by intro b hb; simp only [List.mem_cons, List.not_mem_nil, or_false] at hb; rcases hb with rfl; exact ⟨_, List.Mem.head _⟩) (.inr ⟨trivial, trivial⟩) (lt_of rfl) trivial),
                            hR 3 rfl rfl (r_call (ledger_Seal true false (packB a.f_1 y.f_Head y.f_State) (by omega)) Try.func31 rfl (by decide) [] [4] (l := [(.tmp 93, ownV 4 kU8 0 (packB a.f_1 y.f_Head y.f_State).length)]) [(4, .live (arrK 5 kU8 (packB a.f_1 y.f_Head y.f_State)))] rfl 0 0 rfl rfl rfl rfl rfl rfl rfl rfl rfl ⟨.inr (.inl ⟨rfl, (fun h => by cases h), rfl, rfl, by simp, 5, (packB a.f_1 y.f_Head y.f_State).length, elOf kU8 (packB a.f_1 y.f_Head y.f_State), List.Mem.head _, by omega, fun i j => by rw [Nat.zero_add]⟩), trivial⟩ rfl (by intro b hb; simp only [List.mem_cons, List.not_mem_nil, or_false] at hb; rcases hb with rfl; exact ⟨_, List.Mem.head _⟩) (.inr ⟨trivial, trivial⟩) (lt_of rfl) trivial),
                            hN 9 true (decide_eq_false hq11),
                            hN 10 true (decide_eq_false hq11),
                            hN 11 true (decide_eq_false hq11),
                            hN 12 true (decide_eq_false hq11),
                            hN 13 true (decide_eq_false hq11),
                            hP 14 (decide_eq_false hq11),
                            hN 16 (b := false) true rfl,
                            hN 17 (b := false) true rfl,
                            hN 18 (b := false) true rfl,
                            hN 19 (b := false) true rfl,
                            hN 20 (b := false) true rfl,
                            hP 21 (b := false) (w := false) rfl,
                            hS 24 (oY rfl rfl rfl rfl (lt_of rfl) (decide_eq_true hq15) (r_call (law_awake  ) Try.func14 rfl (by decide) [] [] (l := []) [] rfl 0 0 rfl rfl rfl rfl rfl rfl rfl rfl rfl trivial rfl (fun b hb => by cases hb) (.inl rfl) (lt_of rfl) trivial)),
                            hP 25 (decide_eq_true hq15)] (by kernel_rfl) (by kernel_rfl) ?_
                          refine nT ?_
                          refine T.ret ?_
                          exact tE (.inl rfl) [.t 6 (.one (.d (.val (.bool true))))] ⟨⟨rfl, by kernel_rfl⟩, trivial⟩ [] rfl rfl rfl rfl rfl rfl trivial
                        · refine xR [hR 1 rfl rfl (r_call (ledger_Seal true false (packB a.f_0 x.f_Head x.f_State) (by omega)) Try.func31 rfl (by decide) [] [3] (l := [(.tmp 91, ownV 3 kU8 0 (packB a.f_0 x.f_Head x.f_State).length)]) [(3, .live (arrK 5 kU8 (packB a.f_0 x.f_Head x.f_State)))] rfl 0 0 rfl rfl rfl rfl rfl rfl rfl rfl rfl ⟨.inr (.inl ⟨rfl, (fun h => by cases h), rfl, rfl, by simp, 5, (packB a.f_0 x.f_Head x.f_State).length, elOf kU8 (packB a.f_0 x.f_Head x.f_State), List.Mem.head _, by omega, fun i j => by rw [Nat.zero_add]⟩), trivial⟩ rfl (by intro b hb; simp only [List.mem_cons, List.not_mem_nil, or_false] at hb; rcases hb with rfl; exact ⟨_, List.Mem.head _⟩) (.inr ⟨trivial, trivial⟩) (lt_of rfl) trivial),
                            hR 3 rfl rfl (r_call (ledger_Seal true false (packB a.f_1 y.f_Head y.f_State) (by omega)) Try.func31 rfl (by decide) [] [4] (l := [(.tmp 93, ownV 4 kU8 0 (packB a.f_1 y.f_Head y.f_State).length)]) [(4, .live (arrK 5 kU8 (packB a.f_1 y.f_Head y.f_State)))] rfl 0 0 rfl rfl rfl rfl rfl rfl rfl rfl rfl ⟨.inr (.inl ⟨rfl, (fun h => by cases h), rfl, rfl, by simp, 5, (packB a.f_1 y.f_Head y.f_State).length, elOf kU8 (packB a.f_1 y.f_Head y.f_State), List.Mem.head _, by omega, fun i j => by rw [Nat.zero_add]⟩), trivial⟩ rfl (by intro b hb; simp only [List.mem_cons, List.not_mem_nil, or_false] at hb; rcases hb with rfl; exact ⟨_, List.Mem.head _⟩) (.inr ⟨trivial, trivial⟩) (lt_of rfl) trivial),
                            hN 9 true (decide_eq_false hq11),
                            hN 10 true (decide_eq_false hq11),
                            hN 11 true (decide_eq_false hq11),
                            hN 12 true (decide_eq_false hq11),
                            hN 13 true (decide_eq_false hq11),
                            hP 14 (decide_eq_false hq11),
                            hN 16 (b := false) true rfl,
                            hN 17 (b := false) true rfl,
                            hN 18 (b := false) true rfl,
                            hN 19 (b := false) true rfl,
                            hN 20 (b := false) true rfl,
                            hP 21 (b := false) (w := false) rfl,
                            hN 24 true (decide_eq_false hq15),
                            hP 25 (decide_eq_false hq15)] (by kernel_rfl) (by kernel_rfl) ?_
                          refine nT ?_
                          refine T.ret ?_
                          exact tE (.inl rfl) [.t 6 (.one (.d (.val (.bool false))))] ⟨⟨rfl, by kernel_rfl⟩, trivial⟩ [] (by have e1 : (true : Bool) = false := (by simp_all); have hE := congrArg (fun (q1 : Bool) => (dv (.bool q1) : AV)) e1; exact hE) rfl rfl rfl rfl rfl trivial
                    · exact absurd (huo.2 (by assumption)).2.2 hq10
              · refine xR [hY 5 (decide_eq_true hq5),
                  hY 6 (decide_eq_true hq5),
                  hP 7 (decide_eq_true hq5),
                  hY 10 (decide_eq_false hq6),
                  hY 11 (decide_eq_false hq6),
                  hY 12 (decide_eq_false hq6),
                  hN 13 true (decide_eq_false hq7),
                  hN 14 true (decide_eq_false hq7),
                  hN 15 true (decide_eq_false hq7),
                  hN 16 true (decide_eq_false hq7),
                  hU 17,
                  hU 18,
                  hU 19,
                  hU 20,
                  hN 21 true (decide_eq_false hq7),
                  hN 22 true (decide_eq_false hq7),
                  hU 23,
                  hU 24,
                  hU 25,
                  hU 26,
                  hU 27,
                  hN 28 true (decide_eq_false hq7),
                  hS 29 (oY rfl rfl rfl rfl (lt_of rfl) (decide_eq_false hq6) (r_pickF (b := (decide ((unE (((packB a.f_0 x.f_Head x.f_State).length : Nat) : Int) (packB a.f_0 x.f_Head x.f_State)) = 0))) (av := dv (.bool false)) (lt_of rfl) ⟨rfl, trivial⟩ (decide_eq_false hq7))),
                  hP 30 (decide_eq_false hq6)] (by kernel_rfl) (by kernel_rfl) ?_
                refine nT ?_
                refine T.condF (b := false) (by kernel_rfl) rfl ?_
                refine T.skip ?_
                refine nT ?_
                refine T.seq ?_
                by_cases hq16 : a.f_0 = a.f_1
                · by_cases hq17 : x.f_Head = y.f_Head
                  · by_cases hq18 : (decide ((ofB 7 [packB a.f_0 x.f_Head x.f_State]) = (ofB 7 [packB a.f_1 y.f_Head y.f_State]))) = (decide (x.f_State = y.f_State))
                    · refine xR [hR 1 rfl rfl (r_call (ledger_Seal true false (packB a.f_0 x.f_Head x.f_State) (by omega)) Try.func31 rfl (by decide) [] [3] (l := [(.tmp 91, ownV 3 kU8 0 (packB a.f_0 x.f_Head x.f_State).length)]) [(3, .live (arrK 5 kU8 (packB a.f_0 x.f_Head x.f_State)))] rfl 0 0 rfl rfl rfl rfl rfl rfl rfl rfl rfl ⟨.inr (.inl ⟨rfl, (fun h => by cases h), rfl, rfl, by simp, 5, (packB a.f_0 x.f_Head x.f_State).length, elOf kU8 (packB a.f_0 x.f_Head x.f_State), List.Mem.head _, by omega, fun i j => by rw [Nat.zero_add]⟩), trivial⟩ rfl (by intro b hb; simp only [List.mem_cons, List.not_mem_nil, or_false] at hb; rcases hb with rfl; exact ⟨_, List.Mem.head _⟩) (.inr ⟨trivial, trivial⟩) (lt_of rfl) trivial),
                        hR 3 rfl rfl (r_call (ledger_Seal true false (packB a.f_1 y.f_Head y.f_State) (by omega)) Try.func31 rfl (by decide) [] [4] (l := [(.tmp 93, ownV 4 kU8 0 (packB a.f_1 y.f_Head y.f_State).length)]) [(4, .live (arrK 5 kU8 (packB a.f_1 y.f_Head y.f_State)))] rfl 0 0 rfl rfl rfl rfl rfl rfl rfl rfl rfl ⟨.inr (.inl ⟨rfl, (fun h => by cases h), rfl, rfl, by simp, 5, (packB a.f_1 y.f_Head y.f_State).length, elOf kU8 (packB a.f_1 y.f_Head y.f_State), List.Mem.head _, by omega, fun i j => by rw [Nat.zero_add]⟩), trivial⟩ rfl (by intro b hb; simp only [List.mem_cons, List.not_mem_nil, or_false] at hb; rcases hb with rfl; exact ⟨_, List.Mem.head _⟩) (.inr ⟨trivial, trivial⟩) (lt_of rfl) trivial),
                        hY 9 (decide_eq_true hq16),
                        hY 10 (decide_eq_true hq16),
                        hY 11 (decide_eq_true hq16),
                        hY 12 (decide_eq_true hq16),
                        hY 13 (decide_eq_true hq16),
                        hP 14 (decide_eq_true hq16),
                        hY 16 (decide_eq_true hq17),
                        hY 17 (decide_eq_true hq17),
                        hY 18 (decide_eq_true hq17),
                        hY 19 (decide_eq_true hq17),
                        hS 20 (oY rfl rfl rfl rfl (lt_of rfl) (decide_eq_true hq17) (r_call (ref01_Same false false false false x.f_State y.f_State ) Try.func29 rfl (by decide) [] [] (l := [(.tmp 108, slV false false kU8 x.f_State), (.tmp 110, slV false false kU8 y.f_State)]) [] rfl 0 0 rfl rfl rfl rfl rfl rfl rfl rfl rfl ⟨.inl ⟨rfl, rfl⟩, ⟨.inl ⟨rfl, rfl⟩, trivial⟩⟩ rfl (fun b hb => by cases hb) (.inl rfl) (lt_of rfl) trivial)),
                        hP 21 (decide_eq_true hq17),
                        hS 24 (oY rfl rfl rfl rfl (lt_of rfl) (decide_eq_true hq18) (r_call (law_awake  ) Try.func14 rfl (by decide) [] [] (l := []) [] rfl 0 0 rfl rfl rfl rfl rfl rfl rfl rfl rfl trivial rfl (fun b hb => by cases hb) (.inl rfl) (lt_of rfl) trivial)),
                        hP 25 (decide_eq_true hq18)] (by kernel_rfl) (by kernel_rfl) ?_
                      refine nT ?_
                      refine T.ret ?_
                      exact tE (.inl rfl) [.t 6 (.one (.d (.val (.bool true))))] ⟨⟨rfl, by kernel_rfl⟩, trivial⟩ [] rfl rfl rfl rfl rfl rfl trivial
                    · refine xR [hR 1 rfl rfl (r_call (ledger_Seal true false (packB a.f_0 x.f_Head x.f_State) (by omega)) Try.func31 rfl (by decide) [] [3] (l := [(.tmp 91, ownV 3 kU8 0 (packB a.f_0 x.f_Head x.f_State).length)]) [(3, .live (arrK 5 kU8 (packB a.f_0 x.f_Head x.f_State)))] rfl 0 0 rfl rfl rfl rfl rfl rfl rfl rfl rfl ⟨.inr (.inl ⟨rfl, (fun h => by cases h), rfl, rfl, by simp, 5, (packB a.f_0 x.f_Head x.f_State).length, elOf kU8 (packB a.f_0 x.f_Head x.f_State), List.Mem.head _, by omega, fun i j => by rw [Nat.zero_add]⟩), trivial⟩ rfl (by intro b hb; simp only [List.mem_cons, List.not_mem_nil, or_false] at hb; rcases hb with rfl; exact ⟨_, List.Mem.head _⟩) (.inr ⟨trivial, trivial⟩) (lt_of rfl) trivial),
                        hR 3 rfl rfl (r_call (ledger_Seal true false (packB a.f_1 y.f_Head y.f_State) (by omega)) Try.func31 rfl (by decide) [] [4] (l := [(.tmp 93, ownV 4 kU8 0 (packB a.f_1 y.f_Head y.f_State).length)]) [(4, .live (arrK 5 kU8 (packB a.f_1 y.f_Head y.f_State)))] rfl 0 0 rfl rfl rfl rfl rfl rfl rfl rfl rfl ⟨.inr (.inl ⟨rfl, (fun h => by cases h), rfl, rfl, by simp, 5, (packB a.f_1 y.f_Head y.f_State).length, elOf kU8 (packB a.f_1 y.f_Head y.f_State), List.Mem.head _, by omega, fun i j => by rw [Nat.zero_add]⟩), trivial⟩ rfl (by intro b hb; simp only [List.mem_cons, List.not_mem_nil, or_false] at hb; rcases hb with rfl; exact ⟨_, List.Mem.head _⟩) (.inr ⟨trivial, trivial⟩) (lt_of rfl) trivial),
                        hY 9 (decide_eq_true hq16),
                        hY 10 (decide_eq_true hq16),
                        hY 11 (decide_eq_true hq16),
                        hY 12 (decide_eq_true hq16),
                        hY 13 (decide_eq_true hq16),
                        hP 14 (decide_eq_true hq16),
                        hY 16 (decide_eq_true hq17),
                        hY 17 (decide_eq_true hq17),
                        hY 18 (decide_eq_true hq17),
                        hY 19 (decide_eq_true hq17),
                        hS 20 (oY rfl rfl rfl rfl (lt_of rfl) (decide_eq_true hq17) (r_call (ref01_Same false false false false x.f_State y.f_State ) Try.func29 rfl (by decide) [] [] (l := [(.tmp 108, slV false false kU8 x.f_State), (.tmp 110, slV false false kU8 y.f_State)]) [] rfl 0 0 rfl rfl rfl rfl rfl rfl rfl rfl rfl ⟨.inl ⟨rfl, rfl⟩, ⟨.inl ⟨rfl, rfl⟩, trivial⟩⟩ rfl (fun b hb => by cases hb) (.inl rfl) (lt_of rfl) trivial)),
                        hP 21 (decide_eq_true hq17),
                        hN 24 true (decide_eq_false hq18),
                        hP 25 (decide_eq_false hq18)] (by kernel_rfl) (by kernel_rfl) ?_
                      refine nT ?_
                      refine T.ret ?_
                      exact tE (.inl rfl) [.t 6 (.one (.d (.val (.bool false))))] ⟨⟨rfl, by kernel_rfl⟩, trivial⟩ [] (by have e1 : (true : Bool) = false := (by simp_all); have hE := congrArg (fun (q1 : Bool) => (dv (.bool q1) : AV)) e1; exact hE) rfl rfl rfl rfl rfl trivial
                  · by_cases hq19 : (decide ((ofB 7 [packB a.f_0 x.f_Head x.f_State]) = (ofB 7 [packB a.f_1 y.f_Head y.f_State]))) = false
                    · refine xR [hR 1 rfl rfl (r_call (ledger_Seal true false (packB a.f_0 x.f_Head x.f_State) (by omega)) Try.func31 rfl (by decide) [] [3] (l := [(.tmp 91, ownV 3 kU8 0 (packB a.f_0 x.f_Head x.f_State).length)]) [(3, .live (arrK 5 kU8 (packB a.f_0 x.f_Head x.f_State)))] rfl 0 0 rfl rfl rfl rfl rfl rfl rfl rfl rfl ⟨.inr (.inl ⟨rfl, (fun h => by cases h), rfl, rfl, by simp, 5, (packB a.f_0 x.f_Head x.f_State).length, elOf kU8 (packB a.f_0 x.f_Head x.f_State), List.Mem.head _, by omega, fun i j => by rw [Nat.zero_add]⟩), trivial⟩ rfl (by intro b hb; simp only [List.mem_cons, List.not_mem_nil, or_false] at hb; rcases hb with rfl; exact ⟨_, List.Mem.head _⟩) (.inr ⟨trivial, trivial⟩) (lt_of rfl) trivial),
                        hR 3 rfl rfl (r_call (ledger_Seal true false (packB a.f_1 y.f_Head y.f_State) (by omega)) Try.func31 rfl (by decide) [] [4] (l := [(.tmp 93, ownV 4 kU8 0 (packB a.f_1 y.f_Head y.f_State).length)]) [(4, .live (arrK 5 kU8 (packB a.f_1 y.f_Head y.f_State)))] rfl 0 0 rfl rfl rfl rfl rfl rfl rfl rfl rfl ⟨.inr (.inl ⟨rfl, (fun h => by cases h), rfl, rfl, by simp, 5, (packB a.f_1 y.f_Head y.f_State).length, elOf kU8 (packB a.f_1 y.f_Head y.f_State), List.Mem.head _, by omega, fun i j => by rw [Nat.zero_add]⟩), trivial⟩ rfl (by intro b hb; simp only [List.mem_cons, List.not_mem_nil, or_false] at hb; rcases hb with rfl; exact ⟨_, List.Mem.head _⟩) (.inr ⟨trivial, trivial⟩) (lt_of rfl) trivial),
                        hY 9 (decide_eq_true hq16),
                        hY 10 (decide_eq_true hq16),
                        hY 11 (decide_eq_true hq16),
                        hY 12 (decide_eq_true hq16),
                        hY 13 (decide_eq_true hq16),
                        hP 14 (decide_eq_true hq16),
                        hN 16 true (decide_eq_false hq17),
                        hN 17 true (decide_eq_false hq17),
                        hN 18 true (decide_eq_false hq17),
                        hN 19 true (decide_eq_false hq17),
                        hN 20 true (decide_eq_false hq17),
                        hP 21 (decide_eq_false hq17),
                        hS 24 (oY rfl rfl rfl rfl (lt_of rfl) (decide_eq_true hq19) (r_call (law_awake  ) Try.func14 rfl (by decide) [] [] (l := []) [] rfl 0 0 rfl rfl rfl rfl rfl rfl rfl rfl rfl trivial rfl (fun b hb => by cases hb) (.inl rfl) (lt_of rfl) trivial)),
                        hP 25 (decide_eq_true hq19)] (by kernel_rfl) (by kernel_rfl) ?_
                      refine nT ?_
                      refine T.ret ?_
                      exact tE (.inl rfl) [.t 6 (.one (.d (.val (.bool true))))] ⟨⟨rfl, by kernel_rfl⟩, trivial⟩ [] rfl rfl rfl rfl rfl rfl trivial
                    · refine xR [hR 1 rfl rfl (r_call (ledger_Seal true false (packB a.f_0 x.f_Head x.f_State) (by omega)) Try.func31 rfl (by decide) [] [3] (l := [(.tmp 91, ownV 3 kU8 0 (packB a.f_0 x.f_Head x.f_State).length)]) [(3, .live (arrK 5 kU8 (packB a.f_0 x.f_Head x.f_State)))] rfl 0 0 rfl rfl rfl rfl rfl rfl rfl rfl rfl ⟨.inr (.inl ⟨rfl, (fun h => by cases h), rfl, rfl, by simp, 5, (packB a.f_0 x.f_Head x.f_State).length, elOf kU8 (packB a.f_0 x.f_Head x.f_State), List.Mem.head _, by omega, fun i j => by rw [Nat.zero_add]⟩), trivial⟩ rfl (by intro b hb; simp only [List.mem_cons, List.not_mem_nil, or_false] at hb; rcases hb with rfl; exact ⟨_, List.Mem.head _⟩) (.inr ⟨trivial, trivial⟩) (lt_of rfl) trivial),
                        hR 3 rfl rfl (r_call (ledger_Seal true false (packB a.f_1 y.f_Head y.f_State) (by omega)) Try.func31 rfl (by decide) [] [4] (l := [(.tmp 93, ownV 4 kU8 0 (packB a.f_1 y.f_Head y.f_State).length)]) [(4, .live (arrK 5 kU8 (packB a.f_1 y.f_Head y.f_State)))] rfl 0 0 rfl rfl rfl rfl rfl rfl rfl rfl rfl ⟨.inr (.inl ⟨rfl, (fun h => by cases h), rfl, rfl, by simp, 5, (packB a.f_1 y.f_Head y.f_State).length, elOf kU8 (packB a.f_1 y.f_Head y.f_State), List.Mem.head _, by omega, fun i j => by rw [Nat.zero_add]⟩), trivial⟩ rfl (by intro b hb; simp only [List.mem_cons, List.not_mem_nil, or_false] at hb; rcases hb with rfl; exact ⟨_, List.Mem.head _⟩) (.inr ⟨trivial, trivial⟩) (lt_of rfl) trivial),
                        hY 9 (decide_eq_true hq16),
                        hY 10 (decide_eq_true hq16),
                        hY 11 (decide_eq_true hq16),
                        hY 12 (decide_eq_true hq16),
                        hY 13 (decide_eq_true hq16),
                        hP 14 (decide_eq_true hq16),
                        hN 16 true (decide_eq_false hq17),
                        hN 17 true (decide_eq_false hq17),
                        hN 18 true (decide_eq_false hq17),
                        hN 19 true (decide_eq_false hq17),
                        hN 20 true (decide_eq_false hq17),
                        hP 21 (decide_eq_false hq17),
                        hN 24 true (decide_eq_false hq19),
                        hP 25 (decide_eq_false hq19)] (by kernel_rfl) (by kernel_rfl) ?_
                      refine nT ?_
                      refine T.ret ?_
                      exact tE (.inl rfl) [.t 6 (.one (.d (.val (.bool false))))] ⟨⟨rfl, by kernel_rfl⟩, trivial⟩ [] (by have e1 : (true : Bool) = false := (by simp_all); have hE := congrArg (fun (q1 : Bool) => (dv (.bool q1) : AV)) e1; exact hE) rfl rfl rfl rfl rfl trivial
                · by_cases hq20 : (decide ((ofB 7 [packB a.f_0 x.f_Head x.f_State]) = (ofB 7 [packB a.f_1 y.f_Head y.f_State]))) = false
                  · refine xR [hR 1 rfl rfl (r_call (ledger_Seal true false (packB a.f_0 x.f_Head x.f_State) (by omega)) Try.func31 rfl (by decide) [] [3] (l := [(.tmp 91, ownV 3 kU8 0 (packB a.f_0 x.f_Head x.f_State).length)]) [(3, .live (arrK 5 kU8 (packB a.f_0 x.f_Head x.f_State)))] rfl 0 0 rfl rfl rfl rfl rfl rfl rfl rfl rfl ⟨.inr (.inl ⟨rfl, (fun h => by cases h), rfl, rfl, by simp, 5, (packB a.f_0 x.f_Head x.f_State).length, elOf kU8 (packB a.f_0 x.f_Head x.f_State), List.Mem.head _, by omega, fun i j => by rw [Nat.zero_add]⟩), trivial⟩ rfl (by intro b hb; simp only [List.mem_cons, List.not_mem_nil, or_false] at hb; rcases hb with rfl; exact ⟨_, List.Mem.head _⟩) (.inr ⟨trivial, trivial⟩) (lt_of rfl) trivial),
                      hR 3 rfl rfl (r_call (ledger_Seal true false (packB a.f_1 y.f_Head y.f_State) (by omega)) Try.func31 rfl (by decide) [] [4] (l := [(.tmp 93, ownV 4 kU8 0 (packB a.f_1 y.f_Head y.f_State).length)]) [(4, .live (arrK 5 kU8 (packB a.f_1 y.f_Head y.f_State)))] rfl 0 0 rfl rfl rfl rfl rfl rfl rfl rfl rfl ⟨.inr (.inl ⟨rfl, (fun h => by cases h), rfl, rfl, by simp, 5, (packB a.f_1 y.f_Head y.f_State).length, elOf kU8 (packB a.f_1 y.f_Head y.f_State), List.Mem.head _, by omega, fun i j => by rw [Nat.zero_add]⟩), trivial⟩ rfl (by intro b hb; simp only [List.mem_cons, List.not_mem_nil, or_false] at hb; rcases hb with rfl; exact ⟨_, List.Mem.head _⟩) (.inr ⟨trivial, trivial⟩) (lt_of rfl) trivial),
                      hN 9 true (decide_eq_false hq16),
                      hN 10 true (decide_eq_false hq16),
                      hN 11 true (decide_eq_false hq16),
                      hN 12 true (decide_eq_false hq16),
                      hN 13 true (decide_eq_false hq16),
                      hP 14 (decide_eq_false hq16),
                      hN 16 (b := false) true rfl,
                      hN 17 (b := false) true rfl,
                      hN 18 (b := false) true rfl,
                      hN 19 (b := false) true rfl,
                      hN 20 (b := false) true rfl,
                      hP 21 (b := false) (w := false) rfl,
                      hS 24 (oY rfl rfl rfl rfl (lt_of rfl) (decide_eq_true hq20) (r_call (law_awake  ) Try.func14 rfl (by decide) [] [] (l := []) [] rfl 0 0 rfl rfl rfl rfl rfl rfl rfl rfl rfl trivial rfl (fun b hb => by cases hb) (.inl rfl) (lt_of rfl) trivial)),
                      hP 25 (decide_eq_true hq20)] (by kernel_rfl) (by kernel_rfl) ?_
                    refine nT ?_
                    refine T.ret ?_
                    exact tE (.inl rfl) [.t 6 (.one (.d (.val (.bool true))))] ⟨⟨rfl, by kernel_rfl⟩, trivial⟩ [] rfl rfl rfl rfl rfl rfl trivial
                  · refine xR [hR 1 rfl rfl (r_call (ledger_Seal true false (packB a.f_0 x.f_Head x.f_State) (by omega)) Try.func31 rfl (by decide) [] [3] (l := [(.tmp 91, ownV 3 kU8 0 (packB a.f_0 x.f_Head x.f_State).length)]) [(3, .live (arrK 5 kU8 (packB a.f_0 x.f_Head x.f_State)))] rfl 0 0 rfl rfl rfl rfl rfl rfl rfl rfl rfl ⟨.inr (.inl ⟨rfl, (fun h => by cases h), rfl, rfl, by simp, 5, (packB a.f_0 x.f_Head x.f_State).length, elOf kU8 (packB a.f_0 x.f_Head x.f_State), List.Mem.head _, by omega, fun i j => by rw [Nat.zero_add]⟩), trivial⟩ rfl (by intro b hb; simp only [List.mem_cons, List.not_mem_nil, or_false] at hb; rcases hb with rfl; exact ⟨_, List.Mem.head _⟩) (.inr ⟨trivial, trivial⟩) (lt_of rfl) trivial),
                      hR 3 rfl rfl (r_call (ledger_Seal true false (packB a.f_1 y.f_Head y.f_State) (by omega)) Try.func31 rfl (by decide) [] [4] (l := [(.tmp 93, ownV 4 kU8 0 (packB a.f_1 y.f_Head y.f_State).length)]) [(4, .live (arrK 5 kU8 (packB a.f_1 y.f_Head y.f_State)))] rfl 0 0 rfl rfl rfl rfl rfl rfl rfl rfl rfl ⟨.inr (.inl ⟨rfl, (fun h => by cases h), rfl, rfl, by simp, 5, (packB a.f_1 y.f_Head y.f_State).length, elOf kU8 (packB a.f_1 y.f_Head y.f_State), List.Mem.head _, by omega, fun i j => by rw [Nat.zero_add]⟩), trivial⟩ rfl (by intro b hb; simp only [List.mem_cons, List.not_mem_nil, or_false] at hb; rcases hb with rfl; exact ⟨_, List.Mem.head _⟩) (.inr ⟨trivial, trivial⟩) (lt_of rfl) trivial),
                      hN 9 true (decide_eq_false hq16),
                      hN 10 true (decide_eq_false hq16),
                      hN 11 true (decide_eq_false hq16),
                      hN 12 true (decide_eq_false hq16),
                      hN 13 true (decide_eq_false hq16),
                      hP 14 (decide_eq_false hq16),
                      hN 16 (b := false) true rfl,
                      hN 17 (b := false) true rfl,
                      hN 18 (b := false) true rfl,
                      hN 19 (b := false) true rfl,
                      hN 20 (b := false) true rfl,
                      hP 21 (b := false) (w := false) rfl,
                      hN 24 true (decide_eq_false hq20),
                      hP 25 (decide_eq_false hq20)] (by kernel_rfl) (by kernel_rfl) ?_
                    refine nT ?_
                    refine T.ret ?_
                    exact tE (.inl rfl) [.t 6 (.one (.d (.val (.bool false))))] ⟨⟨rfl, by kernel_rfl⟩, trivial⟩ [] (by have e1 : (true : Bool) = false := (by simp_all); have hE := congrArg (fun (q1 : Bool) => (dv (.bool q1) : AV)) e1; exact hE) rfl rfl rfl rfl rfl trivial
          · by_cases hq21 : (decide ((unE (((packB a.f_0 x.f_Head x.f_State).length : Nat) : Int) (packB a.f_0 x.f_Head x.f_State)) = 0)) ≠ false
            · exact absurd (by exact decide_eq_false (fun h9 => by have h8 := huo.1.1 h9; omega)) hq21
            · by_cases hq22 : (unE (((packB a.f_0 x.f_Head x.f_State).length : Nat) : Int) (packB a.f_0 x.f_Head x.f_State)) = 0
              · by_cases hq23 : (unH (((packB a.f_0 x.f_Head x.f_State).length : Nat) : Int) (packB a.f_0 x.f_Head x.f_State)) ≠ a.f_0
                · exact absurd (huo.2 (by assumption)).1 hq23
                · by_cases hq24 : (unD (((packB a.f_0 x.f_Head x.f_State).length : Nat) : Int) (packB a.f_0 x.f_Head x.f_State)) ≠ x.f_Head
                  · exact absurd (huo.2 (by assumption)).2.1 hq24
                  · refine xR [hN 5 true (decide_eq_false hq5),
                      hN 6 true (decide_eq_false hq5),
                      hP 7 (decide_eq_false hq5),
                      hY 10 (decide_eq_false hq21),
                      hY 11 (decide_eq_false hq21),
                      hY 12 (decide_eq_false hq21),
                      hY 13 (decide_eq_true hq22),
                      hY 14 (decide_eq_true hq22),
                      hY 15 (decide_eq_true hq22),
                      hY 16 (decide_eq_true hq22),
                      hY 17 (decide_eq_false hq23),
                      hY 18 (decide_eq_false hq23),
                      hY 19 (decide_eq_false hq23),
                      hY 20 (decide_eq_false hq23),
                      hS 21 (oY rfl rfl rfl rfl (lt_of rfl) (decide_eq_true hq22) (r_pickF (b := (decide ((unH (((packB a.f_0 x.f_Head x.f_State).length : Nat) : Int) (packB a.f_0 x.f_Head x.f_State)) ≠ a.f_0))) (av := dv (.bool (decide ((unD (((packB a.f_0 x.f_Head x.f_State).length : Nat) : Int) (packB a.f_0 x.f_Head x.f_State)) ≠ x.f_Head)))) (lt_of rfl) trivial (decide_eq_false hq23))),
                      hY 22 (decide_eq_true hq22),
                      hY 23 (decide_eq_false hq24),
                      hY 24 (decide_eq_false hq24),
                      hY 25 (decide_eq_false hq24),
                      hS 26 (oY rfl rfl rfl rfl (lt_of rfl) (decide_eq_false hq24) (r_call (ref01_Same false false false false (unS (((packB a.f_0 x.f_Head x.f_State).length : Nat) : Int) (packB a.f_0 x.f_Head x.f_State)) x.f_State ) Try.func29 rfl (by decide) [] [] (l := [(.tmp 83, slV false false kU8 (unS (((packB a.f_0 x.f_Head x.f_State).length : Nat) : Int) (packB a.f_0 x.f_Head x.f_State))), (.tmp 85, slV false false kU8 x.f_State)]) [] rfl 0 0 rfl rfl rfl rfl rfl rfl rfl rfl rfl ⟨.inl ⟨rfl, rfl⟩, ⟨.inl ⟨rfl, rfl⟩, trivial⟩⟩ rfl (fun b hb => by cases hb) (.inl rfl) (lt_of rfl) trivial)),
                      hY 27 (decide_eq_false hq24),
                      hS 28 (oY rfl rfl rfl rfl (lt_of rfl) (decide_eq_true hq22) (r_pickF (b := (decide ((unD (((packB a.f_0 x.f_Head x.f_State).length : Nat) : Int) (packB a.f_0 x.f_Head x.f_State)) ≠ x.f_Head))) (av := dv (.bool (!(decide ((unS (((packB a.f_0 x.f_Head x.f_State).length : Nat) : Int) (packB a.f_0 x.f_Head x.f_State)) = x.f_State))))) (lt_of rfl) trivial (decide_eq_false hq24))),
                      hS 29 (oY rfl rfl rfl rfl (lt_of rfl) (decide_eq_false hq21) (r_pickT (b := (decide ((unE (((packB a.f_0 x.f_Head x.f_State).length : Nat) : Int) (packB a.f_0 x.f_Head x.f_State)) = 0))) (av := dv (.bool (!(decide ((unS (((packB a.f_0 x.f_Head x.f_State).length : Nat) : Int) (packB a.f_0 x.f_Head x.f_State)) = x.f_State))))) (lt_of rfl) trivial (decide_eq_true hq22))),
                      hP 30 (decide_eq_false hq21)] (by kernel_rfl) (by kernel_rfl) ?_
                    refine nT ?_
                    by_cases hq25 : (unS (((packB a.f_0 x.f_Head x.f_State).length : Nat) : Int) (packB a.f_0 x.f_Head x.f_State)) = x.f_State
                    · refine T.condF (by kernel_rfl) (congrArg Bool.not (decide_eq_true hq25)) ?_
                      refine T.skip ?_
                      refine nT ?_
                      refine T.seq ?_
                      by_cases hq26 : a.f_0 = a.f_1
                      · by_cases hq27 : x.f_Head = y.f_Head
                        · by_cases hq28 : (decide ((ofB 7 [packB a.f_0 x.f_Head x.f_State]) = (ofB 7 [packB a.f_1 y.f_Head y.f_State]))) = (decide (x.f_State = y.f_State))
                          · refine xR [hR 1 rfl rfl (r_call (ledger_Seal true false (packB a.f_0 x.f_Head x.f_State) (by omega)) Try.func31 rfl (by decide) [] [3] (l := [(.tmp 91, ownV 3 kU8 0 (packB a.f_0 x.f_Head x.f_State).length)]) [(3, .live (arrK 5 kU8 (packB a.f_0 x.f_Head x.f_State)))] rfl 0 0 rfl rfl rfl rfl rfl rfl rfl rfl rfl ⟨.inr (.inl ⟨rfl, (fun h => by cases h), rfl, rfl, by simp, 5, (packB a.f_0 x.f_Head x.f_State).length, elOf kU8 (packB a.f_0 x.f_Head x.f_State), List.Mem.head _, by omega, fun i j => by rw [Nat.zero_add]⟩), trivial⟩ rfl (by intro b hb; simp only [List.mem_cons, List.not_mem_nil, or_false] at hb; rcases hb with rfl; exact ⟨_, List.Mem.head _⟩) (.inr ⟨trivial, trivial⟩) (lt_of rfl) trivial),
                              hR 3 rfl rfl (r_call (ledger_Seal true false (packB a.f_1 y.f_Head y.f_State) (by omega)) Try.func31 rfl (by decide) [] [4] (l := [(.tmp 93, ownV 4 kU8 0 (packB a.f_1 y.f_Head y.f_State).length)]) [(4, .live (arrK 5 kU8 (packB a.f_1 y.f_Head y.f_State)))] rfl 0 0 rfl rfl rfl rfl rfl rfl rfl rfl rfl ⟨.inr (.inl ⟨rfl, (fun h => by cases h), rfl, rfl, by simp, 5, (packB a.f_1 y.f_Head y.f_State).length, elOf kU8 (packB a.f_1 y.f_Head y.f_State), List.Mem.head _, by omega, fun i j => by rw [Nat.zero_add]⟩), trivial⟩ rfl (by intro b hb; simp only [List.mem_cons, List.not_mem_nil, or_false] at hb; rcases hb with rfl; exact ⟨_, List.Mem.head _⟩) (.inr ⟨trivial, trivial⟩) (lt_of rfl) trivial),
                              hY 9 (decide_eq_true hq26),
                              hY 10 (decide_eq_true hq26),
                              hY 11 (decide_eq_true hq26),
                              hY 12 (decide_eq_true hq26),
                              hY 13 (decide_eq_true hq26),
                              hP 14 (decide_eq_true hq26),
                              hY 16 (decide_eq_true hq27),
                              hY 17 (decide_eq_true hq27),
                              hY 18 (decide_eq_true hq27),
                              hY 19 (decide_eq_true hq27),
                              hS 20 (oY rfl rfl rfl rfl (lt_of rfl) (decide_eq_true hq27) (r_call (ref01_Same false false false false x.f_State y.f_State ) Try.func29 rfl (by decide) [] [] (l := [(.tmp 108, slV false false kU8 x.f_State), (.tmp 110, slV false false kU8 y.f_State)]) [] rfl 0 0 rfl rfl rfl rfl rfl rfl rfl rfl rfl ⟨.inl ⟨rfl, rfl⟩, ⟨.inl ⟨rfl, rfl⟩, trivial⟩⟩ rfl (fun b hb => by cases hb) (.inl rfl) (lt_of rfl) trivial)),
                              hP 21 (decide_eq_true hq27),
                              hS 24 (oY rfl rfl rfl rfl (lt_of rfl) (decide_eq_true hq28) (r_call (law_awake  ) Try.func14 rfl (by decide) [] [] (l := []) [] rfl 0 0 rfl rfl rfl rfl rfl rfl rfl rfl rfl trivial rfl (fun b hb => by cases hb) (.inl rfl) (lt_of rfl) trivial)),
                              hP 25 (decide_eq_true hq28)] (by kernel_rfl) (by kernel_rfl) ?_
                            refine nT ?_
                            refine T.ret ?_
                            exact tE (.inl rfl) [.t 6 (.one (.d (.val (.bool true))))] ⟨⟨rfl, by kernel_rfl⟩, trivial⟩ [] rfl rfl rfl rfl rfl rfl trivial
                          · refine xR [hR 1 rfl rfl (r_call (ledger_Seal true false (packB a.f_0 x.f_Head x.f_State) (by omega)) Try.func31 rfl (by decide) [] [3] (l := [(.tmp 91, ownV 3 kU8 0 (packB a.f_0 x.f_Head x.f_State).length)]) [(3, .live (arrK 5 kU8 (packB a.f_0 x.f_Head x.f_State)))] rfl 0 0 rfl rfl rfl rfl rfl rfl rfl rfl rfl ⟨.inr (.inl ⟨rfl, (fun h => by cases h), rfl, rfl, by simp, 5, (packB a.f_0 x.f_Head x.f_State).length, elOf kU8 (packB a.f_0 x.f_Head x.f_State), List.Mem.head _, by omega, fun i j => by rw [Nat.zero_add]⟩), trivial⟩ rfl (by intro b hb; simp only [List.mem_cons, List.not_mem_nil, or_false] at hb; rcases hb with rfl; exact ⟨_, List.Mem.head _⟩) (.inr ⟨trivial, trivial⟩) (lt_of rfl) trivial),
                              hR 3 rfl rfl (r_call (ledger_Seal true false (packB a.f_1 y.f_Head y.f_State) (by omega)) Try.func31 rfl (by decide) [] [4] (l := [(.tmp 93, ownV 4 kU8 0 (packB a.f_1 y.f_Head y.f_State).length)]) [(4, .live (arrK 5 kU8 (packB a.f_1 y.f_Head y.f_State)))] rfl 0 0 rfl rfl rfl rfl rfl rfl rfl rfl rfl ⟨.inr (.inl ⟨rfl, (fun h => by cases h), rfl, rfl, by simp, 5, (packB a.f_1 y.f_Head y.f_State).length, elOf kU8 (packB a.f_1 y.f_Head y.f_State), List.Mem.head _, by omega, fun i j => by rw [Nat.zero_add]⟩), trivial⟩ rfl (by intro b hb; simp only [List.mem_cons, List.not_mem_nil, or_false] at hb; rcases hb with rfl; exact ⟨_, List.Mem.head _⟩) (.inr ⟨trivial, trivial⟩) (lt_of rfl) trivial),
                              hY 9 (decide_eq_true hq26),
                              hY 10 (decide_eq_true hq26),
                              hY 11 (decide_eq_true hq26),
                              hY 12 (decide_eq_true hq26),
                              hY 13 (decide_eq_true hq26),
                              hP 14 (decide_eq_true hq26),
                              hY 16 (decide_eq_true hq27),
                              hY 17 (decide_eq_true hq27),
                              hY 18 (decide_eq_true hq27),
                              hY 19 (decide_eq_true hq27),
                              hS 20 (oY rfl rfl rfl rfl (lt_of rfl) (decide_eq_true hq27) (r_call (ref01_Same false false false false x.f_State y.f_State ) Try.func29 rfl (by decide) [] [] (l := [(.tmp 108, slV false false kU8 x.f_State), (.tmp 110, slV false false kU8 y.f_State)]) [] rfl 0 0 rfl rfl rfl rfl rfl rfl rfl rfl rfl ⟨.inl ⟨rfl, rfl⟩, ⟨.inl ⟨rfl, rfl⟩, trivial⟩⟩ rfl (fun b hb => by cases hb) (.inl rfl) (lt_of rfl) trivial)),
                              hP 21 (decide_eq_true hq27),
                              hN 24 true (decide_eq_false hq28),
                              hP 25 (decide_eq_false hq28)] (by kernel_rfl) (by kernel_rfl) ?_
                            refine nT ?_
                            refine T.ret ?_
                            exact tE (.inl rfl) [.t 6 (.one (.d (.val (.bool false))))] ⟨⟨rfl, by kernel_rfl⟩, trivial⟩ [] (by have e1 : (true : Bool) = false := (by simp_all); have hE := congrArg (fun (q1 : Bool) => (dv (.bool q1) : AV)) e1; exact hE) rfl rfl rfl rfl rfl trivial
                        · by_cases hq29 : (decide ((ofB 7 [packB a.f_0 x.f_Head x.f_State]) = (ofB 7 [packB a.f_1 y.f_Head y.f_State]))) = false
                          · refine xR [hR 1 rfl rfl (r_call (ledger_Seal true false (packB a.f_0 x.f_Head x.f_State) (by omega)) Try.func31 rfl (by decide) [] [3] (l := [(.tmp 91, ownV 3 kU8 0 (packB a.f_0 x.f_Head x.f_State).length)]) [(3, .live (arrK 5 kU8 (packB a.f_0 x.f_Head x.f_State)))] rfl 0 0 rfl rfl rfl rfl rfl rfl rfl rfl rfl ⟨.inr (.inl ⟨rfl, (fun h => by cases h), rfl, rfl, by simp, 5, (packB a.f_0 x.f_Head x.f_State).length, elOf kU8 (packB a.f_0 x.f_Head x.f_State), List.Mem.head _, by omega, fun i j => by rw [Nat.zero_add]⟩), trivial⟩ rfl (by intro b hb; simp only [List.mem_cons, List.not_mem_nil, or_false] at hb; rcases hb with rfl; exact ⟨_, List.Mem.head _⟩) (.inr ⟨trivial, trivial⟩) (lt_of rfl) trivial),
                              hR 3 rfl rfl (r_call (ledger_Seal true false (packB a.f_1 y.f_Head y.f_State) (by omega)) Try.func31 rfl (by decide) [] [4] (l := [(.tmp 93, ownV 4 kU8 0 (packB a.f_1 y.f_Head y.f_State).length)]) [(4, .live (arrK 5 kU8 (packB a.f_1 y.f_Head y.f_State)))] rfl 0 0 rfl rfl rfl rfl rfl rfl rfl rfl rfl ⟨.inr (.inl ⟨rfl, (fun h => by cases h), rfl, rfl, by simp, 5, (packB a.f_1 y.f_Head y.f_State).length, elOf kU8 (packB a.f_1 y.f_Head y.f_State), List.Mem.head _, by omega, fun i j => by rw [Nat.zero_add]⟩), trivial⟩ rfl (by intro b hb; simp only [List.mem_cons, List.not_mem_nil, or_false] at hb; rcases hb with rfl; exact ⟨_, List.Mem.head _⟩) (.inr ⟨trivial, trivial⟩) (lt_of rfl) trivial),
                              hY 9 (decide_eq_true hq26),
                              hY 10 (decide_eq_true hq26),
                              hY 11 (decide_eq_true hq26),
                              hY 12 (decide_eq_true hq26),
                              hY 13 (decide_eq_true hq26),
                              hP 14 (decide_eq_true hq26),
                              hN 16 true (decide_eq_false hq27),
                              hN 17 true (decide_eq_false hq27),
                              hN 18 true (decide_eq_false hq27),
                              hN 19 true (decide_eq_false hq27),
                              hN 20 true (decide_eq_false hq27),
                              hP 21 (decide_eq_false hq27),
                              hS 24 (oY rfl rfl rfl rfl (lt_of rfl) (decide_eq_true hq29) (r_call (law_awake  ) Try.func14 rfl (by decide) [] [] (l := []) [] rfl 0 0 rfl rfl rfl rfl rfl rfl rfl rfl rfl trivial rfl (fun b hb => by cases hb) (.inl rfl) (lt_of rfl) trivial)),
                              hP 25 (decide_eq_true hq29)] (by kernel_rfl) (by kernel_rfl) ?_
                            refine nT ?_
                            refine T.ret ?_
                            exact tE (.inl rfl) [.t 6 (.one (.d (.val (.bool true))))] ⟨⟨rfl, by kernel_rfl⟩, trivial⟩ [] rfl rfl rfl rfl rfl rfl trivial
                          · refine xR [hR 1 rfl rfl (r_call (ledger_Seal true false (packB a.f_0 x.f_Head x.f_State) (by omega)) Try.func31 rfl (by decide) [] [3] (l := [(.tmp 91, ownV 3 kU8 0 (packB a.f_0 x.f_Head x.f_State).length)]) [(3, .live (arrK 5 kU8 (packB a.f_0 x.f_Head x.f_State)))] rfl 0 0 rfl rfl rfl rfl rfl rfl rfl rfl rfl ⟨.inr (.inl ⟨rfl, (fun h => by cases h), rfl, rfl, by simp, 5, (packB a.f_0 x.f_Head x.f_State).length, elOf kU8 (packB a.f_0 x.f_Head x.f_State), List.Mem.head _, by omega, fun i j => by rw [Nat.zero_add]⟩), trivial⟩ rfl (by intro b hb; simp only [List.mem_cons, List.not_mem_nil, or_false] at hb; rcases hb with rfl; exact ⟨_, List.Mem.head _⟩) (.inr ⟨trivial, trivial⟩) (lt_of rfl) trivial),
                              hR 3 rfl rfl (r_call (ledger_Seal true false (packB a.f_1 y.f_Head y.f_State) (by omega)) Try.func31 rfl (by decide) [] [4] (l := [(.tmp 93, ownV 4 kU8 0 (packB a.f_1 y.f_Head y.f_State).length)]) [(4, .live (arrK 5 kU8 (packB a.f_1 y.f_Head y.f_State)))] rfl 0 0 rfl rfl rfl rfl rfl rfl rfl rfl rfl ⟨.inr (.inl ⟨rfl, (fun h => by cases h), rfl, rfl, by simp, 5, (packB a.f_1 y.f_Head y.f_State).length, elOf kU8 (packB a.f_1 y.f_Head y.f_State), List.Mem.head _, by omega, fun i j => by rw [Nat.zero_add]⟩), trivial⟩ rfl (by intro b hb; simp only [List.mem_cons, List.not_mem_nil, or_false] at hb; rcases hb with rfl; exact ⟨_, List.Mem.head _⟩) (.inr ⟨trivial, trivial⟩) (lt_of rfl) trivial),
                              hY 9 (decide_eq_true hq26),
                              hY 10 (decide_eq_true hq26),
                              hY 11 (decide_eq_true hq26),
                              hY 12 (decide_eq_true hq26),
                              hY 13 (decide_eq_true hq26),
                              hP 14 (decide_eq_true hq26),
                              hN 16 true (decide_eq_false hq27),
                              hN 17 true (decide_eq_false hq27),
                              hN 18 true (decide_eq_false hq27),
                              hN 19 true (decide_eq_false hq27),
                              hN 20 true (decide_eq_false hq27),
                              hP 21 (decide_eq_false hq27),
                              hN 24 true (decide_eq_false hq29),
                              hP 25 (decide_eq_false hq29)] (by kernel_rfl) (by kernel_rfl) ?_
                            refine nT ?_
                            refine T.ret ?_
                            exact tE (.inl rfl) [.t 6 (.one (.d (.val (.bool false))))] ⟨⟨rfl, by kernel_rfl⟩, trivial⟩ [] (by have e1 : (true : Bool) = false := (by simp_all); have hE := congrArg (fun (q1 : Bool) => (dv (.bool q1) : AV)) e1; exact hE) rfl rfl rfl rfl rfl trivial
                      · by_cases hq30 : (decide ((ofB 7 [packB a.f_0 x.f_Head x.f_State]) = (ofB 7 [packB a.f_1 y.f_Head y.f_State]))) = false
                        · refine xR [hR 1 rfl rfl (r_call (ledger_Seal true false (packB a.f_0 x.f_Head x.f_State) (by omega)) Try.func31 rfl (by decide) [] [3] (l := [(.tmp 91, ownV 3 kU8 0 (packB a.f_0 x.f_Head x.f_State).length)]) [(3, .live (arrK 5 kU8 (packB a.f_0 x.f_Head x.f_State)))] rfl 0 0 rfl rfl rfl rfl rfl rfl rfl rfl rfl ⟨.inr (.inl ⟨rfl, (fun h => by cases h), rfl, rfl, by simp, 5, (packB a.f_0 x.f_Head x.f_State).length, elOf kU8 (packB a.f_0 x.f_Head x.f_State), List.Mem.head _, by omega, fun i j => by rw [Nat.zero_add]⟩), trivial⟩ rfl (by intro b hb; simp only [List.mem_cons, List.not_mem_nil, or_false] at hb; rcases hb with rfl; exact ⟨_, List.Mem.head _⟩) (.inr ⟨trivial, trivial⟩) (lt_of rfl) trivial),
                            hR 3 rfl rfl (r_call (ledger_Seal true false (packB a.f_1 y.f_Head y.f_State) (by omega)) Try.func31 rfl (by decide) [] [4] (l := [(.tmp 93, ownV 4 kU8 0 (packB a.f_1 y.f_Head y.f_State).length)]) [(4, .live (arrK 5 kU8 (packB a.f_1 y.f_Head y.f_State)))] rfl 0 0 rfl rfl rfl rfl rfl rfl rfl rfl rfl ⟨.inr (.inl ⟨rfl, (fun h => by cases h), rfl, rfl, by simp, 5, (packB a.f_1 y.f_Head y.f_State).length, elOf kU8 (packB a.f_1 y.f_Head y.f_State), List.Mem.head _, by omega, fun i j => by rw [Nat.zero_add]⟩), trivial⟩ rfl (by intro b hb; simp only [List.mem_cons, List.not_mem_nil, or_false] at hb; rcases hb with rfl; exact ⟨_, List.Mem.head _⟩) (.inr ⟨trivial, trivial⟩) (lt_of rfl) trivial),
                            hN 9 true (decide_eq_false hq26),
                            hN 10 true (decide_eq_false hq26),
                            hN 11 true (decide_eq_false hq26),
                            hN 12 true (decide_eq_false hq26),
                            hN 13 true (decide_eq_false hq26),
                            hP 14 (decide_eq_false hq26),
                            hN 16 (b := false) true rfl,
                            hN 17 (b := false) true rfl,
                            hN 18 (b := false) true rfl,
                            hN 19 (b := false) true rfl,
                            hN 20 (b := false) true rfl,
                            hP 21 (b := false) (w := false) rfl,
                            hS 24 (oY rfl rfl rfl rfl (lt_of rfl) (decide_eq_true hq30) (r_call (law_awake  ) Try.func14 rfl (by decide) [] [] (l := []) [] rfl 0 0 rfl rfl rfl rfl rfl rfl rfl rfl rfl trivial rfl (fun b hb => by cases hb) (.inl rfl) (lt_of rfl) trivial)),
                            hP 25 (decide_eq_true hq30)] (by kernel_rfl) (by kernel_rfl) ?_
                          refine nT ?_
                          refine T.ret ?_
                          exact tE (.inl rfl) [.t 6 (.one (.d (.val (.bool true))))] ⟨⟨rfl, by kernel_rfl⟩, trivial⟩ [] rfl rfl rfl rfl rfl rfl trivial
                        · refine xR [hR 1 rfl rfl (r_call (ledger_Seal true false (packB a.f_0 x.f_Head x.f_State) (by omega)) Try.func31 rfl (by decide) [] [3] (l := [(.tmp 91, ownV 3 kU8 0 (packB a.f_0 x.f_Head x.f_State).length)]) [(3, .live (arrK 5 kU8 (packB a.f_0 x.f_Head x.f_State)))] rfl 0 0 rfl rfl rfl rfl rfl rfl rfl rfl rfl ⟨.inr (.inl ⟨rfl, (fun h => by cases h), rfl, rfl, by simp, 5, (packB a.f_0 x.f_Head x.f_State).length, elOf kU8 (packB a.f_0 x.f_Head x.f_State), List.Mem.head _, by omega, fun i j => by rw [Nat.zero_add]⟩), trivial⟩ rfl (by intro b hb; simp only [List.mem_cons, List.not_mem_nil, or_false] at hb; rcases hb with rfl; exact ⟨_, List.Mem.head _⟩) (.inr ⟨trivial, trivial⟩) (lt_of rfl) trivial),
                            hR 3 rfl rfl (r_call (ledger_Seal true false (packB a.f_1 y.f_Head y.f_State) (by omega)) Try.func31 rfl (by decide) [] [4] (l := [(.tmp 93, ownV 4 kU8 0 (packB a.f_1 y.f_Head y.f_State).length)]) [(4, .live (arrK 5 kU8 (packB a.f_1 y.f_Head y.f_State)))] rfl 0 0 rfl rfl rfl rfl rfl rfl rfl rfl rfl ⟨.inr (.inl ⟨rfl, (fun h => by cases h), rfl, rfl, by simp, 5, (packB a.f_1 y.f_Head y.f_State).length, elOf kU8 (packB a.f_1 y.f_Head y.f_State), List.Mem.head _, by omega, fun i j => by rw [Nat.zero_add]⟩), trivial⟩ rfl (by intro b hb; simp only [List.mem_cons, List.not_mem_nil, or_false] at hb; rcases hb with rfl; exact ⟨_, List.Mem.head _⟩) (.inr ⟨trivial, trivial⟩) (lt_of rfl) trivial),
                            hN 9 true (decide_eq_false hq26),
                            hN 10 true (decide_eq_false hq26),
                            hN 11 true (decide_eq_false hq26),
                            hN 12 true (decide_eq_false hq26),
                            hN 13 true (decide_eq_false hq26),
                            hP 14 (decide_eq_false hq26),
                            hN 16 (b := false) true rfl,
                            hN 17 (b := false) true rfl,
                            hN 18 (b := false) true rfl,
                            hN 19 (b := false) true rfl,
                            hN 20 (b := false) true rfl,
                            hP 21 (b := false) (w := false) rfl,
                            hN 24 true (decide_eq_false hq30),
                            hP 25 (decide_eq_false hq30)] (by kernel_rfl) (by kernel_rfl) ?_
                          refine nT ?_
                          refine T.ret ?_
                          exact tE (.inl rfl) [.t 6 (.one (.d (.val (.bool false))))] ⟨⟨rfl, by kernel_rfl⟩, trivial⟩ [] (by have e1 : (true : Bool) = false := (by simp_all); have hE := congrArg (fun (q1 : Bool) => (dv (.bool q1) : AV)) e1; exact hE) rfl rfl rfl rfl rfl trivial
                    · exact absurd (huo.2 (by assumption)).2.2 hq25
              · refine xR [hN 5 true (decide_eq_false hq5),
                  hN 6 true (decide_eq_false hq5),
                  hP 7 (decide_eq_false hq5),
                  hY 10 (decide_eq_false hq21),
                  hY 11 (decide_eq_false hq21),
                  hY 12 (decide_eq_false hq21),
                  hN 13 true (decide_eq_false hq22),
                  hN 14 true (decide_eq_false hq22),
                  hN 15 true (decide_eq_false hq22),
                  hN 16 true (decide_eq_false hq22),
                  hU 17,
                  hU 18,
                  hU 19,
                  hU 20,
                  hN 21 true (decide_eq_false hq22),
                  hN 22 true (decide_eq_false hq22),
                  hU 23,
                  hU 24,
                  hU 25,
                  hU 26,
                  hU 27,
                  hN 28 true (decide_eq_false hq22),
                  hS 29 (oY rfl rfl rfl rfl (lt_of rfl) (decide_eq_false hq21) (r_pickF (b := (decide ((unE (((packB a.f_0 x.f_Head x.f_State).length : Nat) : Int) (packB a.f_0 x.f_Head x.f_State)) = 0))) (av := dv (.bool false)) (lt_of rfl) ⟨rfl, trivial⟩ (decide_eq_false hq22))),
                  hP 30 (decide_eq_false hq21)] (by kernel_rfl) (by kernel_rfl) ?_
                refine nT ?_
                refine T.condF (b := false) (by kernel_rfl) rfl ?_
                refine T.skip ?_
                refine nT ?_
                refine T.seq ?_
                by_cases hq31 : a.f_0 = a.f_1
                · by_cases hq32 : x.f_Head = y.f_Head
                  · by_cases hq33 : (decide ((ofB 7 [packB a.f_0 x.f_Head x.f_State]) = (ofB 7 [packB a.f_1 y.f_Head y.f_State]))) = (decide (x.f_State = y.f_State))
                    · refine xR [hR 1 rfl rfl (r_call (ledger_Seal true false (packB a.f_0 x.f_Head x.f_State) (by omega)) Try.func31 rfl (by decide) [] [3] (l := [(.tmp 91, ownV 3 kU8 0 (packB a.f_0 x.f_Head x.f_State).length)]) [(3, .live (arrK 5 kU8 (packB a.f_0 x.f_Head x.f_State)))] rfl 0 0 rfl rfl rfl rfl rfl rfl rfl rfl rfl ⟨.inr (.inl ⟨rfl, (fun h => by cases h), rfl, rfl, by simp, 5, (packB a.f_0 x.f_Head x.f_State).length, elOf kU8 (packB a.f_0 x.f_Head x.f_State), List.Mem.head _, by omega, fun i j => by rw [Nat.zero_add]⟩), trivial⟩ rfl (by intro b hb; simp only [List.mem_cons, List.not_mem_nil, or_false] at hb; rcases hb with rfl; exact ⟨_, List.Mem.head _⟩) (.inr ⟨trivial, trivial⟩) (lt_of rfl) trivial),
                        hR 3 rfl rfl (r_call (ledger_Seal true false (packB a.f_1 y.f_Head y.f_State) (by omega)) Try.func31 rfl (by decide) [] [4] (l := [(.tmp 93, ownV 4 kU8 0 (packB a.f_1 y.f_Head y.f_State).length)]) [(4, .live (arrK 5 kU8 (packB a.f_1 y.f_Head y.f_State)))] rfl 0 0 rfl rfl rfl rfl rfl rfl rfl rfl rfl ⟨.inr (.inl ⟨rfl, (fun h => by cases h), rfl, rfl, by simp, 5, (packB a.f_1 y.f_Head y.f_State).length, elOf kU8 (packB a.f_1 y.f_Head y.f_State), List.Mem.head _, by omega, fun i j => by rw [Nat.zero_add]⟩), trivial⟩ rfl (by intro b hb; simp only [List.mem_cons, List.not_mem_nil, or_false] at hb; rcases hb with rfl; exact ⟨_, List.Mem.head _⟩) (.inr ⟨trivial, trivial⟩) (lt_of rfl) trivial),
                        hY 9 (decide_eq_true hq31),
                        hY 10 (decide_eq_true hq31),
                        hY 11 (decide_eq_true hq31),
                        hY 12 (decide_eq_true hq31),
                        hY 13 (decide_eq_true hq31),
                        hP 14 (decide_eq_true hq31),
                        hY 16 (decide_eq_true hq32),
                        hY 17 (decide_eq_true hq32),
                        hY 18 (decide_eq_true hq32),
                        hY 19 (decide_eq_true hq32),
                        hS 20 (oY rfl rfl rfl rfl (lt_of rfl) (decide_eq_true hq32) (r_call (ref01_Same false false false false x.f_State y.f_State ) Try.func29 rfl (by decide) [] [] (l := [(.tmp 108, slV false false kU8 x.f_State), (.tmp 110, slV false false kU8 y.f_State)]) [] rfl 0 0 rfl rfl rfl rfl rfl rfl rfl rfl rfl ⟨.inl ⟨rfl, rfl⟩, ⟨.inl ⟨rfl, rfl⟩, trivial⟩⟩ rfl (fun b hb => by cases hb) (.inl rfl) (lt_of rfl) trivial)),
                        hP 21 (decide_eq_true hq32),
                        hS 24 (oY rfl rfl rfl rfl (lt_of rfl) (decide_eq_true hq33) (r_call (law_awake  ) Try.func14 rfl (by decide) [] [] (l := []) [] rfl 0 0 rfl rfl rfl rfl rfl rfl rfl rfl rfl trivial rfl (fun b hb => by cases hb) (.inl rfl) (lt_of rfl) trivial)),
                        hP 25 (decide_eq_true hq33)] (by kernel_rfl) (by kernel_rfl) ?_
                      refine nT ?_
                      refine T.ret ?_
                      exact tE (.inl rfl) [.t 6 (.one (.d (.val (.bool true))))] ⟨⟨rfl, by kernel_rfl⟩, trivial⟩ [] rfl rfl rfl rfl rfl rfl trivial
                    · refine xR [hR 1 rfl rfl (r_call (ledger_Seal true false (packB a.f_0 x.f_Head x.f_State) (by omega)) Try.func31 rfl (by decide) [] [3] (l := [(.tmp 91, ownV 3 kU8 0 (packB a.f_0 x.f_Head x.f_State).length)]) [(3, .live (arrK 5 kU8 (packB a.f_0 x.f_Head x.f_State)))] rfl 0 0 rfl rfl rfl rfl rfl rfl rfl rfl rfl ⟨.inr (.inl ⟨rfl, (fun h => by cases h), rfl, rfl, by simp, 5, (packB a.f_0 x.f_Head x.f_State).length, elOf kU8 (packB a.f_0 x.f_Head x.f_State), List.Mem.head _, by omega, fun i j => by rw [Nat.zero_add]⟩), trivial⟩ rfl (by intro b hb; simp only [List.mem_cons, List.not_mem_nil, or_false] at hb; rcases hb with rfl; exact ⟨_, List.Mem.head _⟩) (.inr ⟨trivial, trivial⟩) (lt_of rfl) trivial),
                        hR 3 rfl rfl (r_call (ledger_Seal true false (packB a.f_1 y.f_Head y.f_State) (by omega)) Try.func31 rfl (by decide) [] [4] (l := [(.tmp 93, ownV 4 kU8 0 (packB a.f_1 y.f_Head y.f_State).length)]) [(4, .live (arrK 5 kU8 (packB a.f_1 y.f_Head y.f_State)))] rfl 0 0 rfl rfl rfl rfl rfl rfl rfl rfl rfl ⟨.inr (.inl ⟨rfl, (fun h => by cases h), rfl, rfl, by simp, 5, (packB a.f_1 y.f_Head y.f_State).length, elOf kU8 (packB a.f_1 y.f_Head y.f_State), List.Mem.head _, by omega, fun i j => by rw [Nat.zero_add]⟩), trivial⟩ rfl (by intro b hb; simp only [List.mem_cons, List.not_mem_nil, or_false] at hb; rcases hb with rfl; exact ⟨_, List.Mem.head _⟩) (.inr ⟨trivial, trivial⟩) (lt_of rfl) trivial),
                        hY 9 (decide_eq_true hq31),
                        hY 10 (decide_eq_true hq31),
                        hY 11 (decide_eq_true hq31),
                        hY 12 (decide_eq_true hq31),
                        hY 13 (decide_eq_true hq31),
                        hP 14 (decide_eq_true hq31),
                        hY 16 (decide_eq_true hq32),
                        hY 17 (decide_eq_true hq32),
                        hY 18 (decide_eq_true hq32),
                        hY 19 (decide_eq_true hq32),
                        hS 20 (oY rfl rfl rfl rfl (lt_of rfl) (decide_eq_true hq32) (r_call (ref01_Same false false false false x.f_State y.f_State ) Try.func29 rfl (by decide) [] [] (l := [(.tmp 108, slV false false kU8 x.f_State), (.tmp 110, slV false false kU8 y.f_State)]) [] rfl 0 0 rfl rfl rfl rfl rfl rfl rfl rfl rfl ⟨.inl ⟨rfl, rfl⟩, ⟨.inl ⟨rfl, rfl⟩, trivial⟩⟩ rfl (fun b hb => by cases hb) (.inl rfl) (lt_of rfl) trivial)),
                        hP 21 (decide_eq_true hq32),
                        hN 24 true (decide_eq_false hq33),
                        hP 25 (decide_eq_false hq33)] (by kernel_rfl) (by kernel_rfl) ?_
                      refine nT ?_
                      refine T.ret ?_
                      exact tE (.inl rfl) [.t 6 (.one (.d (.val (.bool false))))] ⟨⟨rfl, by kernel_rfl⟩, trivial⟩ [] (by have e1 : (true : Bool) = false := (by simp_all); have hE := congrArg (fun (q1 : Bool) => (dv (.bool q1) : AV)) e1; exact hE) rfl rfl rfl rfl rfl trivial
                  · by_cases hq34 : (decide ((ofB 7 [packB a.f_0 x.f_Head x.f_State]) = (ofB 7 [packB a.f_1 y.f_Head y.f_State]))) = false
                    · refine xR [hR 1 rfl rfl (r_call (ledger_Seal true false (packB a.f_0 x.f_Head x.f_State) (by omega)) Try.func31 rfl (by decide) [] [3] (l := [(.tmp 91, ownV 3 kU8 0 (packB a.f_0 x.f_Head x.f_State).length)]) [(3, .live (arrK 5 kU8 (packB a.f_0 x.f_Head x.f_State)))] rfl 0 0 rfl rfl rfl rfl rfl rfl rfl rfl rfl ⟨.inr (.inl ⟨rfl, (fun h => by cases h), rfl, rfl, by simp, 5, (packB a.f_0 x.f_Head x.f_State).length, elOf kU8 (packB a.f_0 x.f_Head x.f_State), List.Mem.head _, by omega, fun i j => by rw [Nat.zero_add]⟩), trivial⟩ rfl (by intro b hb; simp only [List.mem_cons, List.not_mem_nil, or_false] at hb; rcases hb with rfl; exact ⟨_, List.Mem.head _⟩) (.inr ⟨trivial, trivial⟩) (lt_of rfl) trivial),
                        hR 3 rfl rfl (r_call (ledger_Seal true false (packB a.f_1 y.f_Head y.f_State) (by omega)) Try.func31 rfl (by decide) [] [4] (l := [(.tmp 93, ownV 4 kU8 0 (packB a.f_1 y.f_Head y.f_State).length)]) [(4, .live (arrK 5 kU8 (packB a.f_1 y.f_Head y.f_State)))] rfl 0 0 rfl rfl rfl rfl rfl rfl rfl rfl rfl ⟨.inr (.inl ⟨rfl, (fun h => by cases h), rfl, rfl, by simp, 5, (packB a.f_1 y.f_Head y.f_State).length, elOf kU8 (packB a.f_1 y.f_Head y.f_State), List.Mem.head _, by omega, fun i j => by rw [Nat.zero_add]⟩), trivial⟩ rfl (by intro b hb; simp only [List.mem_cons, List.not_mem_nil, or_false] at hb; rcases hb with rfl; exact ⟨_, List.Mem.head _⟩) (.inr ⟨trivial, trivial⟩) (lt_of rfl) trivial),
                        hY 9 (decide_eq_true hq31),
                        hY 10 (decide_eq_true hq31),
                        hY 11 (decide_eq_true hq31),
                        hY 12 (decide_eq_true hq31),
                        hY 13 (decide_eq_true hq31),
                        hP 14 (decide_eq_true hq31),
                        hN 16 true (decide_eq_false hq32),
                        hN 17 true (decide_eq_false hq32),
                        hN 18 true (decide_eq_false hq32),
                        hN 19 true (decide_eq_false hq32),
                        hN 20 true (decide_eq_false hq32),
                        hP 21 (decide_eq_false hq32),
                        hS 24 (oY rfl rfl rfl rfl (lt_of rfl) (decide_eq_true hq34) (r_call (law_awake  ) Try.func14 rfl (by decide) [] [] (l := []) [] rfl 0 0 rfl rfl rfl rfl rfl rfl rfl rfl rfl trivial rfl (fun b hb => by cases hb) (.inl rfl) (lt_of rfl) trivial)),
                        hP 25 (decide_eq_true hq34)] (by kernel_rfl) (by kernel_rfl) ?_
                      refine nT ?_
                      refine T.ret ?_
                      exact tE (.inl rfl) [.t 6 (.one (.d (.val (.bool true))))] ⟨⟨rfl, by kernel_rfl⟩, trivial⟩ [] rfl rfl rfl rfl rfl rfl trivial
                    · refine xR [hR 1 rfl rfl (r_call (ledger_Seal true false (packB a.f_0 x.f_Head x.f_State) (by omega)) Try.func31 rfl (by decide) [] [3] (l := [(.tmp 91, ownV 3 kU8 0 (packB a.f_0 x.f_Head x.f_State).length)]) [(3, .live (arrK 5 kU8 (packB a.f_0 x.f_Head x.f_State)))] rfl 0 0 rfl rfl rfl rfl rfl rfl rfl rfl rfl ⟨.inr (.inl ⟨rfl, (fun h => by cases h), rfl, rfl, by simp, 5, (packB a.f_0 x.f_Head x.f_State).length, elOf kU8 (packB a.f_0 x.f_Head x.f_State), List.Mem.head _, by omega, fun i j => by rw [Nat.zero_add]⟩), trivial⟩ rfl (by intro b hb; simp only [List.mem_cons, List.not_mem_nil, or_false] at hb; rcases hb with rfl; exact ⟨_, List.Mem.head _⟩) (.inr ⟨trivial, trivial⟩) (lt_of rfl) trivial),
                        hR 3 rfl rfl (r_call (ledger_Seal true false (packB a.f_1 y.f_Head y.f_State) (by omega)) Try.func31 rfl (by decide) [] [4] (l := [(.tmp 93, ownV 4 kU8 0 (packB a.f_1 y.f_Head y.f_State).length)]) [(4, .live (arrK 5 kU8 (packB a.f_1 y.f_Head y.f_State)))] rfl 0 0 rfl rfl rfl rfl rfl rfl rfl rfl rfl ⟨.inr (.inl ⟨rfl, (fun h => by cases h), rfl, rfl, by simp, 5, (packB a.f_1 y.f_Head y.f_State).length, elOf kU8 (packB a.f_1 y.f_Head y.f_State), List.Mem.head _, by omega, fun i j => by rw [Nat.zero_add]⟩), trivial⟩ rfl (by intro b hb; simp only [List.mem_cons, List.not_mem_nil, or_false] at hb; rcases hb with rfl; exact ⟨_, List.Mem.head _⟩) (.inr ⟨trivial, trivial⟩) (lt_of rfl) trivial),
                        hY 9 (decide_eq_true hq31),
                        hY 10 (decide_eq_true hq31),
                        hY 11 (decide_eq_true hq31),
                        hY 12 (decide_eq_true hq31),
                        hY 13 (decide_eq_true hq31),
                        hP 14 (decide_eq_true hq31),
                        hN 16 true (decide_eq_false hq32),
                        hN 17 true (decide_eq_false hq32),
                        hN 18 true (decide_eq_false hq32),
                        hN 19 true (decide_eq_false hq32),
                        hN 20 true (decide_eq_false hq32),
                        hP 21 (decide_eq_false hq32),
                        hN 24 true (decide_eq_false hq34),
                        hP 25 (decide_eq_false hq34)] (by kernel_rfl) (by kernel_rfl) ?_
                      refine nT ?_
                      refine T.ret ?_
                      exact tE (.inl rfl) [.t 6 (.one (.d (.val (.bool false))))] ⟨⟨rfl, by kernel_rfl⟩, trivial⟩ [] (by have e1 : (true : Bool) = false := (by simp_all); have hE := congrArg (fun (q1 : Bool) => (dv (.bool q1) : AV)) e1; exact hE) rfl rfl rfl rfl rfl trivial
                · by_cases hq35 : (decide ((ofB 7 [packB a.f_0 x.f_Head x.f_State]) = (ofB 7 [packB a.f_1 y.f_Head y.f_State]))) = false
                  · refine xR [hR 1 rfl rfl (r_call (ledger_Seal true false (packB a.f_0 x.f_Head x.f_State) (by omega)) Try.func31 rfl (by decide) [] [3] (l := [(.tmp 91, ownV 3 kU8 0 (packB a.f_0 x.f_Head x.f_State).length)]) [(3, .live (arrK 5 kU8 (packB a.f_0 x.f_Head x.f_State)))] rfl 0 0 rfl rfl rfl rfl rfl rfl rfl rfl rfl ⟨.inr (.inl ⟨rfl, (fun h => by cases h), rfl, rfl, by simp, 5, (packB a.f_0 x.f_Head x.f_State).length, elOf kU8 (packB a.f_0 x.f_Head x.f_State), List.Mem.head _, by omega, fun i j => by rw [Nat.zero_add]⟩), trivial⟩ rfl (by intro b hb; simp only [List.mem_cons, List.not_mem_nil, or_false] at hb; rcases hb with rfl; exact ⟨_, List.Mem.head _⟩) (.inr ⟨trivial, trivial⟩) (lt_of rfl) trivial),
                      hR 3 rfl rfl (r_call (ledger_Seal true false (packB a.f_1 y.f_Head y.f_State) (by omega)) Try.func31 rfl (by decide) [] [4] (l := [(.tmp 93, ownV 4 kU8 0 (packB a.f_1 y.f_Head y.f_State).length)]) [(4, .live (arrK 5 kU8 (packB a.f_1 y.f_Head y.f_State)))] rfl 0 0 rfl rfl rfl rfl rfl rfl rfl rfl rfl ⟨.inr (.inl ⟨rfl, (fun h => by cases h), rfl, rfl, by simp, 5, (packB a.f_1 y.f_Head y.f_State).length, elOf kU8 (packB a.f_1 y.f_Head y.f_State), List.Mem.head _, by omega, fun i j => by rw [Nat.zero_add]⟩), trivial⟩ rfl (by intro b hb; simp only [List.mem_cons, List.not_mem_nil, or_false] at hb; rcases hb with rfl; exact ⟨_, List.Mem.head _⟩) (.inr ⟨trivial, trivial⟩) (lt_of rfl) trivial),
                      hN 9 true (decide_eq_false hq31),
                      hN 10 true (decide_eq_false hq31),
                      hN 11 true (decide_eq_false hq31),
                      hN 12 true (decide_eq_false hq31),
                      hN 13 true (decide_eq_false hq31),
                      hP 14 (decide_eq_false hq31),
                      hN 16 (b := false) true rfl,
                      hN 17 (b := false) true rfl,
                      hN 18 (b := false) true rfl,
                      hN 19 (b := false) true rfl,
                      hN 20 (b := false) true rfl,
                      hP 21 (b := false) (w := false) rfl,
                      hS 24 (oY rfl rfl rfl rfl (lt_of rfl) (decide_eq_true hq35) (r_call (law_awake  ) Try.func14 rfl (by decide) [] [] (l := []) [] rfl 0 0 rfl rfl rfl rfl rfl rfl rfl rfl rfl trivial rfl (fun b hb => by cases hb) (.inl rfl) (lt_of rfl) trivial)),
                      hP 25 (decide_eq_true hq35)] (by kernel_rfl) (by kernel_rfl) ?_
                    refine nT ?_
                    refine T.ret ?_
                    exact tE (.inl rfl) [.t 6 (.one (.d (.val (.bool true))))] ⟨⟨rfl, by kernel_rfl⟩, trivial⟩ [] rfl rfl rfl rfl rfl rfl trivial
                  · refine xR [hR 1 rfl rfl (r_call (ledger_Seal true false (packB a.f_0 x.f_Head x.f_State) (by omega)) Try.func31 rfl (by decide) [] [3] (l := [(.tmp 91, ownV 3 kU8 0 (packB a.f_0 x.f_Head x.f_State).length)]) [(3, .live (arrK 5 kU8 (packB a.f_0 x.f_Head x.f_State)))] rfl 0 0 rfl rfl rfl rfl rfl rfl rfl rfl rfl ⟨.inr (.inl ⟨rfl, (fun h => by cases h), rfl, rfl, by simp, 5, (packB a.f_0 x.f_Head x.f_State).length, elOf kU8 (packB a.f_0 x.f_Head x.f_State), List.Mem.head _, by omega, fun i j => by rw [Nat.zero_add]⟩), trivial⟩ rfl (by intro b hb; simp only [List.mem_cons, List.not_mem_nil, or_false] at hb; rcases hb with rfl; exact ⟨_, List.Mem.head _⟩) (.inr ⟨trivial, trivial⟩) (lt_of rfl) trivial),
                      hR 3 rfl rfl (r_call (ledger_Seal true false (packB a.f_1 y.f_Head y.f_State) (by omega)) Try.func31 rfl (by decide) [] [4] (l := [(.tmp 93, ownV 4 kU8 0 (packB a.f_1 y.f_Head y.f_State).length)]) [(4, .live (arrK 5 kU8 (packB a.f_1 y.f_Head y.f_State)))] rfl 0 0 rfl rfl rfl rfl rfl rfl rfl rfl rfl ⟨.inr (.inl ⟨rfl, (fun h => by cases h), rfl, rfl, by simp, 5, (packB a.f_1 y.f_Head y.f_State).length, elOf kU8 (packB a.f_1 y.f_Head y.f_State), List.Mem.head _, by omega, fun i j => by rw [Nat.zero_add]⟩), trivial⟩ rfl (by intro b hb; simp only [List.mem_cons, List.not_mem_nil, or_false] at hb; rcases hb with rfl; exact ⟨_, List.Mem.head _⟩) (.inr ⟨trivial, trivial⟩) (lt_of rfl) trivial),
                      hN 9 true (decide_eq_false hq31),
                      hN 10 true (decide_eq_false hq31),
                      hN 11 true (decide_eq_false hq31),
                      hN 12 true (decide_eq_false hq31),
                      hN 13 true (decide_eq_false hq31),
                      hP 14 (decide_eq_false hq31),
                      hN 16 (b := false) true rfl,
                      hN 17 (b := false) true rfl,
                      hN 18 (b := false) true rfl,
                      hN 19 (b := false) true rfl,
                      hN 20 (b := false) true rfl,
                      hP 21 (b := false) (w := false) rfl,
                      hN 24 true (decide_eq_false hq35),
                      hP 25 (decide_eq_false hq35)] (by kernel_rfl) (by kernel_rfl) ?_
                    refine nT ?_
                    refine T.ret ?_
                    exact tE (.inl rfl) [.t 6 (.one (.d (.val (.bool false))))] ⟨⟨rfl, by kernel_rfl⟩, trivial⟩ [] (by have e1 : (true : Bool) = false := (by simp_all); have hE := congrArg (fun (q1 : Bool) => (dv (.bool q1) : AV)) e1; exact hE) rfl rfl rfl rfl rfl trivial
end Go.Proofs.Ytdclfhahcfefeaa.Q
