import Derived.Test.YtlabmehgcfgigaaC04n3
namespace Go.Proofs.Ytlabmehgcfgigaa.Q
open Go Go.RowKit
set_option linter.unusedVariables false
set_option linter.unusedSimpArgs false
set_option maxRecDepth 100000
set_option maxHeartbeats 4000000
-- quaestor/quaestorref04.Good
theorem ref04_Good (a : api_Value) : Holds Try.prog 18 ⟨[.tv (.agg [.d (.val (.int .i64 a.f_Kind)), .d (.val (.int .i64 a.f_Int)), .d (.val (.bool a.f_Bool)), .d (.val (strV a.f_Text)), .d (.val (.float .f64 a.f_Num))])], [], dv (.bool (decide (goodV a))), []⟩ := by
  refine Holds.of Try.func18 rfl (N := 53) Try.ntmps18 rfl fun w0 B0 S0 U0 => ?_
  show T _ (mkBase 53 0 w0 S0 U0 B0) ⟨[.tv (.agg [.d (.val (.int .i64 a.f_Kind)), .d (.val (.int .i64 a.f_Int)), .d (.val (.bool a.f_Bool)), .d (.val (strV a.f_Text)), .d (.val (.float .f64 a.f_Num))])], []⟩ _ _
  have hgi := good_iff (v := a)
  refine T.seq ?_
  refine xR [] (by kernel_rfl) (by kernel_rfl) ?_
  refine nT ?_
  refine T.seq ?_
  refine T.seq ?_
  by_cases hq1 : a.f_Kind < 1
  · refine xR [hN 4 false (decide_eq_true hq1),
      hN 5 false (decide_eq_true hq1),
      hN 6 false (decide_eq_true hq1),
      hP 7 (decide_eq_true hq1),
      hN 9 (b := true) false rfl,
      hN 10 (b := true) false rfl,
      hN 11 (b := true) false rfl,
      hN 12 (b := true) false rfl,
      hP 13 (b := true) (w := true) rfl] (by kernel_rfl) (by kernel_rfl) ?_
    refine nT ?_
    refine T.condT (b := true) (by kernel_rfl) rfl ?_
    refine T.seq ?_
    refine xR [] (by kernel_rfl) (by kernel_rfl) ?_
    refine nT ?_
    refine T.ret ?_
    refine rT ?_
    exact tE (.inl rfl) [.t 2 (.one (.d (.val (.bool false))))] ⟨⟨rfl, by kernel_rfl⟩, trivial⟩ [] (by have e1 : ((decide (goodV a)) : Bool) = false := (by (exact decide_eq_false (fun h9 => by obtain ⟨g1, g2, g3, g4, g5, g6⟩ := hgi.1 h9; omega))); have hE := congrArg (fun (q1 : Bool) => (dv (.bool q1) : AV)) e1; exact hE) rfl rfl rfl rfl rfl trivial
  · by_cases hq2 : a.f_Kind > 4
    · refine xR [hY 4 (decide_eq_false hq1),
        hY 5 (decide_eq_false hq1),
        hY 6 (decide_eq_false hq1),
        hP 7 (decide_eq_false hq1),
        hN 9 false (decide_eq_true hq2),
        hN 10 false (decide_eq_true hq2),
        hN 11 false (decide_eq_true hq2),
        hN 12 false (decide_eq_true hq2),
        hP 13 (decide_eq_true hq2)] (by kernel_rfl) (by kernel_rfl) ?_
      refine nT ?_
      refine T.condT (b := true) (by kernel_rfl) rfl ?_
      refine T.seq ?_
      refine xR [] (by kernel_rfl) (by kernel_rfl) ?_
      refine nT ?_
      refine T.ret ?_
      refine rT ?_
      exact tE (.inl rfl) [.t 2 (.one (.d (.val (.bool false))))] ⟨⟨rfl, by kernel_rfl⟩, trivial⟩ [] (by have e1 : ((decide (goodV a)) : Bool) = false := (by (exact decide_eq_false (fun h9 => by obtain ⟨g1, g2, g3, g4, g5, g6⟩ := hgi.1 h9; omega))); have hE := congrArg (fun (q1 : Bool) => (dv (.bool q1) : AV)) e1; exact hE) rfl rfl rfl rfl rfl trivial
    · refine xR [hY 4 (decide_eq_false hq1),
        hY 5 (decide_eq_false hq1),
        hY 6 (decide_eq_false hq1),
        hP 7 (decide_eq_false hq1),
        hY 9 (decide_eq_false hq2),
        hY 10 (decide_eq_false hq2),
        hY 11 (decide_eq_false hq2),
        hY 12 (decide_eq_false hq2),
        hP 13 (decide_eq_false hq2)] (by kernel_rfl) (by kernel_rfl) ?_
      refine nT ?_
      by_cases hq3 : ((a.f_Text.length : Nat) : Int) > 32
      · refine T.condT (by kernel_rfl) (decide_eq_true hq3) ?_
        refine T.seq ?_
        refine xR [] (by kernel_rfl) (by kernel_rfl) ?_
        refine nT ?_
        refine T.ret ?_
        refine rT ?_
        exact tE (.inl rfl) [.t 2 (.one (.d (.val (.bool false))))] ⟨⟨rfl, by kernel_rfl⟩, trivial⟩ [] (by have e1 : ((decide (goodV a)) : Bool) = false := (by (exact decide_eq_false (fun h9 => by obtain ⟨g1, g2, g3, g4, g5, g6⟩ := hgi.1 h9; omega))); have hE := congrArg (fun (q1 : Bool) => (dv (.bool q1) : AV)) e1; exact hE) rfl rfl rfl rfl rfl trivial
      · refine T.condF (by kernel_rfl) (decide_eq_false hq3) ?_
        refine T.skip ?_
        refine nT ?_
        refine T.seq ?_
        refine T.seq ?_
        by_cases hq4 : a.f_Kind ≠ 1
        · by_cases hq5 : a.f_Int ≠ 0
          · refine xR [hY 4 (decide_eq_true hq4),
              hY 5 (decide_eq_true hq4),
              hY 6 (decide_eq_true hq4),
              hP 7 (decide_eq_true hq4),
              hN 9 false (decide_eq_true hq5),
              hN 10 false (decide_eq_true hq5),
              hN 11 false (decide_eq_true hq5),
              hN 12 false (decide_eq_true hq5),
              hU 13,
              hU 14,
              hN 15 false (decide_eq_true hq5),
              hP 16 (decide_eq_true hq5),
              hN 18 (b := true) false rfl,
              hN 19 (b := true) false rfl,
              hN 20 (b := true) false rfl,
              hN 21 (b := true) false rfl,
              hU 22,
              hU 23,
              hU 24,
              hN 25 (b := true) false rfl,
              hP 26 (b := true) (w := true) rfl] (by kernel_rfl) (by kernel_rfl) ?_
            refine nT ?_
            refine T.condT (b := true) (by kernel_rfl) rfl ?_
            refine T.seq ?_
            refine xR [] (by kernel_rfl) (by kernel_rfl) ?_
            refine nT ?_
            refine T.ret ?_
            refine rT ?_
            exact tE (.inl rfl) [.t 2 (.one (.d (.val (.bool false))))] ⟨⟨rfl, by kernel_rfl⟩, trivial⟩ [] (by have e1 : ((decide (goodV a)) : Bool) = false := (by (exact decide_eq_false (fun h9 => by obtain ⟨g1, g2, g3, g4, g5, g6⟩ := hgi.1 h9; omega))); have hE := congrArg (fun (q1 : Bool) => (dv (.bool q1) : AV)) e1; exact hE) rfl rfl rfl rfl rfl trivial
          · by_cases hq6 : a.f_Kind ≠ 2
            · by_cases hq7 : a.f_Bool = true
              · refine xR [hY 4 (decide_eq_true hq4),
                  hY 5 (decide_eq_true hq4),
                  hY 6 (decide_eq_true hq4),
                  hP 7 (decide_eq_true hq4),
                  hY 9 (decide_eq_false hq5),
                  hY 10 (decide_eq_false hq5),
                  hY 11 (decide_eq_false hq5),
                  hY 12 (decide_eq_false hq5),
                  hY 13 (decide_eq_true hq6),
                  hY 14 (decide_eq_true hq6),
                  hS 15 (oY rfl rfl rfl rfl (lt_of rfl) (decide_eq_false hq5) (r_pickT (b := (decide (a.f_Kind ≠ 2))) (av := dv (.bool a.f_Bool)) (lt_of rfl) trivial (decide_eq_true hq6))),
                  hP 16 (decide_eq_false hq5),
                  hN 18 false hq7,
                  hN 19 false hq7,
                  hN 20 false hq7,
                  hN 21 false hq7,
                  hU 22,
                  hU 23,
                  hU 24,
                  hN 25 false hq7,
                  hP 26 hq7] (by kernel_rfl) (by kernel_rfl) ?_
                refine nT ?_
                refine T.condT (b := true) (by kernel_rfl) rfl ?_
                refine T.seq ?_
                refine xR [] (by kernel_rfl) (by kernel_rfl) ?_
                refine nT ?_
                refine T.ret ?_
                refine rT ?_
                exact tE (.inl rfl) [.t 2 (.one (.d (.val (.bool false))))] ⟨⟨rfl, by kernel_rfl⟩, trivial⟩ [] (by have e1 : ((decide (goodV a)) : Bool) = false := (by (exact decide_eq_false (fun h9 => by obtain ⟨g1, g2, g3, g4, g5, g6⟩ := hgi.1 h9; simp_all))); have hE := congrArg (fun (q1 : Bool) => (dv (.bool q1) : AV)) e1; exact hE) rfl rfl rfl rfl rfl trivial
              · replace hq7 := Bool.eq_false_iff.2 hq7
                by_cases hq8 : a.f_Kind ≠ 3
                · refine xR [hY 4 (decide_eq_true hq4),
                    hY 5 (decide_eq_true hq4),
                    hY 6 (decide_eq_true hq4),
                    hP 7 (decide_eq_true hq4),
                    hY 9 (decide_eq_false hq5),
                    hY 10 (decide_eq_false hq5),
                    hY 11 (decide_eq_false hq5),
                    hY 12 (decide_eq_false hq5),
                    hY 13 (decide_eq_true hq6),
                    hY 14 (decide_eq_true hq6),
                    hS 15 (oY rfl rfl rfl rfl (lt_of rfl) (decide_eq_false hq5) (r_pickT (b := (decide (a.f_Kind ≠ 2))) (av := dv (.bool a.f_Bool)) (lt_of rfl) trivial (decide_eq_true hq6))),
                    hP 16 (decide_eq_false hq5),
                    hY 18 hq7,
                    hY 19 hq7,
                    hY 20 hq7,
                    hY 21 hq7,
                    hY 22 (decide_eq_true hq8),
                    hY 23 (decide_eq_true hq8),
                    hY 24 (decide_eq_true hq8),
                    hS 25 (oY rfl rfl rfl rfl (lt_of rfl) hq7 (r_pickT (b := (decide (a.f_Kind ≠ 3))) (av := dv (.bool (decide (a.f_Text ≠ [])))) (lt_of rfl) trivial (decide_eq_true hq8))),
                    hP 26 hq7] (by kernel_rfl) (by kernel_rfl) ?_
                  refine nT ?_
                  by_cases hq9 : a.f_Text ≠ []
                  · refine T.condT (by kernel_rfl) (decide_eq_true hq9) ?_
                    refine T.seq ?_
                    refine xR [] (by kernel_rfl) (by kernel_rfl) ?_
                    refine nT ?_
                    refine T.ret ?_
                    refine rT ?_
                    exact tE (.inl rfl) [.t 2 (.one (.d (.val (.bool false))))] ⟨⟨rfl, by kernel_rfl⟩, trivial⟩ [] (by have e1 : ((decide (goodV a)) : Bool) = false := (by (exact decide_eq_false (fun h9 => by obtain ⟨g1, g2, g3, g4, g5, g6⟩ := hgi.1 h9; simp_all))); have hE := congrArg (fun (q1 : Bool) => (dv (.bool q1) : AV)) e1; exact hE) rfl rfl rfl rfl rfl trivial
                  · refine T.condF (by kernel_rfl) (decide_eq_false hq9) ?_
                    refine T.skip ?_
                    refine nT ?_
                    refine T.seq ?_
                    by_cases hq10 : a.f_Kind = 4
                    · refine xR [hN 4 false (decide_eq_true hq10),
                        hN 5 false (decide_eq_true hq10),
                        hN 6 false (decide_eq_true hq10),
                        hN 7 false (decide_eq_true hq10),
                        hP 8 (decide_eq_true hq10)] (by kernel_rfl) (by kernel_rfl) ?_
                      refine nT ?_
                      refine T.ret ?_
                      exact tE (.inl rfl) [.t 2 (.one (.d (.val (.bool true))))] ⟨⟨rfl, by kernel_rfl⟩, trivial⟩ [] (by have e1 : ((decide (goodV a)) : Bool) = true := (by (exact decide_eq_true (hgi.2 ⟨by omega, by omega, by (right; omega), by simp_all, by simp_all, by (left; assumption)⟩))); have hE := congrArg (fun (q1 : Bool) => (dv (.bool q1) : AV)) e1; exact hE) rfl rfl rfl rfl rfl trivial
                    · refine xR [hY 4 (decide_eq_false hq10),
                        hY 5 (decide_eq_false hq10),
                        hS 6 (oY rfl rfl rfl rfl (lt_of rfl) (decide_eq_false hq10) (r_call (ref01_Bits a.f_Num ) Try.func48 rfl (by decide) [] [] (l := [(.tmp 49, dv (.float .f64 a.f_Num))]) [] rfl 0 0 rfl rfl rfl rfl rfl rfl rfl rfl rfl ⟨.inl ⟨rfl, rfl⟩, trivial⟩ rfl (fun b hb => by cases hb) (.inl rfl) (lt_of rfl) trivial)),
                        hY 7 (decide_eq_false hq10),
                        hP 8 (decide_eq_false hq10)] (by kernel_rfl) (by kernel_rfl) ?_
                      refine nT ?_
                      refine T.ret ?_
                      exact tE (.inl rfl) [.t 2 (.one (.d (.val (.bool (decide (((bitsF a.f_Num : Nat) : Int) = 0))))))] ⟨⟨rfl, by kernel_rfl⟩, trivial⟩ [] (by have e1 : ((decide (goodV a)) : Bool) = (decide (((bitsF a.f_Num : Nat) : Int) = 0)) := (by (exact decide_eq_decide.2 ⟨fun h9 => by obtain ⟨g1, g2, g3, g4, g5, g6⟩ := hgi.1 h9; simp_all, fun h9 => hgi.2 ⟨by omega, by omega, by (left; omega), by (left; omega), by (left; omega), .inr h9⟩⟩)); have hE := congrArg (fun (q1 : Bool) => (dv (.bool q1) : AV)) e1; exact hE) rfl rfl rfl rfl rfl trivial
                · refine xR [hY 4 (decide_eq_true hq4),
                    hY 5 (decide_eq_true hq4),
                    hY 6 (decide_eq_true hq4),
                    hP 7 (decide_eq_true hq4),
                    hY 9 (decide_eq_false hq5),
                    hY 10 (decide_eq_false hq5),
                    hY 11 (decide_eq_false hq5),
                    hY 12 (decide_eq_false hq5),
                    hY 13 (decide_eq_true hq6),
                    hY 14 (decide_eq_true hq6),
                    hS 15 (oY rfl rfl rfl rfl (lt_of rfl) (decide_eq_false hq5) (r_pickT (b := (decide (a.f_Kind ≠ 2))) (av := dv (.bool a.f_Bool)) (lt_of rfl) trivial (decide_eq_true hq6))),
                    hP 16 (decide_eq_false hq5),
                    hY 18 hq7,
                    hY 19 hq7,
                    hY 20 hq7,
                    hY 21 hq7,
                    hN 22 true (decide_eq_false hq8),
                    hN 23 true (decide_eq_false hq8),
                    hN 24 true (decide_eq_false hq8),
                    hS 25 (oY rfl rfl rfl rfl (lt_of rfl) hq7 (r_pickF (b := (decide (a.f_Kind ≠ 3))) (av := dv (.bool false)) (lt_of rfl) ⟨rfl, trivial⟩ (decide_eq_false hq8))),
                    hP 26 hq7] (by kernel_rfl) (by kernel_rfl) ?_
                  refine nT ?_
                  refine T.condF (b := false) (by kernel_rfl) rfl ?_
                  refine T.skip ?_
                  refine nT ?_
                  refine T.seq ?_
                  by_cases hq11 : a.f_Kind = 4
                  · refine xR [hN 4 false (decide_eq_true hq11),
                      hN 5 false (decide_eq_true hq11),
                      hN 6 false (decide_eq_true hq11),
                      hN 7 false (decide_eq_true hq11),
                      hP 8 (decide_eq_true hq11)] (by kernel_rfl) (by kernel_rfl) ?_
                    refine nT ?_
                    refine T.ret ?_
                    exact tE (.inl rfl) [.t 2 (.one (.d (.val (.bool true))))] ⟨⟨rfl, by kernel_rfl⟩, trivial⟩ [] (by have e1 : ((decide (goodV a)) : Bool) = true := (by (exact decide_eq_true (hgi.2 ⟨by omega, by omega, by (left; omega), by (left; omega), by (left; omega), by (left; assumption)⟩))); have hE := congrArg (fun (q1 : Bool) => (dv (.bool q1) : AV)) e1; exact hE) rfl rfl rfl rfl rfl trivial
                  · refine xR [hY 4 (decide_eq_false hq11),
                      hY 5 (decide_eq_false hq11),
                      hS 6 (oY rfl rfl rfl rfl (lt_of rfl) (decide_eq_false hq11) (r_call (ref01_Bits a.f_Num ) Try.func48 rfl (by decide) [] [] (l := [(.tmp 49, dv (.float .f64 a.f_Num))]) [] rfl 0 0 rfl rfl rfl rfl rfl rfl rfl rfl rfl ⟨.inl ⟨rfl, rfl⟩, trivial⟩ rfl (fun b hb => by cases hb) (.inl rfl) (lt_of rfl) trivial)),
                      hY 7 (decide_eq_false hq11),
                      hP 8 (decide_eq_false hq11)] (by kernel_rfl) (by kernel_rfl) ?_
                    refine nT ?_
                    refine T.ret ?_
                    exact tE (.inl rfl) [.t 2 (.one (.d (.val (.bool (decide (((bitsF a.f_Num : Nat) : Int) = 0))))))] ⟨⟨rfl, by kernel_rfl⟩, trivial⟩ [] (by have e1 : ((decide (goodV a)) : Bool) = (decide (((bitsF a.f_Num : Nat) : Int) = 0)) := (by (exact decide_eq_decide.2 ⟨fun h9 => by obtain ⟨g1, g2, g3, g4, g5, g6⟩ := hgi.1 h9; simp_all, fun h9 => hgi.2 ⟨by omega, by omega, by simp_all, by simp_all, by (left; omega), .inr h9⟩⟩)); have hE := congrArg (fun (q1 : Bool) => (dv (.bool q1) : AV)) e1; exact hE) rfl rfl rfl rfl rfl trivial
            · by_cases hq12 : a.f_Kind ≠ 3
              · refine xR [hY 4 (decide_eq_true hq4),
                  hY 5 (decide_eq_true hq4),
                  hY 6 (decide_eq_true hq4),
                  hP 7 (decide_eq_true hq4),
                  hY 9 (decide_eq_false hq5),
                  hY 10 (decide_eq_false hq5),
                  hY 11 (decide_eq_false hq5),
                  hY 12 (decide_eq_false hq5),
                  hN 13 true (decide_eq_false hq6),
                  hN 14 true (decide_eq_false hq6),
                  hS 15 (oY rfl rfl rfl rfl (lt_of rfl) (decide_eq_false hq5) (r_pickF (b := (decide (a.f_Kind ≠ 2))) (av := dv (.bool false)) (lt_of rfl) ⟨rfl, trivial⟩ (decide_eq_false hq6))),
                  hP 16 (decide_eq_false hq5),
                  hY 18 (b := false) (w := false) rfl,
                  hY 19 (b := false) (w := false) rfl,
                  hY 20 (b := false) (w := false) rfl,
                  hY 21 (b := false) (w := false) rfl,
                  hY 22 (decide_eq_true hq12),
                  hY 23 (decide_eq_true hq12),
                  hY 24 (decide_eq_true hq12),
                  hS 25 (oY (b := false) rfl rfl rfl rfl (lt_of rfl) rfl (r_pickT (b := (decide (a.f_Kind ≠ 3))) (av := dv (.bool (decide (a.f_Text ≠ [])))) (lt_of rfl) trivial (decide_eq_true hq12))),
                  hP 26 (b := false) (w := false) rfl] (by kernel_rfl) (by kernel_rfl) ?_
                refine nT ?_
                by_cases hq13 : a.f_Text ≠ []
                · refine T.condT (by kernel_rfl) (decide_eq_true hq13) ?_
                  refine T.seq ?_
                  refine xR [] (by kernel_rfl) (by kernel_rfl) ?_
                  refine nT ?_
                  refine T.ret ?_
                  refine rT ?_
                  exact tE (.inl rfl) [.t 2 (.one (.d (.val (.bool false))))] ⟨⟨rfl, by kernel_rfl⟩, trivial⟩ [] (by have e1 : ((decide (goodV a)) : Bool) = false := (by (exact decide_eq_false (fun h9 => by obtain ⟨g1, g2, g3, g4, g5, g6⟩ := hgi.1 h9; simp_all))); have hE := congrArg (fun (q1 : Bool) => (dv (.bool q1) : AV)) e1; exact hE) rfl rfl rfl rfl rfl trivial
                · refine T.condF (by kernel_rfl) (decide_eq_false hq13) ?_
                  refine T.skip ?_
                  refine nT ?_
                  refine T.seq ?_
                  by_cases hq14 : a.f_Kind = 4
                  · refine xR [hN 4 false (decide_eq_true hq14),
                      hN 5 false (decide_eq_true hq14),
                      hN 6 false (decide_eq_true hq14),
                      hN 7 false (decide_eq_true hq14),
                      hP 8 (decide_eq_true hq14)] (by kernel_rfl) (by kernel_rfl) ?_
                    refine nT ?_
                    refine T.ret ?_
                    exact tE (.inl rfl) [.t 2 (.one (.d (.val (.bool true))))] ⟨⟨rfl, by kernel_rfl⟩, trivial⟩ [] (by have e1 : ((decide (goodV a)) : Bool) = true := (by (exact decide_eq_true (hgi.2 ⟨by omega, by omega, by (left; omega), by (left; omega), by (left; omega), by (left; assumption)⟩))); have hE := congrArg (fun (q1 : Bool) => (dv (.bool q1) : AV)) e1; exact hE) rfl rfl rfl rfl rfl trivial
                  · refine xR [hY 4 (decide_eq_false hq14),
                      hY 5 (decide_eq_false hq14),
                      hS 6 (oY rfl rfl rfl rfl (lt_of rfl) (decide_eq_false hq14) (r_call (ref01_Bits a.f_Num ) Try.func48 rfl (by decide) [] [] (l := [(.tmp 49, dv (.float .f64 a.f_Num))]) [] rfl 0 0 rfl rfl rfl rfl rfl rfl rfl rfl rfl ⟨.inl ⟨rfl, rfl⟩, trivial⟩ rfl (fun b hb => by cases hb) (.inl rfl) (lt_of rfl) trivial)),
                      hY 7 (decide_eq_false hq14),
                      hP 8 (decide_eq_false hq14)] (by kernel_rfl) (by kernel_rfl) ?_
                    refine nT ?_
                    refine T.ret ?_
                    exact tE (.inl rfl) [.t 2 (.one (.d (.val (.bool (decide (((bitsF a.f_Num : Nat) : Int) = 0))))))] ⟨⟨rfl, by kernel_rfl⟩, trivial⟩ [] (by have e1 : ((decide (goodV a)) : Bool) = (decide (((bitsF a.f_Num : Nat) : Int) = 0)) := (by (exact decide_eq_decide.2 ⟨fun h9 => by obtain ⟨g1, g2, g3, g4, g5, g6⟩ := hgi.1 h9; simp_all, fun h9 => hgi.2 ⟨by omega, by omega, by simp_all, by (left; omega), by simp_all, .inr h9⟩⟩)); have hE := congrArg (fun (q1 : Bool) => (dv (.bool q1) : AV)) e1; exact hE) rfl rfl rfl rfl rfl trivial
              · refine xR [hY 4 (decide_eq_true hq4),
                  hY 5 (decide_eq_true hq4),
                  hY 6 (decide_eq_true hq4),
                  hP 7 (decide_eq_true hq4),
                  hY 9 (decide_eq_false hq5),
                  hY 10 (decide_eq_false hq5),
                  hY 11 (decide_eq_false hq5),
                  hY 12 (decide_eq_false hq5),
                  hN 13 true (decide_eq_false hq6),
                  hN 14 true (decide_eq_false hq6),
                  hS 15 (oY rfl rfl rfl rfl (lt_of rfl) (decide_eq_false hq5) (r_pickF (b := (decide (a.f_Kind ≠ 2))) (av := dv (.bool false)) (lt_of rfl) ⟨rfl, trivial⟩ (decide_eq_false hq6))),
                  hP 16 (decide_eq_false hq5),
                  hY 18 (b := false) (w := false) rfl,
                  hY 19 (b := false) (w := false) rfl,
                  hY 20 (b := false) (w := false) rfl,
                  hY 21 (b := false) (w := false) rfl,
                  hN 22 true (decide_eq_false hq12),
                  hN 23 true (decide_eq_false hq12),
                  hN 24 true (decide_eq_false hq12),
                  hS 25 (oY (b := false) rfl rfl rfl rfl (lt_of rfl) rfl (r_pickF (b := (decide (a.f_Kind ≠ 3))) (av := dv (.bool false)) (lt_of rfl) ⟨rfl, trivial⟩ (decide_eq_false hq12))),
                  hP 26 (b := false) (w := false) rfl] (by kernel_rfl) (by kernel_rfl) ?_
                refine nT ?_
                refine T.condF (b := false) (by kernel_rfl) rfl ?_
                refine T.skip ?_
                refine nT ?_
                refine T.seq ?_
                by_cases hq15 : a.f_Kind = 4
                · refine xR [hN 4 false (decide_eq_true hq15),
                    hN 5 false (decide_eq_true hq15),
                    hN 6 false (decide_eq_true hq15),
                    hN 7 false (decide_eq_true hq15),
                    hP 8 (decide_eq_true hq15)] (by kernel_rfl) (by kernel_rfl) ?_
                  refine nT ?_
                  refine T.ret ?_
                  exact tE (.inl rfl) [.t 2 (.one (.d (.val (.bool true))))] ⟨⟨rfl, by kernel_rfl⟩, trivial⟩ [] (by have e1 : ((decide (goodV a)) : Bool) = true := (by (exact decide_eq_true (hgi.2 ⟨by omega, by omega, by (left; omega), by (left; omega), by (left; omega), by (left; assumption)⟩))); have hE := congrArg (fun (q1 : Bool) => (dv (.bool q1) : AV)) e1; exact hE) rfl rfl rfl rfl rfl trivial
                · refine xR [hY 4 (decide_eq_false hq15),
                    hY 5 (decide_eq_false hq15),
                    hS 6 (oY rfl rfl rfl rfl (lt_of rfl) (decide_eq_false hq15) (r_call (ref01_Bits a.f_Num ) Try.func48 rfl (by decide) [] [] (l := [(.tmp 49, dv (.float .f64 a.f_Num))]) [] rfl 0 0 rfl rfl rfl rfl rfl rfl rfl rfl rfl ⟨.inl ⟨rfl, rfl⟩, trivial⟩ rfl (fun b hb => by cases hb) (.inl rfl) (lt_of rfl) trivial)),
                    hY 7 (decide_eq_false hq15),
                    hP 8 (decide_eq_false hq15)] (by kernel_rfl) (by kernel_rfl) ?_
                  refine nT ?_
                  refine T.ret ?_
                  exact tE (.inl rfl) [.t 2 (.one (.d (.val (.bool (decide (((bitsF a.f_Num : Nat) : Int) = 0))))))] ⟨⟨rfl, by kernel_rfl⟩, trivial⟩ [] (by have e1 : ((decide (goodV a)) : Bool) = (decide (((bitsF a.f_Num : Nat) : Int) = 0)) := (by (exact decide_eq_decide.2 ⟨fun h9 => by obtain ⟨g1, g2, g3, g4, g5, g6⟩ := hgi.1 h9; simp_all, fun h9 => hgi.2 ⟨by omega, by omega, by (left; omega), by (left; omega), by (left; omega), .inr h9⟩⟩)); have hE := congrArg (fun (q1 : Bool) => (dv (.bool q1) : AV)) e1; exact hE) rfl rfl rfl rfl rfl trivial
        · by_cases hq16 : a.f_Kind ≠ 2
          · by_cases hq17 : a.f_Bool = true
            · refine xR [hN 4 true (decide_eq_false hq4),
                hN 5 true (decide_eq_false hq4),
                hN 6 true (decide_eq_false hq4),
                hP 7 (decide_eq_false hq4),
                hY 9 (b := false) (w := false) rfl,
                hY 10 (b := false) (w := false) rfl,
                hY 11 (b := false) (w := false) rfl,
                hY 12 (b := false) (w := false) rfl,
                hY 13 (decide_eq_true hq16),
                hY 14 (decide_eq_true hq16),
                hS 15 (oY (b := false) rfl rfl rfl rfl (lt_of rfl) rfl (r_pickT (b := (decide (a.f_Kind ≠ 2))) (av := dv (.bool a.f_Bool)) (lt_of rfl) trivial (decide_eq_true hq16))),
                hP 16 (b := false) (w := false) rfl,
                hN 18 false hq17,
                hN 19 false hq17,
                hN 20 false hq17,
                hN 21 false hq17,
                hU 22,
                hU 23,
                hU 24,
                hN 25 false hq17,
                hP 26 hq17] (by kernel_rfl) (by kernel_rfl) ?_
              refine nT ?_
              refine T.condT (b := true) (by kernel_rfl) rfl ?_
              refine T.seq ?_
              refine xR [] (by kernel_rfl) (by kernel_rfl) ?_
              refine nT ?_
              refine T.ret ?_
              refine rT ?_
              exact tE (.inl rfl) [.t 2 (.one (.d (.val (.bool false))))] ⟨⟨rfl, by kernel_rfl⟩, trivial⟩ [] (by have e1 : ((decide (goodV a)) : Bool) = false := (by (exact decide_eq_false (fun h9 => by obtain ⟨g1, g2, g3, g4, g5, g6⟩ := hgi.1 h9; simp_all))); have hE := congrArg (fun (q1 : Bool) => (dv (.bool q1) : AV)) e1; exact hE) rfl rfl rfl rfl rfl trivial
            · replace hq17 := Bool.eq_false_iff.2 hq17
              by_cases hq18 : a.f_Kind ≠ 3
              · refine xR [hN 4 true (decide_eq_false hq4),
                  hN 5 true (decide_eq_false hq4),
                  hN 6 true (decide_eq_false hq4),
                  hP 7 (decide_eq_false hq4),
                  hY 9 (b := false) (w := false) rfl,
                  hY 10 (b := false) (w := false) rfl,
                  hY 11 (b := false) (w := false) rfl,
                  hY 12 (b := false) (w := false) rfl,
                  hY 13 (decide_eq_true hq16),
                  hY 14 (decide_eq_true hq16),
                  hS 15 (oY (b := false) rfl rfl rfl rfl (lt_of rfl) rfl (r_pickT (b := (decide (a.f_Kind ≠ 2))) (av := dv (.bool a.f_Bool)) (lt_of rfl) trivial (decide_eq_true hq16))),
                  hP 16 (b := false) (w := false) rfl,
                  hY 18 hq17,
                  hY 19 hq17,
                  hY 20 hq17,
                  hY 21 hq17,
                  hY 22 (decide_eq_true hq18),
                  hY 23 (decide_eq_true hq18),
                  hY 24 (decide_eq_true hq18),
                  hS 25 (oY rfl rfl rfl rfl (lt_of rfl) hq17 (r_pickT (b := (decide (a.f_Kind ≠ 3))) (av := dv (.bool (decide (a.f_Text ≠ [])))) (lt_of rfl) trivial (decide_eq_true hq18))),
                  hP 26 hq17] (by kernel_rfl) (by kernel_rfl) ?_
                refine nT ?_
                by_cases hq19 : a.f_Text ≠ []
                · refine T.condT (by kernel_rfl) (decide_eq_true hq19) ?_
                  refine T.seq ?_
                  refine xR [] (by kernel_rfl) (by kernel_rfl) ?_
                  refine nT ?_
                  refine T.ret ?_
                  refine rT ?_
                  exact tE (.inl rfl) [.t 2 (.one (.d (.val (.bool false))))] ⟨⟨rfl, by kernel_rfl⟩, trivial⟩ [] (by have e1 : ((decide (goodV a)) : Bool) = false := (by (exact decide_eq_false (fun h9 => by obtain ⟨g1, g2, g3, g4, g5, g6⟩ := hgi.1 h9; simp_all))); have hE := congrArg (fun (q1 : Bool) => (dv (.bool q1) : AV)) e1; exact hE) rfl rfl rfl rfl rfl trivial
                · refine T.condF (by kernel_rfl) (decide_eq_false hq19) ?_
                  refine T.skip ?_
                  refine nT ?_
                  refine T.seq ?_
                  by_cases hq20 : a.f_Kind = 4
                  · refine xR [hN 4 false (decide_eq_true hq20),
                      hN 5 false (decide_eq_true hq20),
                      hN 6 false (decide_eq_true hq20),
                      hN 7 false (decide_eq_true hq20),
                      hP 8 (decide_eq_true hq20)] (by kernel_rfl) (by kernel_rfl) ?_
                    refine nT ?_
                    refine T.ret ?_
                    exact tE (.inl rfl) [.t 2 (.one (.d (.val (.bool true))))] ⟨⟨rfl, by kernel_rfl⟩, trivial⟩ [] (by have e1 : ((decide (goodV a)) : Bool) = true := (by (exact decide_eq_true (hgi.2 ⟨by omega, by omega, by (left; omega), by (left; omega), by (left; omega), by (left; assumption)⟩))); have hE := congrArg (fun (q1 : Bool) => (dv (.bool q1) : AV)) e1; exact hE) rfl rfl rfl rfl rfl trivial
                  · refine xR [hY 4 (decide_eq_false hq20),
                      hY 5 (decide_eq_false hq20),
                      hS 6 (oY rfl rfl rfl rfl (lt_of rfl) (decide_eq_false hq20) (r_call (ref01_Bits a.f_Num ) Try.func48 rfl (by decide) [] [] (l := [(.tmp 49, dv (.float .f64 a.f_Num))]) [] rfl 0 0 rfl rfl rfl rfl rfl rfl rfl rfl rfl ⟨.inl ⟨rfl, rfl⟩, trivial⟩ rfl (fun b hb => by cases hb) (.inl rfl) (lt_of rfl) trivial)),
                      hY 7 (decide_eq_false hq20),
                      hP 8 (decide_eq_false hq20)] (by kernel_rfl) (by kernel_rfl) ?_
                    refine nT ?_
                    refine T.ret ?_
                    exact tE (.inl rfl) [.t 2 (.one (.d (.val (.bool (decide (((bitsF a.f_Num : Nat) : Int) = 0))))))] ⟨⟨rfl, by kernel_rfl⟩, trivial⟩ [] (by have e1 : ((decide (goodV a)) : Bool) = (decide (((bitsF a.f_Num : Nat) : Int) = 0)) := (by (exact decide_eq_decide.2 ⟨fun h9 => by obtain ⟨g1, g2, g3, g4, g5, g6⟩ := hgi.1 h9; simp_all, fun h9 => hgi.2 ⟨by omega, by omega, by (left; omega), by simp_all, by simp_all, .inr h9⟩⟩)); have hE := congrArg (fun (q1 : Bool) => (dv (.bool q1) : AV)) e1; exact hE) rfl rfl rfl rfl rfl trivial
              · refine xR [hN 4 true (decide_eq_false hq4),
                  hN 5 true (decide_eq_false hq4),
                  hN 6 true (decide_eq_false hq4),
                  hP 7 (decide_eq_false hq4),
                  hY 9 (b := false) (w := false) rfl,
                  hY 10 (b := false) (w := false) rfl,
                  hY 11 (b := false) (w := false) rfl,
                  hY 12 (b := false) (w := false) rfl,
                  hY 13 (decide_eq_true hq16),
                  hY 14 (decide_eq_true hq16),
                  hS 15 (oY (b := false) rfl rfl rfl rfl (lt_of rfl) rfl (r_pickT (b := (decide (a.f_Kind ≠ 2))) (av := dv (.bool a.f_Bool)) (lt_of rfl) trivial (decide_eq_true hq16))),
                  hP 16 (b := false) (w := false) rfl,
                  hY 18 hq17,
                  hY 19 hq17,
                  hY 20 hq17,
                  hY 21 hq17,
                  hN 22 true (decide_eq_false hq18),
                  hN 23 true (decide_eq_false hq18),
                  hN 24 true (decide_eq_false hq18),
                  hS 25 (oY rfl rfl rfl rfl (lt_of rfl) hq17 (r_pickF (b := (decide (a.f_Kind ≠ 3))) (av := dv (.bool false)) (lt_of rfl) ⟨rfl, trivial⟩ (decide_eq_false hq18))),
                  hP 26 hq17] (by kernel_rfl) (by kernel_rfl) ?_
                refine nT ?_
                refine T.condF (b := false) (by kernel_rfl) rfl ?_
                refine T.skip ?_
                refine nT ?_
                refine T.seq ?_
                by_cases hq21 : a.f_Kind = 4
                · refine xR [hN 4 false (decide_eq_true hq21),
                    hN 5 false (decide_eq_true hq21),
                    hN 6 false (decide_eq_true hq21),
                    hN 7 false (decide_eq_true hq21),
                    hP 8 (decide_eq_true hq21)] (by kernel_rfl) (by kernel_rfl) ?_
                  refine nT ?_
                  refine T.ret ?_
                  exact tE (.inl rfl) [.t 2 (.one (.d (.val (.bool true))))] ⟨⟨rfl, by kernel_rfl⟩, trivial⟩ [] (by have e1 : ((decide (goodV a)) : Bool) = true := (by (exact decide_eq_true (hgi.2 ⟨by omega, by omega, by (left; omega), by (left; omega), by (left; omega), by (left; assumption)⟩))); have hE := congrArg (fun (q1 : Bool) => (dv (.bool q1) : AV)) e1; exact hE) rfl rfl rfl rfl rfl trivial
                · refine xR [hY 4 (decide_eq_false hq21),
                    hY 5 (decide_eq_false hq21),
                    hS 6 (oY rfl rfl rfl rfl (lt_of rfl) (decide_eq_false hq21) (r_call (ref01_Bits a.f_Num ) Try.func48 rfl (by decide) [] [] (l := [(.tmp 49, dv (.float .f64 a.f_Num))]) [] rfl 0 0 rfl rfl rfl rfl rfl rfl rfl rfl rfl ⟨.inl ⟨rfl, rfl⟩, trivial⟩ rfl (fun b hb => by cases hb) (.inl rfl) (lt_of rfl) trivial)),
                    hY 7 (decide_eq_false hq21),
                    hP 8 (decide_eq_false hq21)] (by kernel_rfl) (by kernel_rfl) ?_
                  refine nT ?_
                  refine T.ret ?_
                  exact tE (.inl rfl) [.t 2 (.one (.d (.val (.bool (decide (((bitsF a.f_Num : Nat) : Int) = 0))))))] ⟨⟨rfl, by kernel_rfl⟩, trivial⟩ [] (by have e1 : ((decide (goodV a)) : Bool) = (decide (((bitsF a.f_Num : Nat) : Int) = 0)) := (by (exact decide_eq_decide.2 ⟨fun h9 => by obtain ⟨g1, g2, g3, g4, g5, g6⟩ := hgi.1 h9; simp_all, fun h9 => hgi.2 ⟨by omega, by omega, by (left; omega), by (left; omega), by (left; omega), .inr h9⟩⟩)); have hE := congrArg (fun (q1 : Bool) => (dv (.bool q1) : AV)) e1; exact hE) rfl rfl rfl rfl rfl trivial
          · by_cases hq22 : a.f_Kind ≠ 3
            · refine xR [hN 4 true (decide_eq_false hq4),
                hN 5 true (decide_eq_false hq4),
                hN 6 true (decide_eq_false hq4),
                hP 7 (decide_eq_false hq4),
                hY 9 (b := false) (w := false) rfl,
                hY 10 (b := false) (w := false) rfl,
                hY 11 (b := false) (w := false) rfl,
                hY 12 (b := false) (w := false) rfl,
                hN 13 true (decide_eq_false hq16),
                hN 14 true (decide_eq_false hq16),
                hS 15 (oY (b := false) rfl rfl rfl rfl (lt_of rfl) rfl (r_pickF (b := (decide (a.f_Kind ≠ 2))) (av := dv (.bool false)) (lt_of rfl) ⟨rfl, trivial⟩ (decide_eq_false hq16))),
                hP 16 (b := false) (w := false) rfl,
                hY 18 (b := false) (w := false) rfl,
                hY 19 (b := false) (w := false) rfl,
                hY 20 (b := false) (w := false) rfl,
                hY 21 (b := false) (w := false) rfl,
                hY 22 (decide_eq_true hq22),
                hY 23 (decide_eq_true hq22),
                hY 24 (decide_eq_true hq22),
                hS 25 (oY (b := false) rfl rfl rfl rfl (lt_of rfl) rfl (r_pickT (b := (decide (a.f_Kind ≠ 3))) (av := dv (.bool (decide (a.f_Text ≠ [])))) (lt_of rfl) trivial (decide_eq_true hq22))),
                hP 26 (b := false) (w := false) rfl] (by kernel_rfl) (by kernel_rfl) ?_
              refine nT ?_
              by_cases hq23 : a.f_Text ≠ []
              · refine T.condT (by kernel_rfl) (decide_eq_true hq23) ?_
                refine T.seq ?_
                refine xR [] (by kernel_rfl) (by kernel_rfl) ?_
                refine nT ?_
                refine T.ret ?_
                refine rT ?_
                exact tE (.inl rfl) [.t 2 (.one (.d (.val (.bool false))))] ⟨⟨rfl, by kernel_rfl⟩, trivial⟩ [] (by have e1 : ((decide (goodV a)) : Bool) = false := (by (exact decide_eq_false (fun h9 => by obtain ⟨g1, g2, g3, g4, g5, g6⟩ := hgi.1 h9; omega))); have hE := congrArg (fun (q1 : Bool) => (dv (.bool q1) : AV)) e1; exact hE) rfl rfl rfl rfl rfl trivial
              · refine T.condF (by kernel_rfl) (decide_eq_false hq23) ?_
                refine T.skip ?_
                refine nT ?_
                refine T.seq ?_
                by_cases hq24 : a.f_Kind = 4
                · refine xR [hN 4 false (decide_eq_true hq24),
                    hN 5 false (decide_eq_true hq24),
                    hN 6 false (decide_eq_true hq24),
                    hN 7 false (decide_eq_true hq24),
                    hP 8 (decide_eq_true hq24)] (by kernel_rfl) (by kernel_rfl) ?_
                  refine nT ?_
                  refine T.ret ?_
                  exact tE (.inl rfl) [.t 2 (.one (.d (.val (.bool true))))] ⟨⟨rfl, by kernel_rfl⟩, trivial⟩ [] (by have e1 : ((decide (goodV a)) : Bool) = true := (by (exact decide_eq_true (hgi.2 ⟨by omega, by omega, by (left; omega), by (left; omega), by (left; omega), by (left; assumption)⟩))); have hE := congrArg (fun (q1 : Bool) => (dv (.bool q1) : AV)) e1; exact hE) rfl rfl rfl rfl rfl trivial
                · refine xR [hY 4 (decide_eq_false hq24),
                    hY 5 (decide_eq_false hq24),
                    hS 6 (oY rfl rfl rfl rfl (lt_of rfl) (decide_eq_false hq24) (r_call (ref01_Bits a.f_Num ) Try.func48 rfl (by decide) [] [] (l := [(.tmp 49, dv (.float .f64 a.f_Num))]) [] rfl 0 0 rfl rfl rfl rfl rfl rfl rfl rfl rfl ⟨.inl ⟨rfl, rfl⟩, trivial⟩ rfl (fun b hb => by cases hb) (.inl rfl) (lt_of rfl) trivial)),
                    hY 7 (decide_eq_false hq24),
                    hP 8 (decide_eq_false hq24)] (by kernel_rfl) (by kernel_rfl) ?_
                  refine nT ?_
                  refine T.ret ?_
                  exact tE (.inl rfl) [.t 2 (.one (.d (.val (.bool (decide (((bitsF a.f_Num : Nat) : Int) = 0))))))] ⟨⟨rfl, by kernel_rfl⟩, trivial⟩ [] (by have e1 : ((decide (goodV a)) : Bool) = (decide (((bitsF a.f_Num : Nat) : Int) = 0)) := (by (exact decide_eq_decide.2 ⟨fun h9 => by obtain ⟨g1, g2, g3, g4, g5, g6⟩ := hgi.1 h9; simp_all, fun h9 => hgi.2 ⟨by omega, by omega, by (left; omega), by (left; omega), by (left; omega), .inr h9⟩⟩)); have hE := congrArg (fun (q1 : Bool) => (dv (.bool q1) : AV)) e1; exact hE) rfl rfl rfl rfl rfl trivial
            · refine xR [hN 4 true (decide_eq_false hq4),
                hN 5 true (decide_eq_false hq4),
                hN 6 true (decide_eq_false hq4),
                hP 7 (decide_eq_false hq4),
                hY 9 (b := false) (w := false) rfl,
                hY 10 (b := false) (w := false) rfl,
                hY 11 (b := false) (w := false) rfl,
                hY 12 (b := false) (w := false) rfl,
                hN 13 true (decide_eq_false hq16),
                hN 14 true (decide_eq_false hq16),
                hS 15 (oY (b := false) rfl rfl rfl rfl (lt_of rfl) rfl (r_pickF (b := (decide (a.f_Kind ≠ 2))) (av := dv (.bool false)) (lt_of rfl) ⟨rfl, trivial⟩ (decide_eq_false hq16))),
                hP 16 (b := false) (w := false) rfl,
                hY 18 (b := false) (w := false) rfl,
                hY 19 (b := false) (w := false) rfl,
                hY 20 (b := false) (w := false) rfl,
                hY 21 (b := false) (w := false) rfl,
                hN 22 true (decide_eq_false hq22),
                hN 23 true (decide_eq_false hq22),
                hN 24 true (decide_eq_false hq22),
                hS 25 (oY (b := false) rfl rfl rfl rfl (lt_of rfl) rfl (r_pickF (b := (decide (a.f_Kind ≠ 3))) (av := dv (.bool false)) (lt_of rfl) ⟨rfl, trivial⟩ (decide_eq_false hq22))),
                hP 26 (b := false) (w := false) rfl] (by kernel_rfl) (by kernel_rfl) ?_
              refine nT ?_
              refine T.condF (b := false) (by kernel_rfl) rfl ?_
              refine T.skip ?_
              refine nT ?_
              refine T.seq ?_
              by_cases hq25 : a.f_Kind = 4
              · refine xR [hN 4 false (decide_eq_true hq25),
                  hN 5 false (decide_eq_true hq25),
                  hN 6 false (decide_eq_true hq25),
                  hN 7 false (decide_eq_true hq25),
                  hP 8 (decide_eq_true hq25)] (by kernel_rfl) (by kernel_rfl) ?_
                refine nT ?_
                refine T.ret ?_
                exact tE (.inl rfl) [.t 2 (.one (.d (.val (.bool true))))] ⟨⟨rfl, by kernel_rfl⟩, trivial⟩ [] (by have e1 : ((decide (goodV a)) : Bool) = true := (by (exact decide_eq_true (hgi.2 ⟨by omega, by omega, by (left; omega), by (left; omega), by (left; omega), by (left; assumption)⟩))); have hE := congrArg (fun (q1 : Bool) => (dv (.bool q1) : AV)) e1; exact hE) rfl rfl rfl rfl rfl trivial
              · refine xR [hY 4 (decide_eq_false hq25),
                  hY 5 (decide_eq_false hq25),
                  hS 6 (oY rfl rfl rfl rfl (lt_of rfl) (decide_eq_false hq25) (r_call (ref01_Bits a.f_Num ) Try.func48 rfl (by decide) [] [] (l := [(.tmp 49, dv (.float .f64 a.f_Num))]) [] rfl 0 0 rfl rfl rfl rfl rfl rfl rfl rfl rfl ⟨.inl ⟨rfl, rfl⟩, trivial⟩ rfl (fun b hb => by cases hb) (.inl rfl) (lt_of rfl) trivial)),
                  hY 7 (decide_eq_false hq25),
                  hP 8 (decide_eq_false hq25)] (by kernel_rfl) (by kernel_rfl) ?_
                refine nT ?_
                refine T.ret ?_
                exact tE (.inl rfl) [.t 2 (.one (.d (.val (.bool (decide (((bitsF a.f_Num : Nat) : Int) = 0))))))] ⟨⟨rfl, by kernel_rfl⟩, trivial⟩ [] (by have e1 : ((decide (goodV a)) : Bool) = (decide (((bitsF a.f_Num : Nat) : Int) = 0)) := (by (exact decide_eq_decide.2 ⟨fun h9 => by obtain ⟨g1, g2, g3, g4, g5, g6⟩ := hgi.1 h9; simp_all, fun h9 => hgi.2 ⟨by omega, by omega, by (left; omega), by (left; omega), by (left; omega), .inr h9⟩⟩)); have hE := congrArg (fun (q1 : Bool) => (dv (.bool q1) : AV)) e1; exact hE) rfl rfl rfl rfl rfl trivial
end Go.Proofs.Ytlabmehgcfgigaa.Q
namespace Go.Proofs.Ytlabmehgcfgigaa.Q
open Go Go.RowKit
set_option linter.unusedVariables false
set_option linter.unusedSimpArgs false
set_option maxRecDepth 100000
set_option maxHeartbeats 4000000
-- quaestor/value.both
theorem value_both (a : api_Value) (b : api_Value) : Holds Try.prog 51 ⟨[.tv (.agg [.d (.val (.int .i64 a.f_Kind)), .d (.val (.int .i64 a.f_Int)), .d (.val (.bool a.f_Bool)), .d (.val (strV a.f_Text)), .d (.val (.float .f64 a.f_Num))]), .tv (.agg [.d (.val (.int .i64 b.f_Kind)), .d (.val (.int .i64 b.f_Int)), .d (.val (.bool b.f_Bool)), .d (.val (strV b.f_Text)), .d (.val (.float .f64 b.f_Num))])], [], dv (.bool (decide (bothV a b))), []⟩ := by
  refine Holds.of Try.func51 rfl (N := 18) Try.ntmps51 rfl fun w0 B0 S0 U0 => ?_
  show T _ (mkBase 18 0 w0 S0 U0 B0) ⟨[.tv (.agg [.d (.val (.int .i64 a.f_Kind)), .d (.val (.int .i64 a.f_Int)), .d (.val (.bool a.f_Bool)), .d (.val (strV a.f_Text)), .d (.val (.float .f64 a.f_Num))]), .tv (.agg [.d (.val (.int .i64 b.f_Kind)), .d (.val (.int .i64 b.f_Int)), .d (.val (.bool b.f_Bool)), .d (.val (strV b.f_Text)), .d (.val (.float .f64 b.f_Num))])], []⟩ _ _
  refine T.seq ?_
  refine xR [] (by kernel_rfl) (by kernel_rfl) ?_
  refine nT ?_
  refine T.seq ?_
  by_cases hq1 : goodV a
  · by_cases hq2 : goodV b
    · refine xR [hR 1 rfl rfl (r_call (value_Good a ) Try.func31 rfl (by decide) [] [] (l := [(.tmp 5, .tv (.agg [.d (.val (.int .i64 a.f_Kind)), .d (.val (.int .i64 a.f_Int)), .d (.val (.bool a.f_Bool)), .d (.val (strV a.f_Text)), .d (.val (.float .f64 a.f_Num))]))]) [] rfl 0 0 rfl rfl rfl rfl rfl rfl rfl rfl rfl ⟨⟨.inl ⟨rfl, rfl⟩, ⟨.inl ⟨rfl, rfl⟩, ⟨.inl ⟨rfl, rfl⟩, ⟨.inl ⟨rfl, rfl⟩, ⟨.inl ⟨rfl, rfl⟩, trivial⟩⟩⟩⟩⟩, trivial⟩ rfl (fun b hb => by cases hb) (.inl rfl) (lt_of rfl) trivial),
        hY 3 (decide_eq_true hq1),
        hS 4 (oY rfl rfl rfl rfl (lt_of rfl) (decide_eq_true hq1) (r_call (value_Good b ) Try.func31 rfl (by decide) [] [] (l := [(.tmp 8, .tv (.agg [.d (.val (.int .i64 b.f_Kind)), .d (.val (.int .i64 b.f_Int)), .d (.val (.bool b.f_Bool)), .d (.val (strV b.f_Text)), .d (.val (.float .f64 b.f_Num))]))]) [] rfl 0 0 rfl rfl rfl rfl rfl rfl rfl rfl rfl ⟨⟨.inl ⟨rfl, rfl⟩, ⟨.inl ⟨rfl, rfl⟩, ⟨.inl ⟨rfl, rfl⟩, ⟨.inl ⟨rfl, rfl⟩, ⟨.inl ⟨rfl, rfl⟩, trivial⟩⟩⟩⟩⟩, trivial⟩ rfl (fun b hb => by cases hb) (.inl rfl) (lt_of rfl) trivial)),
        hP 5 (decide_eq_true hq1),
        hY 7 (decide_eq_true hq2),
        hY 8 (decide_eq_true hq2),
        hY 9 (decide_eq_true hq2),
        hY 10 (decide_eq_true hq2),
        hY 11 (decide_eq_true hq2),
        hP 12 (decide_eq_true hq2)] (by kernel_rfl) (by kernel_rfl) ?_
      refine nT ?_
      refine T.ret ?_
      exact tE (.inl rfl) [.t 4 (.one (.d (.val (.bool (decide (a.f_Kind = b.f_Kind))))))] ⟨⟨rfl, by kernel_rfl⟩, trivial⟩ [] (by have e1 : ((decide (bothV a b)) : Bool) = (decide (a.f_Kind = b.f_Kind)) := (by (exact decide_eq_decide.2 ⟨fun h9 => h9.2.2, fun h9 => ⟨by assumption, by assumption, h9⟩⟩)); have hE := congrArg (fun (q1 : Bool) => (dv (.bool q1) : AV)) e1; exact hE) rfl rfl rfl rfl rfl trivial
    · refine xR [hR 1 rfl rfl (r_call (value_Good a ) Try.func31 rfl (by decide) [] [] (l := [(.tmp 5, .tv (.agg [.d (.val (.int .i64 a.f_Kind)), .d (.val (.int .i64 a.f_Int)), .d (.val (.bool a.f_Bool)), .d (.val (strV a.f_Text)), .d (.val (.float .f64 a.f_Num))]))]) [] rfl 0 0 rfl rfl rfl rfl rfl rfl rfl rfl rfl ⟨⟨.inl ⟨rfl, rfl⟩, ⟨.inl ⟨rfl, rfl⟩, ⟨.inl ⟨rfl, rfl⟩, ⟨.inl ⟨rfl, rfl⟩, ⟨.inl ⟨rfl, rfl⟩, trivial⟩⟩⟩⟩⟩, trivial⟩ rfl (fun b hb => by cases hb) (.inl rfl) (lt_of rfl) trivial),
        hY 3 (decide_eq_true hq1),
        hS 4 (oY rfl rfl rfl rfl (lt_of rfl) (decide_eq_true hq1) (r_call (value_Good b ) Try.func31 rfl (by decide) [] [] (l := [(.tmp 8, .tv (.agg [.d (.val (.int .i64 b.f_Kind)), .d (.val (.int .i64 b.f_Int)), .d (.val (.bool b.f_Bool)), .d (.val (strV b.f_Text)), .d (.val (.float .f64 b.f_Num))]))]) [] rfl 0 0 rfl rfl rfl rfl rfl rfl rfl rfl rfl ⟨⟨.inl ⟨rfl, rfl⟩, ⟨.inl ⟨rfl, rfl⟩, ⟨.inl ⟨rfl, rfl⟩, ⟨.inl ⟨rfl, rfl⟩, ⟨.inl ⟨rfl, rfl⟩, trivial⟩⟩⟩⟩⟩, trivial⟩ rfl (fun b hb => by cases hb) (.inl rfl) (lt_of rfl) trivial)),
        hP 5 (decide_eq_true hq1),
        hN 7 true (decide_eq_false hq2),
        hN 8 true (decide_eq_false hq2),
        hN 9 true (decide_eq_false hq2),
        hN 10 true (decide_eq_false hq2),
        hN 11 true (decide_eq_false hq2),
        hP 12 (decide_eq_false hq2)] (by kernel_rfl) (by kernel_rfl) ?_
      refine nT ?_
      refine T.ret ?_
      exact tE (.inl rfl) [.t 4 (.one (.d (.val (.bool false))))] ⟨⟨rfl, by kernel_rfl⟩, trivial⟩ [] (by have e1 : ((decide (bothV a b)) : Bool) = false := (by (exact decide_eq_false (fun h9 => absurd h9.2.1 (by assumption)))); have hE := congrArg (fun (q1 : Bool) => (dv (.bool q1) : AV)) e1; exact hE) rfl rfl rfl rfl rfl trivial
  · refine xR [hR 1 rfl rfl (r_call (value_Good a ) Try.func31 rfl (by decide) [] [] (l := [(.tmp 5, .tv (.agg [.d (.val (.int .i64 a.f_Kind)), .d (.val (.int .i64 a.f_Int)), .d (.val (.bool a.f_Bool)), .d (.val (strV a.f_Text)), .d (.val (.float .f64 a.f_Num))]))]) [] rfl 0 0 rfl rfl rfl rfl rfl rfl rfl rfl rfl ⟨⟨.inl ⟨rfl, rfl⟩, ⟨.inl ⟨rfl, rfl⟩, ⟨.inl ⟨rfl, rfl⟩, ⟨.inl ⟨rfl, rfl⟩, ⟨.inl ⟨rfl, rfl⟩, trivial⟩⟩⟩⟩⟩, trivial⟩ rfl (fun b hb => by cases hb) (.inl rfl) (lt_of rfl) trivial),
      hN 3 true (decide_eq_false hq1),
      hN 4 true (decide_eq_false hq1),
      hP 5 (decide_eq_false hq1),
      hN 7 (b := false) true rfl,
      hN 8 (b := false) true rfl,
      hN 9 (b := false) true rfl,
      hN 10 (b := false) true rfl,
      hN 11 (b := false) true rfl,
      hP 12 (b := false) (w := false) rfl] (by kernel_rfl) (by kernel_rfl) ?_
    refine nT ?_
    refine T.ret ?_
    exact tE (.inl rfl) [.t 4 (.one (.d (.val (.bool false))))] ⟨⟨rfl, by kernel_rfl⟩, trivial⟩ [] (by have e1 : ((decide (bothV a b)) : Bool) = false := (by (exact decide_eq_false (fun h9 => absurd h9.1 (by assumption)))); have hE := congrArg (fun (q1 : Bool) => (dv (.bool q1) : AV)) e1; exact hE) rfl rfl rfl rfl rfl trivial
end Go.Proofs.Ytlabmehgcfgigaa.Q
namespace Go.Proofs.Ytlabmehgcfgigaa.Q
open Go Go.RowKit
set_option linter.unusedVariables false
set_option linter.unusedSimpArgs false
set_option maxRecDepth 100000
set_option maxHeartbeats 4000000
-- quaestor/value.Equal
theorem value_Equal (a : api_Value) (b : api_Value) : Holds Try.prog 26 ⟨[.tv (.agg [.d (.val (.int .i64 a.f_Kind)), .d (.val (.int .i64 a.f_Int)), .d (.val (.bool a.f_Bool)), .d (.val (strV a.f_Text)), .d (.val (.float .f64 a.f_Num))]), .tv (.agg [.d (.val (.int .i64 b.f_Kind)), .d (.val (.int .i64 b.f_Int)), .d (.val (.bool b.f_Bool)), .d (.val (strV b.f_Text)), .d (.val (.float .f64 b.f_Num))])], [], .tup [.one (.d (.val (.bool (eqV a b)))), .one (.d (.val (.int .i64 (eqE a b))))], []⟩ := by
  refine Holds.of Try.func26 rfl (N := 13) Try.ntmps26 rfl fun w0 B0 S0 U0 => ?_
  show T _ (mkBase 13 0 w0 S0 U0 B0) ⟨[.tv (.agg [.d (.val (.int .i64 a.f_Kind)), .d (.val (.int .i64 a.f_Int)), .d (.val (.bool a.f_Bool)), .d (.val (strV a.f_Text)), .d (.val (.float .f64 a.f_Num))]), .tv (.agg [.d (.val (.int .i64 b.f_Kind)), .d (.val (.int .i64 b.f_Int)), .d (.val (.bool b.f_Bool)), .d (.val (strV b.f_Text)), .d (.val (.float .f64 b.f_Num))])], []⟩ _ _
  refine T.seq ?_
  refine xR [] (by kernel_rfl) (by kernel_rfl) ?_
  refine nT ?_
  refine T.seq ?_
  refine T.seq ?_
  refine xR [hR 2 rfl rfl (r_call (value_both a b ) Try.func51 rfl (by decide) [] [] (l := [(.tmp 6, .tv (.agg [.d (.val (.int .i64 a.f_Kind)), .d (.val (.int .i64 a.f_Int)), .d (.val (.bool a.f_Bool)), .d (.val (strV a.f_Text)), .d (.val (.float .f64 a.f_Num))])), (.tmp 7, .tv (.agg [.d (.val (.int .i64 b.f_Kind)), .d (.val (.int .i64 b.f_Int)), .d (.val (.bool b.f_Bool)), .d (.val (strV b.f_Text)), .d (.val (.float .f64 b.f_Num))]))]) [] rfl 0 0 rfl rfl rfl rfl rfl rfl rfl rfl rfl ⟨⟨.inl ⟨rfl, rfl⟩, ⟨.inl ⟨rfl, rfl⟩, ⟨.inl ⟨rfl, rfl⟩, ⟨.inl ⟨rfl, rfl⟩, ⟨.inl ⟨rfl, rfl⟩, trivial⟩⟩⟩⟩⟩, ⟨⟨.inl ⟨rfl, rfl⟩, ⟨.inl ⟨rfl, rfl⟩, ⟨.inl ⟨rfl, rfl⟩, ⟨.inl ⟨rfl, rfl⟩, ⟨.inl ⟨rfl, rfl⟩, trivial⟩⟩⟩⟩⟩, trivial⟩⟩ rfl (fun b hb => by cases hb) (.inl rfl) (lt_of rfl) trivial)] (by kernel_rfl) (by kernel_rfl) ?_
  refine nT ?_
  by_cases hq1 : bothV a b
  · refine T.condF (by kernel_rfl) (congrArg Bool.not (decide_eq_true hq1)) ?_
    refine T.skip ?_
    refine nT ?_
    refine T.seq ?_
    refine xR [hR 2 rfl rfl (r_eqStF (ax := .tv (.agg [.d (.val (.int .i64 a.f_Kind)), .d (.val (.int .i64 a.f_Int)), .d (.val (.bool a.f_Bool)), .d (.val (strV a.f_Text)), .d (.val (.float .f64 a.f_Num))])) (ay := .tv (.agg [.d (.val (.int .i64 b.f_Kind)), .d (.val (.int .i64 b.f_Int)), .d (.val (.bool b.f_Bool)), .d (.val (strV b.f_Text)), .d (.val (.float .f64 b.f_Num))])) (a := a) (b := b) seqF_24 ⟨[.int .i64 a.f_Kind, .int .i64 a.f_Int, .bool a.f_Bool, strV a.f_Text, .float .f64 a.f_Num], rfl, rfl⟩ ⟨[.int .i64 b.f_Kind, .int .i64 b.f_Int, .bool b.f_Bool, strV b.f_Text, .float .f64 b.f_Num], rfl, rfl⟩ (lt_of rfl) trivial)] (by kernel_rfl) (by kernel_rfl) ?_
    refine nT ?_
    refine T.ret ?_
    exact tE (.inl rfl) [.t 4 (.one (.d (.val (.bool (eqS_api_Value a b))))), .t 5 (.one (.d (.val (.int .i64 0))))] ⟨⟨rfl, by kernel_rfl⟩, ⟨⟨rfl, by kernel_rfl⟩, trivial⟩⟩ [] (by have e1 : ((eqV a b) : Bool) = (eqS_api_Value a b) := (by (exact (if_pos (by assumption)))); have e2 : (eqE a b : Int) = 0 := (by (exact (if_pos (by assumption)))); have hE := congr (congrArg (fun (q1 : Bool) (q2 : Int) => (.tup [.one (.d (.val (.bool q1))), .one (.d (.val (.int .i64 q2)))] : AV)) e1) e2; exact hE) rfl rfl rfl rfl rfl trivial
  · refine T.condT (by kernel_rfl) (congrArg Bool.not (decide_eq_false hq1)) ?_
    refine T.seq ?_
    refine xR [] (by kernel_rfl) (by kernel_rfl) ?_
    refine nT ?_
    refine T.ret ?_
    refine rT ?_
    exact tE (.inl rfl) [.t 4 (.one (.d (.val (.bool false)))), .t 5 (.one (.d (.val (.int .i64 40))))] ⟨⟨rfl, by kernel_rfl⟩, ⟨⟨rfl, by kernel_rfl⟩, trivial⟩⟩ [] (by have e1 : ((eqV a b) : Bool) = false := (by (exact (if_neg (by assumption)))); have e2 : (eqE a b : Int) = 40 := (by (exact (if_neg (by assumption)))); have hE := congr (congrArg (fun (q1 : Bool) (q2 : Int) => (.tup [.one (.d (.val (.bool q1))), .one (.d (.val (.int .i64 q2)))] : AV)) e1) e2; exact hE) rfl rfl rfl rfl rfl trivial
end Go.Proofs.Ytlabmehgcfgigaa.Q
namespace Go.Proofs.Ytlabmehgcfgigaa.Q
open Go Go.RowKit
set_option linter.unusedVariables false
set_option linter.unusedSimpArgs false
set_option maxRecDepth 100000
set_option maxHeartbeats 4000000
-- cmp.isNaN[int]
theorem cmp_isNaN_int (a : Int) : Holds Try.prog 80 ⟨[dv (.int .i64 a)], [], dv (.bool false), []⟩ := by
  refine Holds.of Try.func80 rfl (N := 6) Try.ntmps80 rfl fun w0 B0 S0 U0 => ?_
  show T _ (mkBase 6 0 w0 S0 U0 B0) ⟨[dv (.int .i64 a)], []⟩ _ _
  refine T.seq ?_
  refine xR [] (by kernel_rfl) (by kernel_rfl) ?_
  refine nT ?_
  refine T.seq ?_
  refine xR [] (by kernel_rfl) (by kernel_rfl) ?_
  refine nT ?_
  refine T.ret ?_
  exact tE (.inl rfl) [.t 2 (.one (.d (.val (.bool (decide (a ≠ a))))))] ⟨⟨rfl, by kernel_rfl⟩, trivial⟩ [] (by have e1 : (false : Bool) = (decide (a ≠ a)) := (by (simp; done)); have hE := congrArg (fun (q1 : Bool) => (dv (.bool q1) : AV)) e1; exact hE) rfl rfl rfl rfl rfl trivial
end Go.Proofs.Ytlabmehgcfgigaa.Q
namespace Go.Proofs.Ytlabmehgcfgigaa.Q
open Go Go.RowKit
set_option linter.unusedVariables false
set_option linter.unusedSimpArgs false
set_option maxRecDepth 100000
set_option maxHeartbeats 4000000
-- cmp.Compare[int]
theorem cmp_Compare_int (a : Int) (b : Int) : Holds Try.prog 42 ⟨[dv (.int .i64 a), dv (.int .i64 b)], [], dv (.int .i64 (cmpI a b)), []⟩ := by
  refine Holds.of Try.func42 rfl (N := 20) Try.ntmps42 rfl fun w0 B0 S0 U0 => ?_
  show T _ (mkBase 20 0 w0 S0 U0 B0) ⟨[dv (.int .i64 a), dv (.int .i64 b)], []⟩ _ _
  refine T.seq ?_
  refine xR [] (by kernel_rfl) (by kernel_rfl) ?_
  refine nT ?_
  refine T.seq ?_
  refine xR [hR 1 rfl rfl (r_call (cmp_isNaN_int a ) Try.func80 rfl (by decide) [] [] (l := [(.tmp 7, dv (.int .i64 a))]) [] rfl 0 0 rfl rfl rfl rfl rfl rfl rfl rfl rfl ⟨.inl ⟨rfl, rfl⟩, trivial⟩ rfl (fun b hb => by cases hb) (.inl rfl) (lt_of rfl) trivial)] (by kernel_rfl) (by kernel_rfl) ?_
  refine nT ?_
  refine T.seq ?_
  refine xR [hR 1 rfl rfl (r_call (cmp_isNaN_int b ) Try.func80 rfl (by decide) [] [] (l := [(.tmp 9, dv (.int .i64 b))]) [] rfl 0 0 rfl rfl rfl rfl rfl rfl rfl rfl rfl ⟨.inl ⟨rfl, rfl⟩, trivial⟩ rfl (fun b hb => by cases hb) (.inl rfl) (lt_of rfl) trivial)] (by kernel_rfl) (by kernel_rfl) ?_
  refine nT ?_
  refine T.seq ?_
  refine T.seq ?_
  refine xR [] (by kernel_rfl) (by kernel_rfl) ?_
  refine nT ?_
  refine T.condF (b := false) (by kernel_rfl) rfl ?_
  refine T.skip ?_
  refine nT ?_
  refine T.seq ?_
  refine T.seq ?_
  refine xR [] (by kernel_rfl) (by kernel_rfl) ?_
  refine nT ?_
  refine T.condF (b := false) (by kernel_rfl) rfl ?_
  refine T.skip ?_
  refine nT ?_
  refine T.seq ?_
  refine T.seq ?_
  refine xR [] (by kernel_rfl) (by kernel_rfl) ?_
  refine nT ?_
  by_cases hq1 : a < b
  · refine T.condT (by kernel_rfl) (decide_eq_true hq1) ?_
    refine T.seq ?_
    refine xR [] (by kernel_rfl) (by kernel_rfl) ?_
    refine nT ?_
    refine T.ret ?_
    refine rT ?_
    exact tE (.inl rfl) [.t 4 (.one (.d (.val (.int .i64 (-1)))))] ⟨⟨rfl, by kernel_rfl⟩, trivial⟩ [] (by have e1 : (cmpI a b : Int) = (-1) := (by ((rw [cmpI, if_pos (by assumption)]))); have hE := congrArg (fun (q1 : Int) => (dv (.int .i64 q1) : AV)) e1; exact hE) rfl rfl rfl rfl rfl trivial
  · refine T.condF (by kernel_rfl) (decide_eq_false hq1) ?_
    refine T.skip ?_
    refine nT ?_
    refine T.seq ?_
    refine T.seq ?_
    refine xR [] (by kernel_rfl) (by kernel_rfl) ?_
    refine nT ?_
    by_cases hq2 : a > b
    · refine T.condT (by kernel_rfl) (decide_eq_true hq2) ?_
      refine T.seq ?_
      refine xR [] (by kernel_rfl) (by kernel_rfl) ?_
      refine nT ?_
      refine T.ret ?_
      refine rT ?_
      exact tE (.inl rfl) [.t 4 (.one (.d (.val (.int .i64 1))))] ⟨⟨rfl, by kernel_rfl⟩, trivial⟩ [] (by have e1 : (cmpI a b : Int) = 1 := (by ((rw [cmpI, if_neg (by assumption), if_pos (by assumption)]))); have hE := congrArg (fun (q1 : Int) => (dv (.int .i64 q1) : AV)) e1; exact hE) rfl rfl rfl rfl rfl trivial
    · refine T.condF (by kernel_rfl) (decide_eq_false hq2) ?_
      refine T.skip ?_
      refine nT ?_
      refine T.seq ?_
      refine xR [] (by kernel_rfl) (by kernel_rfl) ?_
      refine nT ?_
      refine T.ret ?_
      exact tE (.inl rfl) [.t 4 (.one (.d (.val (.int .i64 0))))] ⟨⟨rfl, by kernel_rfl⟩, trivial⟩ [] (by have e1 : (cmpI a b : Int) = 0 := (by ((rw [cmpI, if_neg (by assumption), if_neg (by assumption)]))); have hE := congrArg (fun (q1 : Int) => (dv (.int .i64 q1) : AV)) e1; exact hE) rfl rfl rfl rfl rfl trivial
end Go.Proofs.Ytlabmehgcfgigaa.Q
namespace Go.Proofs.Ytlabmehgcfgigaa.Q
open Go Go.RowKit
set_option linter.unusedVariables false
set_option linter.unusedSimpArgs false
set_option maxRecDepth 100000
set_option maxHeartbeats 4000000
-- cmp.isNaN[int64]
theorem cmp_isNaN_int64 (a : Int) : Holds Try.prog 81 ⟨[dv (.int .i64 a)], [], dv (.bool false), []⟩ := by
  refine Holds.of Try.func81 rfl (N := 6) Try.ntmps81 rfl fun w0 B0 S0 U0 => ?_
  show T _ (mkBase 6 0 w0 S0 U0 B0) ⟨[dv (.int .i64 a)], []⟩ _ _
  refine T.seq ?_
  refine xR [] (by kernel_rfl) (by kernel_rfl) ?_
  refine nT ?_
  refine T.seq ?_
  refine xR [] (by kernel_rfl) (by kernel_rfl) ?_
  refine nT ?_
  refine T.ret ?_
  exact tE (.inl rfl) [.t 2 (.one (.d (.val (.bool (decide (a ≠ a))))))] ⟨⟨rfl, by kernel_rfl⟩, trivial⟩ [] (by have e1 : (false : Bool) = (decide (a ≠ a)) := (by (simp; done)); have hE := congrArg (fun (q1 : Bool) => (dv (.bool q1) : AV)) e1; exact hE) rfl rfl rfl rfl rfl trivial
end Go.Proofs.Ytlabmehgcfgigaa.Q
namespace Go.Proofs.Ytlabmehgcfgigaa.Q
open Go Go.RowKit
set_option linter.unusedVariables false
set_option linter.unusedSimpArgs false
set_option maxRecDepth 100000
set_option maxHeartbeats 4000000
-- cmp.Compare[int64]
theorem cmp_Compare_int64 (a : Int) (b : Int) : Holds Try.prog 43 ⟨[dv (.int .i64 a), dv (.int .i64 b)], [], dv (.int .i64 (cmpI a b)), []⟩ := by
  refine Holds.of Try.func43 rfl (N := 20) Try.ntmps43 rfl fun w0 B0 S0 U0 => ?_
  show T _ (mkBase 20 0 w0 S0 U0 B0) ⟨[dv (.int .i64 a), dv (.int .i64 b)], []⟩ _ _
  refine T.seq ?_
  refine xR [] (by kernel_rfl) (by kernel_rfl) ?_
  refine nT ?_
  refine T.seq ?_
  refine xR [hR 1 rfl rfl (r_call (cmp_isNaN_int64 a ) Try.func81 rfl (by decide) [] [] (l := [(.tmp 7, dv (.int .i64 a))]) [] rfl 0 0 rfl rfl rfl rfl rfl rfl rfl rfl rfl ⟨.inl ⟨rfl, rfl⟩, trivial⟩ rfl (fun b hb => by cases hb) (.inl rfl) (lt_of rfl) trivial)] (by kernel_rfl) (by kernel_rfl) ?_
  refine nT ?_
  refine T.seq ?_
  refine xR [hR 1 rfl rfl (r_call (cmp_isNaN_int64 b ) Try.func81 rfl (by decide) [] [] (l := [(.tmp 9, dv (.int .i64 b))]) [] rfl 0 0 rfl rfl rfl rfl rfl rfl rfl rfl rfl ⟨.inl ⟨rfl, rfl⟩, trivial⟩ rfl (fun b hb => by cases hb) (.inl rfl) (lt_of rfl) trivial)] (by kernel_rfl) (by kernel_rfl) ?_
  refine nT ?_
  refine T.seq ?_
  refine T.seq ?_
  refine xR [] (by kernel_rfl) (by kernel_rfl) ?_
  refine nT ?_
  refine T.condF (b := false) (by kernel_rfl) rfl ?_
  refine T.skip ?_
  refine nT ?_
  refine T.seq ?_
  refine T.seq ?_
  refine xR [] (by kernel_rfl) (by kernel_rfl) ?_
  refine nT ?_
  refine T.condF (b := false) (by kernel_rfl) rfl ?_
  refine T.skip ?_
  refine nT ?_
  refine T.seq ?_
  refine T.seq ?_
  refine xR [] (by kernel_rfl) (by kernel_rfl) ?_
  refine nT ?_
  by_cases hq1 : a < b
  · refine T.condT (by kernel_rfl) (decide_eq_true hq1) ?_
    refine T.seq ?_
    refine xR [] (by kernel_rfl) (by kernel_rfl) ?_
    refine nT ?_
    refine T.ret ?_
    refine rT ?_
    exact tE (.inl rfl) [.t 4 (.one (.d (.val (.int .i64 (-1)))))] ⟨⟨rfl, by kernel_rfl⟩, trivial⟩ [] (by have e1 : (cmpI a b : Int) = (-1) := (by ((rw [cmpI, if_pos (by assumption)]))); have hE := congrArg (fun (q1 : Int) => (dv (.int .i64 q1) : AV)) e1; exact hE) rfl rfl rfl rfl rfl trivial
  · refine T.condF (by kernel_rfl) (decide_eq_false hq1) ?_
    refine T.skip ?_
    refine nT ?_
    refine T.seq ?_
    refine T.seq ?_
    refine xR [] (by kernel_rfl) (by kernel_rfl) ?_
    refine nT ?_
    by_cases hq2 : a > b
    · refine T.condT (by kernel_rfl) (decide_eq_true hq2) ?_
      refine T.seq ?_
      refine xR [] (by kernel_rfl) (by kernel_rfl) ?_
      refine nT ?_
      refine T.ret ?_
      refine rT ?_
      exact tE (.inl rfl) [.t 4 (.one (.d (.val (.int .i64 1))))] ⟨⟨rfl, by kernel_rfl⟩, trivial⟩ [] (by have e1 : (cmpI a b : Int) = 1 := (by ((rw [cmpI, if_neg (by assumption), if_pos (by assumption)]))); have hE := congrArg (fun (q1 : Int) => (dv (.int .i64 q1) : AV)) e1; exact hE) rfl rfl rfl rfl rfl trivial
    · refine T.condF (by kernel_rfl) (decide_eq_false hq2) ?_
      refine T.skip ?_
      refine nT ?_
      refine T.seq ?_
      refine xR [] (by kernel_rfl) (by kernel_rfl) ?_
      refine nT ?_
      refine T.ret ?_
      exact tE (.inl rfl) [.t 4 (.one (.d (.val (.int .i64 0))))] ⟨⟨rfl, by kernel_rfl⟩, trivial⟩ [] (by have e1 : (cmpI a b : Int) = 0 := (by ((rw [cmpI, if_neg (by assumption), if_neg (by assumption)]))); have hE := congrArg (fun (q1 : Int) => (dv (.int .i64 q1) : AV)) e1; exact hE) rfl rfl rfl rfl rfl trivial
end Go.Proofs.Ytlabmehgcfgigaa.Q
