import Derived.Test.YtlabmehgcfgigaaC04n7
namespace Go.Proofs.Ytlabmehgcfgigaa.Q
open Go Go.RowKit
set_option linter.unusedVariables false
set_option linter.unusedSimpArgs false
set_option maxRecDepth 100000
set_option maxHeartbeats 4000000
-- quaestor/value.ints
theorem value_ints (op : Int) (a : Int) (b : Int) (ha : inR a) (hb : inR b) (ho : okOp op) : Holds Try.prog 54 ⟨[dv (.int .i64 op), dv (.int .i64 a), dv (.int .i64 b)], [], .tup [.one (.d (.val (.int .i64 (intsN op a b)))), .one (.d (.val (.int .i64 (intsE op a b))))], []⟩ := by
  refine Holds.of Try.func54 rfl (N := 74) Try.ntmps54 rfl fun w0 B0 S0 U0 => ?_
  show T _ (mkBase 74 0 w0 S0 U0 B0) ⟨[dv (.int .i64 op), dv (.int .i64 a), dv (.int .i64 b)], []⟩ _ _
  refine T.seq ?_
  refine xR [] (by kernel_rfl) (by kernel_rfl) ?_
  refine nT ?_
  refine T.seq ?_
  refine xR [] (by kernel_rfl) (by kernel_rfl) ?_
  refine nT ?_
  refine T.seq ?_
  refine T.seq ?_
  refine xR [] (by kernel_rfl) (by kernel_rfl) ?_
  refine nT ?_
  refine T.block ?_
  refine T.seq ?_
  refine xR [] (by kernel_rfl) (by kernel_rfl) ?_
  refine nT ?_
  by_cases hq1 : op = 4
  · refine T.condT (by kernel_rfl) (decide_eq_true hq1) ?_
    refine T.seq ?_
    refine xR [hR 2 rfl rfl (r_bin (u1 := .int .i64 a) (u2 := .int .i64 b) (v := .int .i64 (IntKind.i64.wrap (a + b))) (b_add rfl) (lt_of rfl) trivial)] (by kernel_rfl) (by kernel_rfl) ?_
    refine nT ?_
    by_cases hq2 : (decide ((IntKind.i64.wrap (a + b)) > a)) = (decide (b > 0))
    · refine xR [hN 7 false (decide_eq_true hq2),
        hN 8 false (decide_eq_true hq2),
        hP 9 (decide_eq_true hq2)] (by kernel_rfl) (by kernel_rfl) ?_
      refine nB ?_
      refine nT ?_
      refine T.seq ?_
      refine T.seq ?_
      refine xR [] (by kernel_rfl) (by kernel_rfl) ?_
      refine nT ?_
      refine T.condF (b := (!true)) (by kernel_rfl) rfl ?_
      refine T.skip ?_
      refine nT ?_
      refine T.seq ?_
      refine xR [] (by kernel_rfl) (by kernel_rfl) ?_
      refine nT ?_
      refine T.ret ?_
      exact tE (.inl rfl) [.t 6 (.one (.d (.val (.int .i64 (IntKind.i64.wrap (a + b)))))), .t 7 (.one (.d (.val (.int .i64 0))))] ⟨⟨rfl, by kernel_rfl⟩, ⟨⟨rfl, by kernel_rfl⟩, trivial⟩⟩ [] (by have e1 : (intsN op a b : Int) = IntKind.i64.wrap (a + b) := (by ((have hop : op = 4 := (by assumption); subst hop; have hx9 := add_ok ha hb (by (left; assumption)); (have hr9 := res_yes hx9; have hs9 := ints_4 a b; (rw [hs9.1, hr9.1, wrap_of (by assumption)]))))); have e2 : (intsE op a b : Int) = 0 := (by ((have hop : op = 4 := (by assumption); subst hop; have hx9 := add_ok ha hb (by (left; assumption)); (have hr9 := res_yes hx9; have hs9 := ints_4 a b; exact hs9.2.trans hr9.2)))); have hE := congr (congrArg (fun (q1 : Int) (q2 : Int) => (.tup [.one (.d (.val (.int .i64 q1))), .one (.d (.val (.int .i64 q2)))] : AV)) e1) e2; exact hE) rfl rfl rfl rfl rfl trivial
    · refine xR [hY 7 (decide_eq_false hq2),
        hY 8 (decide_eq_false hq2),
        hP 9 (decide_eq_false hq2)] (by kernel_rfl) (by kernel_rfl) ?_
      refine nB ?_
      refine nT ?_
      refine T.seq ?_
      refine T.seq ?_
      refine xR [] (by kernel_rfl) (by kernel_rfl) ?_
      refine nT ?_
      by_cases hq3 : b = 0
      · refine T.condF (by kernel_rfl) (congrArg Bool.not (decide_eq_true hq3)) ?_
        refine T.skip ?_
        refine nT ?_
        refine T.seq ?_
        refine xR [] (by kernel_rfl) (by kernel_rfl) ?_
        refine nT ?_
        refine T.ret ?_
        exact tE (.inl rfl) [.t 6 (.one (.d (.val (.int .i64 (IntKind.i64.wrap (a + b)))))), .t 7 (.one (.d (.val (.int .i64 0))))] ⟨⟨rfl, by kernel_rfl⟩, ⟨⟨rfl, by kernel_rfl⟩, trivial⟩⟩ [] (by have e1 : (intsN op a b : Int) = IntKind.i64.wrap (a + b) := (by ((have hop : op = 4 := (by assumption); subst hop; have hx9 := add_ok ha hb (by (right; assumption)); (have hr9 := res_yes hx9; have hs9 := ints_4 a b; (rw [hs9.1, hr9.1, wrap_of (by assumption)]))))); have e2 : (intsE op a b : Int) = 0 := (by ((have hop : op = 4 := (by assumption); subst hop; have hx9 := add_ok ha hb (by (right; assumption)); (have hr9 := res_yes hx9; have hs9 := ints_4 a b; exact hs9.2.trans hr9.2)))); have hE := congr (congrArg (fun (q1 : Int) (q2 : Int) => (.tup [.one (.d (.val (.int .i64 q1))), .one (.d (.val (.int .i64 q2)))] : AV)) e1) e2; exact hE) rfl rfl rfl rfl rfl trivial
      · refine T.condT (by kernel_rfl) (congrArg Bool.not (decide_eq_false hq3)) ?_
        refine T.seq ?_
        refine xR [] (by kernel_rfl) (by kernel_rfl) ?_
        refine nT ?_
        refine T.ret ?_
        refine rT ?_
        exact tE (.inl rfl) [.t 6 (.one (.d (.val (.int .i64 0)))), .t 7 (.one (.d (.val (.int .i64 41))))] ⟨⟨rfl, by kernel_rfl⟩, ⟨⟨rfl, by kernel_rfl⟩, trivial⟩⟩ [] (by have e1 : (intsN op a b : Int) = 0 := (by ((have hop : op = 4 := (by assumption); subst hop; have hx9 := add_no ha hb (by assumption) (by assumption); (have hr9 := res_no hx9; have hs9 := ints_4 a b; exact hs9.1.trans hr9.1)))); have e2 : (intsE op a b : Int) = 41 := (by ((have hop : op = 4 := (by assumption); subst hop; have hx9 := add_no ha hb (by assumption) (by assumption); (have hr9 := res_no hx9; have hs9 := ints_4 a b; exact hs9.2.trans hr9.2)))); have hE := congr (congrArg (fun (q1 : Int) (q2 : Int) => (.tup [.one (.d (.val (.int .i64 q1))), .one (.d (.val (.int .i64 q2)))] : AV)) e1) e2; exact hE) rfl rfl rfl rfl rfl trivial
  · refine T.condF (by kernel_rfl) (decide_eq_false hq1) ?_
    refine T.seq ?_
    refine xR [] (by kernel_rfl) (by kernel_rfl) ?_
    refine nT ?_
    by_cases hq4 : op = 5
    · refine T.condT (by kernel_rfl) (decide_eq_true hq4) ?_
      refine T.seq ?_
      refine xR [hR 2 rfl rfl (r_bin (u1 := .int .i64 a) (u2 := .int .i64 b) (v := .int .i64 (IntKind.i64.wrap (a - b))) (b_sub rfl) (lt_of rfl) trivial)] (by kernel_rfl) (by kernel_rfl) ?_
      refine nT ?_
      by_cases hq5 : (decide ((IntKind.i64.wrap (a - b)) < a)) = (decide (b > 0))
      · refine xR [hN 7 false (decide_eq_true hq5),
          hN 8 false (decide_eq_true hq5),
          hP 9 (decide_eq_true hq5)] (by kernel_rfl) (by kernel_rfl) ?_
        refine nB ?_
        refine nT ?_
        refine T.seq ?_
        refine T.seq ?_
        refine xR [] (by kernel_rfl) (by kernel_rfl) ?_
        refine nT ?_
        refine T.condF (b := (!true)) (by kernel_rfl) rfl ?_
        refine T.skip ?_
        refine nT ?_
        refine T.seq ?_
        refine xR [] (by kernel_rfl) (by kernel_rfl) ?_
        refine nT ?_
        refine T.ret ?_
        exact tE (.inl rfl) [.t 6 (.one (.d (.val (.int .i64 (IntKind.i64.wrap (a - b)))))), .t 7 (.one (.d (.val (.int .i64 0))))] ⟨⟨rfl, by kernel_rfl⟩, ⟨⟨rfl, by kernel_rfl⟩, trivial⟩⟩ [] (by have e1 : (intsN op a b : Int) = IntKind.i64.wrap (a - b) := (by ((have hop : op = 5 := (by assumption); subst hop; have hx9 := sub_ok ha hb (by (left; assumption)); (have hr9 := res_yes hx9; have hs9 := ints_5 a b; (rw [hs9.1, hr9.1, wrap_of (by assumption)]))))); have e2 : (intsE op a b : Int) = 0 := (by ((have hop : op = 5 := (by assumption); subst hop; have hx9 := sub_ok ha hb (by (left; assumption)); (have hr9 := res_yes hx9; have hs9 := ints_5 a b; exact hs9.2.trans hr9.2)))); have hE := congr (congrArg (fun (q1 : Int) (q2 : Int) => (.tup [.one (.d (.val (.int .i64 q1))), .one (.d (.val (.int .i64 q2)))] : AV)) e1) e2; exact hE) rfl rfl rfl rfl rfl trivial
      · refine xR [hY 7 (decide_eq_false hq5),
          hY 8 (decide_eq_false hq5),
          hP 9 (decide_eq_false hq5)] (by kernel_rfl) (by kernel_rfl) ?_
        refine nB ?_
        refine nT ?_
        refine T.seq ?_
        refine T.seq ?_
        refine xR [] (by kernel_rfl) (by kernel_rfl) ?_
        refine nT ?_
        by_cases hq6 : b = 0
        · refine T.condF (by kernel_rfl) (congrArg Bool.not (decide_eq_true hq6)) ?_
          refine T.skip ?_
          refine nT ?_
          refine T.seq ?_
          refine xR [] (by kernel_rfl) (by kernel_rfl) ?_
          refine nT ?_
          refine T.ret ?_
          exact tE (.inl rfl) [.t 6 (.one (.d (.val (.int .i64 (IntKind.i64.wrap (a - b)))))), .t 7 (.one (.d (.val (.int .i64 0))))] ⟨⟨rfl, by kernel_rfl⟩, ⟨⟨rfl, by kernel_rfl⟩, trivial⟩⟩ [] (by have e1 : (intsN op a b : Int) = IntKind.i64.wrap (a - b) := (by ((have hop : op = 5 := (by assumption); subst hop; have hx9 := sub_ok ha hb (by (right; assumption)); (have hr9 := res_yes hx9; have hs9 := ints_5 a b; (rw [hs9.1, hr9.1, wrap_of (by assumption)]))))); have e2 : (intsE op a b : Int) = 0 := (by ((have hop : op = 5 := (by assumption); subst hop; have hx9 := sub_ok ha hb (by (right; assumption)); (have hr9 := res_yes hx9; have hs9 := ints_5 a b; exact hs9.2.trans hr9.2)))); have hE := congr (congrArg (fun (q1 : Int) (q2 : Int) => (.tup [.one (.d (.val (.int .i64 q1))), .one (.d (.val (.int .i64 q2)))] : AV)) e1) e2; exact hE) rfl rfl rfl rfl rfl trivial
        · refine T.condT (by kernel_rfl) (congrArg Bool.not (decide_eq_false hq6)) ?_
          refine T.seq ?_
          refine xR [] (by kernel_rfl) (by kernel_rfl) ?_
          refine nT ?_
          refine T.ret ?_
          refine rT ?_
          exact tE (.inl rfl) [.t 6 (.one (.d (.val (.int .i64 0)))), .t 7 (.one (.d (.val (.int .i64 41))))] ⟨⟨rfl, by kernel_rfl⟩, ⟨⟨rfl, by kernel_rfl⟩, trivial⟩⟩ [] (by have e1 : (intsN op a b : Int) = 0 := (by ((have hop : op = 5 := (by assumption); subst hop; have hx9 := sub_no ha hb (by assumption) (by assumption); (have hr9 := res_no hx9; have hs9 := ints_5 a b; exact hs9.1.trans hr9.1)))); have e2 : (intsE op a b : Int) = 41 := (by ((have hop : op = 5 := (by assumption); subst hop; have hx9 := sub_no ha hb (by assumption) (by assumption); (have hr9 := res_no hx9; have hs9 := ints_5 a b; exact hs9.2.trans hr9.2)))); have hE := congr (congrArg (fun (q1 : Int) (q2 : Int) => (.tup [.one (.d (.val (.int .i64 q1))), .one (.d (.val (.int .i64 q2)))] : AV)) e1) e2; exact hE) rfl rfl rfl rfl rfl trivial
    · refine T.condF (by kernel_rfl) (decide_eq_false hq4) ?_
      refine T.seq ?_
      refine xR [] (by kernel_rfl) (by kernel_rfl) ?_
      refine nT ?_
      by_cases hq7 : op = 6
      · refine T.condT (by kernel_rfl) (decide_eq_true hq7) ?_
        refine xR [hR 2 rfl rfl (r_call (value_product a b (by assumption) (by assumption)) Try.func86 rfl (by decide) [] [] (l := [(.tmp 43, dv (.int .i64 a)), (.tmp 44, dv (.int .i64 b))]) [] rfl 0 0 rfl rfl rfl rfl rfl rfl rfl rfl rfl ⟨.inl ⟨rfl, rfl⟩, ⟨.inl ⟨rfl, rfl⟩, trivial⟩⟩ rfl (fun b hb => by cases hb) (.inl rfl) (lt_of rfl) trivial)] (by kernel_rfl) (by kernel_rfl) ?_
        refine nB ?_
        refine nT ?_
        refine T.seq ?_
        refine T.seq ?_
        refine xR [] (by kernel_rfl) (by kernel_rfl) ?_
        refine nT ?_
        by_cases hq8 : inR (a * b)
        · refine T.condF (by kernel_rfl) (congrArg Bool.not (decide_eq_true hq8)) ?_
          refine T.skip ?_
          refine nT ?_
          refine T.seq ?_
          refine xR [] (by kernel_rfl) (by kernel_rfl) ?_
          refine nT ?_
          refine T.ret ?_
          exact tE (.inl rfl) [.t 6 (.one (.d (.val (.int .i64 (prodN a b))))), .t 7 (.one (.d (.val (.int .i64 0))))] ⟨⟨rfl, by kernel_rfl⟩, ⟨⟨rfl, by kernel_rfl⟩, trivial⟩⟩ [] (by have e1 : (intsN op a b : Int) = prodN a b := (by ((have hop : op = 6 := (by assumption); subst hop; have hx9 := (by assumption : inR (a * b)); (have hr9 := res_yes hx9; have hs9 := ints_6 a b; (rw [hs9.1, hr9.1]; exact (prod_eq (by assumption)).symm))))); have e2 : (intsE op a b : Int) = 0 := (by ((have hop : op = 6 := (by assumption); subst hop; have hx9 := (by assumption : inR (a * b)); (have hr9 := res_yes hx9; have hs9 := ints_6 a b; exact hs9.2.trans hr9.2)))); have hE := congr (congrArg (fun (q1 : Int) (q2 : Int) => (.tup [.one (.d (.val (.int .i64 q1))), .one (.d (.val (.int .i64 q2)))] : AV)) e1) e2; exact hE) rfl rfl rfl rfl rfl trivial
        · refine T.condT (by kernel_rfl) (congrArg Bool.not (decide_eq_false hq8)) ?_
          refine T.seq ?_
          refine xR [] (by kernel_rfl) (by kernel_rfl) ?_
          refine nT ?_
          refine T.ret ?_
          refine rT ?_
          exact tE (.inl rfl) [.t 6 (.one (.d (.val (.int .i64 0)))), .t 7 (.one (.d (.val (.int .i64 41))))] ⟨⟨rfl, by kernel_rfl⟩, ⟨⟨rfl, by kernel_rfl⟩, trivial⟩⟩ [] (by have e1 : (intsN op a b : Int) = 0 := (by ((have hop : op = 6 := (by assumption); subst hop; have hx9 := (by assumption : ¬ inR (a * b)); (have hr9 := res_no hx9; have hs9 := ints_6 a b; exact hs9.1.trans hr9.1)))); have e2 : (intsE op a b : Int) = 41 := (by ((have hop : op = 6 := (by assumption); subst hop; have hx9 := (by assumption : ¬ inR (a * b)); (have hr9 := res_no hx9; have hs9 := ints_6 a b; exact hs9.2.trans hr9.2)))); have hE := congr (congrArg (fun (q1 : Int) (q2 : Int) => (.tup [.one (.d (.val (.int .i64 q1))), .one (.d (.val (.int .i64 q2)))] : AV)) e1) e2; exact hE) rfl rfl rfl rfl rfl trivial
      · refine T.condF (by kernel_rfl) (decide_eq_false hq7) ?_
        refine T.seq ?_
        refine xR [] (by kernel_rfl) (by kernel_rfl) ?_
        refine nT ?_
        by_cases hq9 : op = 7
        · refine T.condT (by kernel_rfl) (decide_eq_true hq9) ?_
          refine T.seq ?_
          refine T.seq ?_
          refine xR [] (by kernel_rfl) (by kernel_rfl) ?_
          refine nT ?_
          by_cases hq10 : b = 0
          · refine T.condT (by kernel_rfl) (decide_eq_true hq10) ?_
            refine T.seq ?_
            refine xR [] (by kernel_rfl) (by kernel_rfl) ?_
            refine nT ?_
            refine T.ret ?_
            refine rT ?_
            refine rB ?_
            refine rT ?_
            exact tE (.inl rfl) [.t 6 (.one (.d (.val (.int .i64 0)))), .t 7 (.one (.d (.val (.int .i64 42))))] ⟨⟨rfl, by kernel_rfl⟩, ⟨⟨rfl, by kernel_rfl⟩, trivial⟩⟩ [] (by have e1 : (intsN op a b : Int) = 0 := (by ((have hop : op = 7 := (by assumption); subst hop; exact (ints_70 (by assumption)).1))); have e2 : (intsE op a b : Int) = 42 := (by ((have hop : op = 7 := (by assumption); subst hop; exact (ints_70 (by assumption)).2))); have hE := congr (congrArg (fun (q1 : Int) (q2 : Int) => (.tup [.one (.d (.val (.int .i64 q1))), .one (.d (.val (.int .i64 q2)))] : AV)) e1) e2; exact hE) rfl rfl rfl rfl rfl trivial
          · refine T.condF (by kernel_rfl) (decide_eq_false hq10) ?_
            refine T.skip ?_
            refine nT ?_
            by_cases hq11 : a ≠ (-9223372036854775808)
            · refine xR [hR 2 rfl rfl (r_bin (u1 := .int .i64 a) (u2 := .int .i64 b) (v := .int .i64 (IntKind.i64.wrap (a.tdiv b))) (b_quo (by assumption) rfl) (lt_of rfl) trivial),
                hN 6 false (decide_eq_true hq11),
                hN 7 false (decide_eq_true hq11),
                hP 8 (decide_eq_true hq11)] (by kernel_rfl) (by kernel_rfl) ?_
              refine nB ?_
              refine nT ?_
              refine T.seq ?_
              refine T.seq ?_
              refine xR [] (by kernel_rfl) (by kernel_rfl) ?_
              refine nT ?_
              refine T.condF (b := (!true)) (by kernel_rfl) rfl ?_
              refine T.skip ?_
              refine nT ?_
              refine T.seq ?_
              refine xR [] (by kernel_rfl) (by kernel_rfl) ?_
              refine nT ?_
              refine T.ret ?_
              exact tE (.inl rfl) [.t 6 (.one (.d (.val (.int .i64 (IntKind.i64.wrap (a.tdiv b)))))), .t 7 (.one (.d (.val (.int .i64 0))))] ⟨⟨rfl, by kernel_rfl⟩, ⟨⟨rfl, by kernel_rfl⟩, trivial⟩⟩ [] (by have e1 : (intsN op a b : Int) = IntKind.i64.wrap (a.tdiv b) := (by ((have hop : op = 7 := (by assumption); subst hop; have hx9 := div_ok ha (by assumption) (by (left; assumption)); (have hr9 := res_yes hx9; have hs9 := ints_7 (a := a) (by assumption); (rw [hs9.1, hr9.1, wrap_of (by assumption)]))))); have e2 : (intsE op a b : Int) = 0 := (by ((have hop : op = 7 := (by assumption); subst hop; have hx9 := div_ok ha (by assumption) (by (left; assumption)); (have hr9 := res_yes hx9; have hs9 := ints_7 (a := a) (by assumption); exact hs9.2.trans hr9.2)))); have hE := congr (congrArg (fun (q1 : Int) (q2 : Int) => (.tup [.one (.d (.val (.int .i64 q1))), .one (.d (.val (.int .i64 q2)))] : AV)) e1) e2; exact hE) rfl rfl rfl rfl rfl trivial
            · refine xR [hR 2 rfl rfl (r_bin (u1 := .int .i64 a) (u2 := .int .i64 b) (v := .int .i64 (IntKind.i64.wrap (a.tdiv b))) (b_quo (by assumption) rfl) (lt_of rfl) trivial),
                hY 6 (decide_eq_false hq11),
                hY 7 (decide_eq_false hq11),
                hP 8 (decide_eq_false hq11)] (by kernel_rfl) (by kernel_rfl) ?_
              refine nB ?_
              refine nT ?_
              refine T.seq ?_
              refine T.seq ?_
              refine xR [] (by kernel_rfl) (by kernel_rfl) ?_
              refine nT ?_
              by_cases hq12 : b ≠ (-1)
              · refine T.condF (by kernel_rfl) (congrArg Bool.not (decide_eq_true hq12)) ?_
                refine T.skip ?_
                refine nT ?_
                refine T.seq ?_
                refine xR [] (by kernel_rfl) (by kernel_rfl) ?_
                refine nT ?_
                refine T.ret ?_
                exact tE (.inl rfl) [.t 6 (.one (.d (.val (.int .i64 (IntKind.i64.wrap (a.tdiv b)))))), .t 7 (.one (.d (.val (.int .i64 0))))] ⟨⟨rfl, by kernel_rfl⟩, ⟨⟨rfl, by kernel_rfl⟩, trivial⟩⟩ [] (by have e1 : (intsN op a b : Int) = IntKind.i64.wrap (a.tdiv b) := (by ((have hop : op = 7 := (by assumption); subst hop; have hx9 := div_ok ha (by assumption) (by (right; assumption)); (have hr9 := res_yes hx9; have hs9 := ints_7 (a := a) (by assumption); (rw [hs9.1, hr9.1, wrap_of (by assumption)]))))); have e2 : (intsE op a b : Int) = 0 := (by ((have hop : op = 7 := (by assumption); subst hop; have hx9 := div_ok ha (by assumption) (by (right; assumption)); (have hr9 := res_yes hx9; have hs9 := ints_7 (a := a) (by assumption); exact hs9.2.trans hr9.2)))); have hE := congr (congrArg (fun (q1 : Int) (q2 : Int) => (.tup [.one (.d (.val (.int .i64 q1))), .one (.d (.val (.int .i64 q2)))] : AV)) e1) e2; exact hE) rfl rfl rfl rfl rfl trivial
              · refine T.condT (by kernel_rfl) (congrArg Bool.not (decide_eq_false hq12)) ?_
                refine T.seq ?_
                refine xR [] (by kernel_rfl) (by kernel_rfl) ?_
                refine nT ?_
                refine T.ret ?_
                refine rT ?_
                exact tE (.inl rfl) [.t 6 (.one (.d (.val (.int .i64 0)))), .t 7 (.one (.d (.val (.int .i64 41))))] ⟨⟨rfl, by kernel_rfl⟩, ⟨⟨rfl, by kernel_rfl⟩, trivial⟩⟩ [] (by have e1 : (intsN op a b : Int) = 0 := (by ((have hop : op = 7 := (by assumption); subst hop; have hx9 := div_no2 (by assumption) (by assumption); (have hr9 := res_no hx9; have hs9 := ints_7 (a := a) (by assumption); exact hs9.1.trans hr9.1)))); have e2 : (intsE op a b : Int) = 41 := (by ((have hop : op = 7 := (by assumption); subst hop; have hx9 := div_no2 (by assumption) (by assumption); (have hr9 := res_no hx9; have hs9 := ints_7 (a := a) (by assumption); exact hs9.2.trans hr9.2)))); have hE := congr (congrArg (fun (q1 : Int) (q2 : Int) => (.tup [.one (.d (.val (.int .i64 q1))), .one (.d (.val (.int .i64 q2)))] : AV)) e1) e2; exact hE) rfl rfl rfl rfl rfl trivial
        · refine T.condF (by kernel_rfl) (decide_eq_false hq9) ?_
          refine T.seq ?_
          refine xR [] (by kernel_rfl) (by kernel_rfl) ?_
          refine nT ?_
          by_cases hq13 : op = 14
          · refine T.condT (by kernel_rfl) (decide_eq_true hq13) ?_
            refine xR [hR 2 rfl rfl (r_min (k := .i64) (a := a) (b := b) (lt_of rfl) trivial)] (by kernel_rfl) (by kernel_rfl) ?_
            refine nB ?_
            refine nT ?_
            refine T.seq ?_
            refine T.seq ?_
            refine xR [] (by kernel_rfl) (by kernel_rfl) ?_
            refine nT ?_
            refine T.condF (b := (!true)) (by kernel_rfl) rfl ?_
            refine T.skip ?_
            refine nT ?_
            refine T.seq ?_
            refine xR [] (by kernel_rfl) (by kernel_rfl) ?_
            refine nT ?_
            refine T.ret ?_
            exact tE (.inl rfl) [.t 6 (.one (.d (.val (.int .i64 (min a b))))), .t 7 (.one (.d (.val (.int .i64 0))))] ⟨⟨rfl, by kernel_rfl⟩, ⟨⟨rfl, by kernel_rfl⟩, trivial⟩⟩ [] (by have e1 : (intsN op a b : Int) = min a b := (by ((rw [intsN, if_neg (by omega), if_neg (by omega), if_neg (by omega), if_neg (by omega), if_pos (by omega)]))); have e2 : (intsE op a b : Int) = 0 := (by ((rw [intsE, if_neg (by omega), if_neg (by omega), if_neg (by omega), if_neg (by omega)]))); have hE := congr (congrArg (fun (q1 : Int) (q2 : Int) => (.tup [.one (.d (.val (.int .i64 q1))), .one (.d (.val (.int .i64 q2)))] : AV)) e1) e2; exact hE) rfl rfl rfl rfl rfl trivial
          · refine T.condF (by kernel_rfl) (decide_eq_false hq13) ?_
            refine T.seq ?_
            refine xR [] (by kernel_rfl) (by kernel_rfl) ?_
            refine nT ?_
            by_cases hq14 : op = 15
            · refine T.condT (by kernel_rfl) (decide_eq_true hq14) ?_
              refine xR [hR 2 rfl rfl (r_max (k := .i64) (a := a) (b := b) (lt_of rfl) trivial)] (by kernel_rfl) (by kernel_rfl) ?_
              refine nB ?_
              refine nT ?_
              refine T.seq ?_
              refine T.seq ?_
              refine xR [] (by kernel_rfl) (by kernel_rfl) ?_
              refine nT ?_
              refine T.condF (b := (!true)) (by kernel_rfl) rfl ?_
              refine T.skip ?_
              refine nT ?_
              refine T.seq ?_
              refine xR [] (by kernel_rfl) (by kernel_rfl) ?_
              refine nT ?_
              refine T.ret ?_
              exact tE (.inl rfl) [.t 6 (.one (.d (.val (.int .i64 (max a b))))), .t 7 (.one (.d (.val (.int .i64 0))))] ⟨⟨rfl, by kernel_rfl⟩, ⟨⟨rfl, by kernel_rfl⟩, trivial⟩⟩ [] (by have e1 : (intsN op a b : Int) = max a b := (by ((rw [intsN, if_neg (by omega), if_neg (by omega), if_neg (by omega), if_neg (by omega), if_neg (by omega)]))); have e2 : (intsE op a b : Int) = 0 := (by ((rw [intsE, if_neg (by omega), if_neg (by omega), if_neg (by omega), if_neg (by omega)]))); have hE := congr (congrArg (fun (q1 : Int) (q2 : Int) => (.tup [.one (.d (.val (.int .i64 q1))), .one (.d (.val (.int .i64 q2)))] : AV)) e1) e2; exact hE) rfl rfl rfl rfl rfl trivial
            · exact absurd ho (by unfold okOp; omega)
end Go.Proofs.Ytlabmehgcfgigaa.Q
