import Derived.Test.YtalapplihdmenaaC13n27
namespace Go.Proofs.Ytalapplihdmenaa.Q
open Go Go.RowKit
set_option linter.unusedVariables false
set_option linter.unusedSimpArgs false
set_option maxRecDepth 100000
set_option maxHeartbeats 4000000
abbrev z674d_0 : TV := .one (dB false)
theorem law_bounds (c : quaestorlaw13_Case) : Holds Try.prog 20 ⟨[.tv (.agg [dI c.f_View, dI c.f_Seq, dI c.f_Primary, .d (dsl false false (k_quaestorlaw13_Vote false) c.f_Votes)])], [], vB (decide (bndC c)), []⟩ := by
 refine Holds.of Try.func20 rfl (N := 27) Try.ntmps20 rfl fun w0 B0 S0 U0 => ?_
 show T _ (mkBase 27 0 w0 S0 U0 B0) ⟨[.tv (.agg [dI c.f_View, dI c.f_Seq, dI c.f_Primary, .d (dsl false false (k_quaestorlaw13_Vote false) c.f_Votes)])], []⟩ _ _
 refine sR [] ?_
 by_cases hq1 : c.f_View ≥ 0
 ·by_cases hq2 : c.f_View < 1073741824
  ·by_cases hq3 : c.f_Seq > 0
   ·by_cases hq4 : c.f_Seq < 1073741824
    ·refine sR [hY 4 (decide_eq_true hq1),
       hY 5 (decide_eq_true hq1),
       hY 6 (decide_eq_true hq1),
       hP 7 (decide_eq_true hq1),
       hY 9 (decide_eq_true hq2),
       hY 10 (decide_eq_true hq2),
       hY 11 (decide_eq_true hq2),
       hP 12 (decide_eq_true hq2),
       hY 14 (decide_eq_true hq3),
       hY 15 (decide_eq_true hq3),
       hY 16 (decide_eq_true hq3),
       hP 17 (decide_eq_true hq3),
       hY 19 (decide_eq_true hq4),
       hY 20 (decide_eq_true hq4),
       hY 21 (decide_eq_true hq4),
       hY 22 (decide_eq_true hq4),
       hP 23 (decide_eq_true hq4)] ?_
     refine T.ret ?_
     exact eRt 2 (.one (dB (decide (((c.f_Votes.length : Nat) : Int) ≤ 12)))) [] (congrArg (fun (q1 : Bool) => (vB q1 : AV)) (by exact decide_eq_decide.2 ⟨fun q => q.2.2.2.2, fun q => ⟨by assumption, by assumption, by assumption, by assumption, q⟩⟩)) trivial
    refine sR [hY 4 (decide_eq_true hq1),
      hY 5 (decide_eq_true hq1),
      hY 6 (decide_eq_true hq1),
      hP 7 (decide_eq_true hq1),
      hY 9 (decide_eq_true hq2),
      hY 10 (decide_eq_true hq2),
      hY 11 (decide_eq_true hq2),
      hP 12 (decide_eq_true hq2),
      hY 14 (decide_eq_true hq3),
      hY 15 (decide_eq_true hq3),
      hY 16 (decide_eq_true hq3),
      hP 17 (decide_eq_true hq3),
      hN 19 true (decide_eq_false hq4),
      hN 20 true (decide_eq_false hq4),
      hN 21 true (decide_eq_false hq4),
      hN 22 true (decide_eq_false hq4),
      hP 23 (decide_eq_false hq4)] ?_
    refine T.ret ?_
    exact eRt 2 (z674d_0) [] (congrArg (fun (q1 : Bool) => (vB q1 : AV)) (by exact decide_eq_false (fun q => by obtain ⟨q1, q2, q3, q4, q5⟩ := q; contradiction))) trivial
   refine sR [hY 4 (decide_eq_true hq1),
     hY 5 (decide_eq_true hq1),
     hY 6 (decide_eq_true hq1),
     hP 7 (decide_eq_true hq1),
     hY 9 (decide_eq_true hq2),
     hY 10 (decide_eq_true hq2),
     hY 11 (decide_eq_true hq2),
     hP 12 (decide_eq_true hq2),
     hN 14 true (decide_eq_false hq3),
     hN 15 true (decide_eq_false hq3),
     hN 16 true (decide_eq_false hq3),
     hP 17 (decide_eq_false hq3),
     hN 19 (b := false) true rfl,
     hN 20 (b := false) true rfl,
     hN 21 (b := false) true rfl,
     hN 22 (b := false) true rfl,
     hP 23 (b := false) (w := false) rfl] ?_
   refine T.ret ?_
   exact eRt 2 (z674d_0) [] (congrArg (fun (q1 : Bool) => (vB q1 : AV)) (by exact decide_eq_false (fun q => by obtain ⟨q1, q2, q3, q4, q5⟩ := q; contradiction))) trivial
  refine sR [hY 4 (decide_eq_true hq1),
    hY 5 (decide_eq_true hq1),
    hY 6 (decide_eq_true hq1),
    hP 7 (decide_eq_true hq1),
    hN 9 true (decide_eq_false hq2),
    hN 10 true (decide_eq_false hq2),
    hN 11 true (decide_eq_false hq2),
    hP 12 (decide_eq_false hq2),
    hN 14 (b := false) true rfl,
    hN 15 (b := false) true rfl,
    hN 16 (b := false) true rfl,
    hP 17 (b := false) (w := false) rfl,
    hN 19 (b := false) true rfl,
    hN 20 (b := false) true rfl,
    hN 21 (b := false) true rfl,
    hN 22 (b := false) true rfl,
    hP 23 (b := false) (w := false) rfl] ?_
  refine T.ret ?_
  exact eRt 2 (z674d_0) [] (congrArg (fun (q1 : Bool) => (vB q1 : AV)) (by exact decide_eq_false (fun q => by obtain ⟨q1, q2, q3, q4, q5⟩ := q; contradiction))) trivial
 refine sR [hN 4 true (decide_eq_false hq1),
   hN 5 true (decide_eq_false hq1),
   hN 6 true (decide_eq_false hq1),
   hP 7 (decide_eq_false hq1),
   hN 9 (b := false) true rfl,
   hN 10 (b := false) true rfl,
   hN 11 (b := false) true rfl,
   hP 12 (b := false) (w := false) rfl,
   hN 14 (b := false) true rfl,
   hN 15 (b := false) true rfl,
   hN 16 (b := false) true rfl,
   hP 17 (b := false) (w := false) rfl,
   hN 19 (b := false) true rfl,
   hN 20 (b := false) true rfl,
   hN 21 (b := false) true rfl,
   hN 22 (b := false) true rfl,
   hP 23 (b := false) (w := false) rfl] ?_
 refine T.ret ?_
 exact eRt 2 (z674d_0) [] (congrArg (fun (q1 : Bool) => (vB q1 : AV)) (by exact decide_eq_false (fun q => by obtain ⟨q1, q2, q3, q4, q5⟩ := q; contradiction))) trivial
end Go.Proofs.Ytalapplihdmenaa.Q
