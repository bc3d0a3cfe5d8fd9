import Derived.Test.YtalapplihdmenaaC13n27
namespace Go.Proofs.Ytalapplihdmenaa.Q
open Go Go.RowKit
set_option linter.unusedVariables false
set_option linter.unusedSimpArgs false
set_option maxRecDepth 100000
set_option maxHeartbeats 4000000
abbrev Zg3 : TV := .one (dB false)
theorem law_bounds (c : quaestorlaw13_Case) : Holds Try.prog 20 ⟨[.tv (.agg [dI c.f_View, dI c.f_Seq, dI c.f_Primary, .d (dsl false false (k_quaestorlaw13_Vote false) c.f_Votes)])], [], vB (decide (bndC c)), []⟩ := by
 refine Holds.of Try.func20 rfl (N := 27) Try.ntmps20 rfl fun w0 B0 S0 U0 => ?_
 show T _ (mkBase 27 0 w0 S0 U0 B0) ⟨[.tv (.agg [dI c.f_View, dI c.f_Seq, dI c.f_Primary, .d (dsl false false (k_quaestorlaw13_Vote false) c.f_Votes)])], []⟩ _ _
 refine sR [] ?_
 by_cases hq1 : c.f_View ≥ 0
 ·by_cases hq2 : c.f_View < 1073741824
  ·by_cases hq3 : c.f_Seq > 0
   ·by_cases hq4 : c.f_Seq < 1073741824
    ·refine sR [hY 4 (dT hq1),
       hY 5 (dT hq1),
       hY 6 (dT hq1),
       hP 7 (dT hq1),
       hY 9 (dT hq2),
       hY 10 (dT hq2),
       hY 11 (dT hq2),
       hP 12 (dT hq2),
       hY 14 (dT hq3),
       hY 15 (dT hq3),
       hY 16 (dT hq3),
       hP 17 (dT hq3),
       hY 19 (dT hq4),
       hY 20 (dT hq4),
       hY 21 (dT hq4),
       hY 22 (dT hq4),
       hP 23 (dT hq4)] ?_
     refine T.ret ?_
     exact eRt 2 (.one (dB (decide (((c.f_Votes.length : Nat) : Int) ≤ 12)))) [] (cB (by exact decide_eq_decide.2 ⟨fun q => q.2.2.2.2, fun q => ⟨by assumption, by assumption, by assumption, by assumption, q⟩⟩)) trivial
    refine sR [hY 4 (dT hq1),
      hY 5 (dT hq1),
      hY 6 (dT hq1),
      hP 7 (dT hq1),
      hY 9 (dT hq2),
      hY 10 (dT hq2),
      hY 11 (dT hq2),
      hP 12 (dT hq2),
      hY 14 (dT hq3),
      hY 15 (dT hq3),
      hY 16 (dT hq3),
      hP 17 (dT hq3),
      hN 19 true (dF hq4),
      hN 20 true (dF hq4),
      hN 21 true (dF hq4),
      hN 22 true (dF hq4),
      hP 23 (dF hq4)] ?_
    refine T.ret ?_
    exact eRt 2 (Zg3) [] (cB (by exact dF (fun q => by obtain ⟨q1, q2, q3, q4, q5⟩ := q; contradiction))) trivial
   refine sR [hY 4 (dT hq1),
     hY 5 (dT hq1),
     hY 6 (dT hq1),
     hP 7 (dT hq1),
     hY 9 (dT hq2),
     hY 10 (dT hq2),
     hY 11 (dT hq2),
     hP 12 (dT hq2),
     hN 14 true (dF hq3),
     hN 15 true (dF hq3),
     hN 16 true (dF hq3),
     hP 17 (dF hq3),
     hN1 19,
     hN1 20,
     hN1 21,
     hN1 22,
     hP0 23] ?_
   refine T.ret ?_
   exact eRt 2 (Zg3) [] (cB (by exact dF (fun q => by obtain ⟨q1, q2, q3, q4, q5⟩ := q; contradiction))) trivial
  refine sR [hY 4 (dT hq1),
    hY 5 (dT hq1),
    hY 6 (dT hq1),
    hP 7 (dT hq1),
    hN 9 true (dF hq2),
    hN 10 true (dF hq2),
    hN 11 true (dF hq2),
    hP 12 (dF hq2),
    hN1 14,
    hN1 15,
    hN1 16,
    hP0 17,
    hN1 19,
    hN1 20,
    hN1 21,
    hN1 22,
    hP0 23] ?_
  refine T.ret ?_
  exact eRt 2 (Zg3) [] (cB (by exact dF (fun q => by obtain ⟨q1, q2, q3, q4, q5⟩ := q; contradiction))) trivial
 refine sR [hN 4 true (dF hq1),
   hN 5 true (dF hq1),
   hN 6 true (dF hq1),
   hP 7 (dF hq1),
   hN1 9,
   hN1 10,
   hN1 11,
   hP0 12,
   hN1 14,
   hN1 15,
   hN1 16,
   hP0 17,
   hN1 19,
   hN1 20,
   hN1 21,
   hN1 22,
   hP0 23] ?_
 refine T.ret ?_
 exact eRt 2 (Zg3) [] (cB (by exact dF (fun q => by obtain ⟨q1, q2, q3, q4, q5⟩ := q; contradiction))) trivial
end Go.Proofs.Ytalapplihdmenaa.Q
