import Derived.Test.YtlabmehgcfgigaaC04n25
namespace Go.Proofs.Ytlabmehgcfgigaa.Q
open Go Go.RowKit
set_option linter.unusedVariables false
set_option linter.unusedSimpArgs false
set_option maxRecDepth 100000
set_option maxHeartbeats 4000000
abbrev Z41 : TV := .one (dI 0)
abbrev Z42 : TV := .one (dI 41)
theorem ref04_ints (op : Int) (a : Int) (b : Int) (ha : inR a) (hb : inR b) (ho : okOp op) : Holds Try.prog 58 ⟨[vI op, vI a, vI b], [], .tup [.one (dI (intsN op a b)), .one (dI (intsE op a b))], []⟩ := by
 refine Holds.of Try.func58 rfl (N := 89) Try.ntmps58 rfl fun w0 B0 S0 U0 => ?_
 show T _ (mkBase 89 0 w0 S0 U0 B0) ⟨[vI op, vI a, vI b], []⟩ _ _
 have ha1 := ha.1
 have ha2 := ha.2
 have hb1 := hb.1
 have hb2 := hb.2
 refine sR [] ?_
 refine T.seq ?_
 refine sR [] ?_
 refine T.block ?_
 refine sR [] ?_
 by_cases hq1 : op = 4
 ·refine cT (dT hq1) ?_
  refine T.seq ?_
  by_cases hq2 : b > 0
  ·by_cases hq3 : a > (9223372036854775807 - b)
   ·refine sR [hY 3 (dT hq2),
      hY 4 (dT hq2),
      hS 5 (oY rfl rfl rfl rfl (lt_of rfl) (dT hq2) (r_bin (u1 := .int .i64 9223372036854775807) (u2 := .int .i64 b) (v := .int .i64 (9223372036854775807 - b)) (b_sub (by rw [IntKind.wrap_i64]; omega)) (lt_of rfl) ⟨rfl, trivial⟩)),
      hY 6 (dT hq2),
      hP 7 (dT hq2),
      hN 9 false (dT hq3),
      hN 10 false (dT hq3),
      hN 11 false (dT hq3),
      hU 12,
      hU 13,
      hU 14,
      hU 15,
      hN 16 false (dT hq3),
      hP 17 (dT hq3)] ?_
    refine cT (b := true) rfl ?_
    refine sR [] ?_
    refine T.ret (rT (rB (rT ?_)))
    exact eX [.t 6 (Z41), .t 7 (Z42)] ⟨⟨rfl, by kernel_rfl⟩, ⟨⟨rfl, by kernel_rfl⟩, trivial⟩⟩ [] (cg2 (fun (q1 : Int) (q2 : Int) => (.tup [.one (dI q1), .one (dI q2)] : AV)) (by ((have hop : op = 4 := ‹_›; subst hop; have hx9 := res_no (n := a + b) (by unfold inR; omega); have hr9 := ints_4 a b; exact hr9.1.trans (hx9.1)))) (by ((have hop : op = 4 := ‹_›; subst hop; have hx9 := res_no (n := a + b) (by unfold inR; omega); have hr9 := ints_4 a b; exact hr9.2.trans hx9.2)))) trivial
   by_cases hq4 : b < 0
   ·refine sR [hY 3 (dT hq2),
      hY 4 (dT hq2),
      hS 5 (oY rfl rfl rfl rfl (lt_of rfl) (dT hq2) (r_bin (u1 := .int .i64 9223372036854775807) (u2 := .int .i64 b) (v := .int .i64 (9223372036854775807 - b)) (b_sub (by rw [IntKind.wrap_i64]; omega)) (lt_of rfl) ⟨rfl, trivial⟩)),
      hY 6 (dT hq2),
      hP 7 (dT hq2),
      hY 9 (dF hq3),
      hY 10 (dF hq3),
      hY 11 (dF hq3),
      hY 12 (dT hq4),
      hY 13 (dT hq4),
      hS 14 (oY rfl rfl rfl rfl (lt_of rfl) (dT hq4) (r_bin (u1 := .int .i64 (-9223372036854775808)) (u2 := .int .i64 b) (v := .int .i64 ((-9223372036854775808) - b)) (b_sub (by rw [IntKind.wrap_i64]; omega)) (lt_of rfl) ⟨rfl, trivial⟩)),
      hY 15 (dT hq4),
      hS 16 (oY rfl rfl rfl rfl (lt_of rfl) (dF hq3) (r_pickT (b := (decide (b < 0))) (av := vB (decide (a < ((-9223372036854775808) - b)))) (lt_of rfl) trivial (dT hq4))),
      hP 17 (dF hq3)] ?_
    by_cases hq5 : a < ((-9223372036854775808) - b)
    ·refine cT (dT hq5) ?_
     refine sR [] ?_
     refine T.ret (rT (rB (rT ?_)))
     exact eX [.t 6 (Z41), .t 7 (Z42)] ⟨⟨rfl, by kernel_rfl⟩, ⟨⟨rfl, by kernel_rfl⟩, trivial⟩⟩ [] (cg2 (fun (q1 : Int) (q2 : Int) => (.tup [.one (dI q1), .one (dI q2)] : AV)) (by ((have hop : op = 4 := ‹_›; subst hop; have hx9 := res_no (n := a + b) (by unfold inR; omega); have hr9 := ints_4 a b; exact hr9.1.trans (hx9.1)))) (by ((have hop : op = 4 := ‹_›; subst hop; have hx9 := res_no (n := a + b) (by unfold inR; omega); have hr9 := ints_4 a b; exact hr9.2.trans hx9.2)))) trivial
    refine cF (dF hq5) ?_
    refine T.skip (nT ?_)
    refine sR [hR 2 rfl rfl (r_bin (u1 := .int .i64 a) (u2 := .int .i64 b) (v := .int .i64 (a + b)) (b_add (by rw [IntKind.wrap_i64]; omega)) (lt_of rfl) trivial)] ?_
    refine T.ret (rB (rT ?_))
    exact eX [.t 6 (.one (dI (a + b))), .t 7 (Z41)] ⟨⟨rfl, by kernel_rfl⟩, ⟨⟨rfl, by kernel_rfl⟩, trivial⟩⟩ [] (cg2 (fun (q1 : Int) (q2 : Int) => (.tup [.one (dI q1), .one (dI q2)] : AV)) (by ((have hop : op = 4 := ‹_›; subst hop; have hx9 := res_yes (n := a + b) (by unfold inR; omega); have hr9 := ints_4 a b; exact hr9.1.trans (hx9.1)))) (by ((have hop : op = 4 := ‹_›; subst hop; have hx9 := res_yes (n := a + b) (by unfold inR; omega); have hr9 := ints_4 a b; exact hr9.2.trans hx9.2)))) trivial
   refine sR [hY 3 (dT hq2),
     hY 4 (dT hq2),
     hS 5 (oY rfl rfl rfl rfl (lt_of rfl) (dT hq2) (r_bin (u1 := .int .i64 9223372036854775807) (u2 := .int .i64 b) (v := .int .i64 (9223372036854775807 - b)) (b_sub (by rw [IntKind.wrap_i64]; omega)) (lt_of rfl) ⟨rfl, trivial⟩)),
     hY 6 (dT hq2),
     hP 7 (dT hq2),
     hY 9 (dF hq3),
     hY 10 (dF hq3),
     hY 11 (dF hq3),
     hN 12 true (dF hq4),
     hN 13 true (dF hq4),
     hN 14 true (dF hq4),
     hN 15 true (dF hq4),
     hS 16 (oY rfl rfl rfl rfl (lt_of rfl) (dF hq3) (r_pickF (b := (decide (b < 0))) (av := vB false) (lt_of rfl) ⟨rfl, trivial⟩ (dF hq4))),
     hP 17 (dF hq3)] ?_
   refine cF (b := false) rfl ?_
   refine T.skip (nT ?_)
   refine sR [hR 2 rfl rfl (r_bin (u1 := .int .i64 a) (u2 := .int .i64 b) (v := .int .i64 (a + b)) (b_add (by rw [IntKind.wrap_i64]; omega)) (lt_of rfl) trivial)] ?_
   refine T.ret (rB (rT ?_))
   exact eX [.t 6 (.one (dI (a + b))), .t 7 (Z41)] ⟨⟨rfl, by kernel_rfl⟩, ⟨⟨rfl, by kernel_rfl⟩, trivial⟩⟩ [] (cg2 (fun (q1 : Int) (q2 : Int) => (.tup [.one (dI q1), .one (dI q2)] : AV)) (by ((have hop : op = 4 := ‹_›; subst hop; have hx9 := res_yes (n := a + b) (by unfold inR; omega); have hr9 := ints_4 a b; exact hr9.1.trans (hx9.1)))) (by ((have hop : op = 4 := ‹_›; subst hop; have hx9 := res_yes (n := a + b) (by unfold inR; omega); have hr9 := ints_4 a b; exact hr9.2.trans hx9.2)))) trivial
  by_cases hq6 : b < 0
  ·refine sR [hN 3 true (dF hq2),
     hN 4 true (dF hq2),
     hN 5 true (dF hq2),
     hN 6 true (dF hq2),
     hP 7 (dF hq2),
     hY0 9,
     hY0 10,
     hY0 11,
     hY 12 (dT hq6),
     hY 13 (dT hq6),
     hS 14 (oY rfl rfl rfl rfl (lt_of rfl) (dT hq6) (r_bin (u1 := .int .i64 (-9223372036854775808)) (u2 := .int .i64 b) (v := .int .i64 ((-9223372036854775808) - b)) (b_sub (by rw [IntKind.wrap_i64]; omega)) (lt_of rfl) ⟨rfl, trivial⟩)),
     hY 15 (dT hq6),
     hS 16 (oY (b := false) rfl rfl rfl rfl (lt_of rfl) rfl (r_pickT (b := (decide (b < 0))) (av := vB (decide (a < ((-9223372036854775808) - b)))) (lt_of rfl) trivial (dT hq6))),
     hP0 17] ?_
   by_cases hq7 : a < ((-9223372036854775808) - b)
   ·refine cT (dT hq7) ?_
    refine sR [] ?_
    refine T.ret (rT (rB (rT ?_)))
    exact eX [.t 6 (Z41), .t 7 (Z42)] ⟨⟨rfl, by kernel_rfl⟩, ⟨⟨rfl, by kernel_rfl⟩, trivial⟩⟩ [] (cg2 (fun (q1 : Int) (q2 : Int) => (.tup [.one (dI q1), .one (dI q2)] : AV)) (by ((have hop : op = 4 := ‹_›; subst hop; have hx9 := res_no (n := a + b) (by unfold inR; omega); have hr9 := ints_4 a b; exact hr9.1.trans (hx9.1)))) (by ((have hop : op = 4 := ‹_›; subst hop; have hx9 := res_no (n := a + b) (by unfold inR; omega); have hr9 := ints_4 a b; exact hr9.2.trans hx9.2)))) trivial
   refine cF (dF hq7) ?_
   refine T.skip (nT ?_)
   refine sR [hR 2 rfl rfl (r_bin (u1 := .int .i64 a) (u2 := .int .i64 b) (v := .int .i64 (a + b)) (b_add (by rw [IntKind.wrap_i64]; omega)) (lt_of rfl) trivial)] ?_
   refine T.ret (rB (rT ?_))
   exact eX [.t 6 (.one (dI (a + b))), .t 7 (Z41)] ⟨⟨rfl, by kernel_rfl⟩, ⟨⟨rfl, by kernel_rfl⟩, trivial⟩⟩ [] (cg2 (fun (q1 : Int) (q2 : Int) => (.tup [.one (dI q1), .one (dI q2)] : AV)) (by ((have hop : op = 4 := ‹_›; subst hop; have hx9 := res_yes (n := a + b) (by unfold inR; omega); have hr9 := ints_4 a b; exact hr9.1.trans (hx9.1)))) (by ((have hop : op = 4 := ‹_›; subst hop; have hx9 := res_yes (n := a + b) (by unfold inR; omega); have hr9 := ints_4 a b; exact hr9.2.trans hx9.2)))) trivial
  refine sR [hN 3 true (dF hq2),
    hN 4 true (dF hq2),
    hN 5 true (dF hq2),
    hN 6 true (dF hq2),
    hP 7 (dF hq2),
    hY0 9,
    hY0 10,
    hY0 11,
    hN 12 true (dF hq6),
    hN 13 true (dF hq6),
    hN 14 true (dF hq6),
    hN 15 true (dF hq6),
    hS 16 (oY (b := false) rfl rfl rfl rfl (lt_of rfl) rfl (r_pickF (b := (decide (b < 0))) (av := vB false) (lt_of rfl) ⟨rfl, trivial⟩ (dF hq6))),
    hP0 17] ?_
  refine cF (b := false) rfl ?_
  refine T.skip (nT ?_)
  refine sR [hR 2 rfl rfl (r_bin (u1 := .int .i64 a) (u2 := .int .i64 b) (v := .int .i64 (a + b)) (b_add (by rw [IntKind.wrap_i64]; omega)) (lt_of rfl) trivial)] ?_
  refine T.ret (rB (rT ?_))
  exact eX [.t 6 (.one (dI (a + b))), .t 7 (Z41)] ⟨⟨rfl, by kernel_rfl⟩, ⟨⟨rfl, by kernel_rfl⟩, trivial⟩⟩ [] (cg2 (fun (q1 : Int) (q2 : Int) => (.tup [.one (dI q1), .one (dI q2)] : AV)) (by ((have hop : op = 4 := ‹_›; subst hop; have hx9 := res_yes (n := a + b) (by unfold inR; omega); have hr9 := ints_4 a b; exact hr9.1.trans (hx9.1)))) (by ((have hop : op = 4 := ‹_›; subst hop; have hx9 := res_yes (n := a + b) (by unfold inR; omega); have hr9 := ints_4 a b; exact hr9.2.trans hx9.2)))) trivial
 refine cF (dF hq1) ?_
 refine sR [] ?_
 by_cases hq8 : op = 5
 ·refine cT (dT hq8) ?_
  refine T.seq ?_
  by_cases hq9 : b < 0
  ·by_cases hq10 : a > (9223372036854775807 + b)
   ·refine sR [hY 3 (dT hq9),
      hY 4 (dT hq9),
      hS 5 (oY rfl rfl rfl rfl (lt_of rfl) (dT hq9) (r_bin (u1 := .int .i64 9223372036854775807) (u2 := .int .i64 b) (v := .int .i64 (9223372036854775807 + b)) (b_add (by rw [IntKind.wrap_i64]; omega)) (lt_of rfl) ⟨rfl, trivial⟩)),
      hY 6 (dT hq9),
      hP 7 (dT hq9),
      hN 9 false (dT hq10),
      hN 10 false (dT hq10),
      hN 11 false (dT hq10),
      hU 12,
      hU 13,
      hU 14,
      hU 15,
      hN 16 false (dT hq10),
      hP 17 (dT hq10)] ?_
    refine cT (b := true) rfl ?_
    refine sR [] ?_
    refine T.ret (rT (rB (rT ?_)))
    exact eX [.t 6 (Z41), .t 7 (Z42)] ⟨⟨rfl, by kernel_rfl⟩, ⟨⟨rfl, by kernel_rfl⟩, trivial⟩⟩ [] (cg2 (fun (q1 : Int) (q2 : Int) => (.tup [.one (dI q1), .one (dI q2)] : AV)) (by ((have hop : op = 5 := ‹_›; subst hop; have hx9 := res_no (n := a - b) (by unfold inR; omega); have hr9 := ints_5 a b; exact hr9.1.trans (hx9.1)))) (by ((have hop : op = 5 := ‹_›; subst hop; have hx9 := res_no (n := a - b) (by unfold inR; omega); have hr9 := ints_5 a b; exact hr9.2.trans hx9.2)))) trivial
   by_cases hq11 : b > 0
   ·refine sR [hY 3 (dT hq9),
      hY 4 (dT hq9),
      hS 5 (oY rfl rfl rfl rfl (lt_of rfl) (dT hq9) (r_bin (u1 := .int .i64 9223372036854775807) (u2 := .int .i64 b) (v := .int .i64 (9223372036854775807 + b)) (b_add (by rw [IntKind.wrap_i64]; omega)) (lt_of rfl) ⟨rfl, trivial⟩)),
      hY 6 (dT hq9),
      hP 7 (dT hq9),
      hY 9 (dF hq10),
      hY 10 (dF hq10),
      hY 11 (dF hq10),
      hY 12 (dT hq11),
      hY 13 (dT hq11),
      hS 14 (oY rfl rfl rfl rfl (lt_of rfl) (dT hq11) (r_bin (u1 := .int .i64 (-9223372036854775808)) (u2 := .int .i64 b) (v := .int .i64 ((-9223372036854775808) + b)) (b_add (by rw [IntKind.wrap_i64]; omega)) (lt_of rfl) ⟨rfl, trivial⟩)),
      hY 15 (dT hq11),
      hS 16 (oY rfl rfl rfl rfl (lt_of rfl) (dF hq10) (r_pickT (b := (decide (b > 0))) (av := vB (decide (a < ((-9223372036854775808) + b)))) (lt_of rfl) trivial (dT hq11))),
      hP 17 (dF hq10)] ?_
    by_cases hq12 : a < ((-9223372036854775808) + b)
    ·refine cT (dT hq12) ?_
     refine sR [] ?_
     refine T.ret (rT (rB (rT ?_)))
     exact eX [.t 6 (Z41), .t 7 (Z42)] ⟨⟨rfl, by kernel_rfl⟩, ⟨⟨rfl, by kernel_rfl⟩, trivial⟩⟩ [] (cg2 (fun (q1 : Int) (q2 : Int) => (.tup [.one (dI q1), .one (dI q2)] : AV)) (by ((have hop : op = 5 := ‹_›; subst hop; have hx9 := res_no (n := a - b) (by unfold inR; omega); have hr9 := ints_5 a b; exact hr9.1.trans (hx9.1)))) (by ((have hop : op = 5 := ‹_›; subst hop; have hx9 := res_no (n := a - b) (by unfold inR; omega); have hr9 := ints_5 a b; exact hr9.2.trans hx9.2)))) trivial
    refine cF (dF hq12) ?_
    refine T.skip (nT ?_)
    refine sR [hR 2 rfl rfl (r_bin (u1 := .int .i64 a) (u2 := .int .i64 b) (v := .int .i64 (a - b)) (b_sub (by rw [IntKind.wrap_i64]; omega)) (lt_of rfl) trivial)] ?_
    refine T.ret (rB (rT ?_))
    exact eX [.t 6 (.one (dI (a - b))), .t 7 (Z41)] ⟨⟨rfl, by kernel_rfl⟩, ⟨⟨rfl, by kernel_rfl⟩, trivial⟩⟩ [] (cg2 (fun (q1 : Int) (q2 : Int) => (.tup [.one (dI q1), .one (dI q2)] : AV)) (by ((have hop : op = 5 := ‹_›; subst hop; have hx9 := res_yes (n := a - b) (by unfold inR; omega); have hr9 := ints_5 a b; exact hr9.1.trans (hx9.1)))) (by ((have hop : op = 5 := ‹_›; subst hop; have hx9 := res_yes (n := a - b) (by unfold inR; omega); have hr9 := ints_5 a b; exact hr9.2.trans hx9.2)))) trivial
   refine sR [hY 3 (dT hq9),
     hY 4 (dT hq9),
     hS 5 (oY rfl rfl rfl rfl (lt_of rfl) (dT hq9) (r_bin (u1 := .int .i64 9223372036854775807) (u2 := .int .i64 b) (v := .int .i64 (9223372036854775807 + b)) (b_add (by rw [IntKind.wrap_i64]; omega)) (lt_of rfl) ⟨rfl, trivial⟩)),
     hY 6 (dT hq9),
     hP 7 (dT hq9),
     hY 9 (dF hq10),
     hY 10 (dF hq10),
     hY 11 (dF hq10),
     hN 12 true (dF hq11),
     hN 13 true (dF hq11),
     hN 14 true (dF hq11),
     hN 15 true (dF hq11),
     hS 16 (oY rfl rfl rfl rfl (lt_of rfl) (dF hq10) (r_pickF (b := (decide (b > 0))) (av := vB false) (lt_of rfl) ⟨rfl, trivial⟩ (dF hq11))),
     hP 17 (dF hq10)] ?_
   refine cF (b := false) rfl ?_
   refine T.skip (nT ?_)
   refine sR [hR 2 rfl rfl (r_bin (u1 := .int .i64 a) (u2 := .int .i64 b) (v := .int .i64 (a - b)) (b_sub (by rw [IntKind.wrap_i64]; omega)) (lt_of rfl) trivial)] ?_
   refine T.ret (rB (rT ?_))
   exact eX [.t 6 (.one (dI (a - b))), .t 7 (Z41)] ⟨⟨rfl, by kernel_rfl⟩, ⟨⟨rfl, by kernel_rfl⟩, trivial⟩⟩ [] (cg2 (fun (q1 : Int) (q2 : Int) => (.tup [.one (dI q1), .one (dI q2)] : AV)) (by ((have hop : op = 5 := ‹_›; subst hop; have hx9 := res_yes (n := a - b) (by unfold inR; omega); have hr9 := ints_5 a b; exact hr9.1.trans (hx9.1)))) (by ((have hop : op = 5 := ‹_›; subst hop; have hx9 := res_yes (n := a - b) (by unfold inR; omega); have hr9 := ints_5 a b; exact hr9.2.trans hx9.2)))) trivial
  by_cases hq13 : b > 0
  ·refine sR [hN 3 true (dF hq9),
     hN 4 true (dF hq9),
     hN 5 true (dF hq9),
     hN 6 true (dF hq9),
     hP 7 (dF hq9),
     hY0 9,
     hY0 10,
     hY0 11,
     hY 12 (dT hq13),
     hY 13 (dT hq13),
     hS 14 (oY rfl rfl rfl rfl (lt_of rfl) (dT hq13) (r_bin (u1 := .int .i64 (-9223372036854775808)) (u2 := .int .i64 b) (v := .int .i64 ((-9223372036854775808) + b)) (b_add (by rw [IntKind.wrap_i64]; omega)) (lt_of rfl) ⟨rfl, trivial⟩)),
     hY 15 (dT hq13),
     hS 16 (oY (b := false) rfl rfl rfl rfl (lt_of rfl) rfl (r_pickT (b := (decide (b > 0))) (av := vB (decide (a < ((-9223372036854775808) + b)))) (lt_of rfl) trivial (dT hq13))),
     hP0 17] ?_
   by_cases hq14 : a < ((-9223372036854775808) + b)
   ·refine cT (dT hq14) ?_
    refine sR [] ?_
    refine T.ret (rT (rB (rT ?_)))
    exact eX [.t 6 (Z41), .t 7 (Z42)] ⟨⟨rfl, by kernel_rfl⟩, ⟨⟨rfl, by kernel_rfl⟩, trivial⟩⟩ [] (cg2 (fun (q1 : Int) (q2 : Int) => (.tup [.one (dI q1), .one (dI q2)] : AV)) (by ((have hop : op = 5 := ‹_›; subst hop; have hx9 := res_no (n := a - b) (by unfold inR; omega); have hr9 := ints_5 a b; exact hr9.1.trans (hx9.1)))) (by ((have hop : op = 5 := ‹_›; subst hop; have hx9 := res_no (n := a - b) (by unfold inR; omega); have hr9 := ints_5 a b; exact hr9.2.trans hx9.2)))) trivial
   refine cF (dF hq14) ?_
   refine T.skip (nT ?_)
   refine sR [hR 2 rfl rfl (r_bin (u1 := .int .i64 a) (u2 := .int .i64 b) (v := .int .i64 (a - b)) (b_sub (by rw [IntKind.wrap_i64]; omega)) (lt_of rfl) trivial)] ?_
   refine T.ret (rB (rT ?_))
   exact eX [.t 6 (.one (dI (a - b))), .t 7 (Z41)] ⟨⟨rfl, by kernel_rfl⟩, ⟨⟨rfl, by kernel_rfl⟩, trivial⟩⟩ [] (cg2 (fun (q1 : Int) (q2 : Int) => (.tup [.one (dI q1), .one (dI q2)] : AV)) (by ((have hop : op = 5 := ‹_›; subst hop; have hx9 := res_yes (n := a - b) (by unfold inR; omega); have hr9 := ints_5 a b; exact hr9.1.trans (hx9.1)))) (by ((have hop : op = 5 := ‹_›; subst hop; have hx9 := res_yes (n := a - b) (by unfold inR; omega); have hr9 := ints_5 a b; exact hr9.2.trans hx9.2)))) trivial
  refine sR [hN 3 true (dF hq9),
    hN 4 true (dF hq9),
    hN 5 true (dF hq9),
    hN 6 true (dF hq9),
    hP 7 (dF hq9),
    hY0 9,
    hY0 10,
    hY0 11,
    hN 12 true (dF hq13),
    hN 13 true (dF hq13),
    hN 14 true (dF hq13),
    hN 15 true (dF hq13),
    hS 16 (oY (b := false) rfl rfl rfl rfl (lt_of rfl) rfl (r_pickF (b := (decide (b > 0))) (av := vB false) (lt_of rfl) ⟨rfl, trivial⟩ (dF hq13))),
    hP0 17] ?_
  refine cF (b := false) rfl ?_
  refine T.skip (nT ?_)
  refine sR [hR 2 rfl rfl (r_bin (u1 := .int .i64 a) (u2 := .int .i64 b) (v := .int .i64 (a - b)) (b_sub (by rw [IntKind.wrap_i64]; omega)) (lt_of rfl) trivial)] ?_
  refine T.ret (rB (rT ?_))
  exact eX [.t 6 (.one (dI (a - b))), .t 7 (Z41)] ⟨⟨rfl, by kernel_rfl⟩, ⟨⟨rfl, by kernel_rfl⟩, trivial⟩⟩ [] (cg2 (fun (q1 : Int) (q2 : Int) => (.tup [.one (dI q1), .one (dI q2)] : AV)) (by ((have hop : op = 5 := ‹_›; subst hop; have hx9 := res_yes (n := a - b) (by unfold inR; omega); have hr9 := ints_5 a b; exact hr9.1.trans (hx9.1)))) (by ((have hop : op = 5 := ‹_›; subst hop; have hx9 := res_yes (n := a - b) (by unfold inR; omega); have hr9 := ints_5 a b; exact hr9.2.trans hx9.2)))) trivial
 refine cF (dF hq8) ?_
 refine sR [] ?_
 by_cases hq15 : op = 6
 ·refine cT (dT hq15) ?_
  refine sR [hR 2 rfl rfl (rCa (ref04_times a b ‹_› ‹_›) Try.func87 [] [(.tmp 60, vI a), (.tmp 61, vI b)] 0 0)] ?_
  refine T.seq ?_
  refine sR [] ?_
  by_cases hq16 : inR (a * b)
  ·refine cF (cn (dT hq16)) ?_
   refine T.skip (nT ?_)
   refine sR [] ?_
   refine T.ret (rB (rT ?_))
   exact eX [.t 6 (.one (dI (tmsN a b))), .t 7 (Z41)] ⟨⟨rfl, by kernel_rfl⟩, ⟨⟨rfl, by kernel_rfl⟩, trivial⟩⟩ [] (cg2 (fun (q1 : Int) (q2 : Int) => (.tup [.one (dI q1), .one (dI q2)] : AV)) (by ((have hop : op = 6 := ‹_›; subst hop; have hw9 := (by assumption : inR (a * b)); have hx9 := res_yes hw9; have hr9 := ints_6 a b; exact hr9.1.trans (hx9.1.trans (tms_is ha hb hw9).symm)))) (by ((have hop : op = 6 := ‹_›; subst hop; have hw9 := (by assumption : inR (a * b)); have hx9 := res_yes hw9; have hr9 := ints_6 a b; exact hr9.2.trans hx9.2)))) trivial
  refine cT (cn (dF hq16)) ?_
  refine sR [] ?_
  refine T.ret (rT (rB (rT ?_)))
  exact eX [.t 6 (Z41), .t 7 (Z42)] ⟨⟨rfl, by kernel_rfl⟩, ⟨⟨rfl, by kernel_rfl⟩, trivial⟩⟩ [] (cg2 (fun (q1 : Int) (q2 : Int) => (.tup [.one (dI q1), .one (dI q2)] : AV)) (by ((have hop : op = 6 := ‹_›; subst hop; have hx9 := res_no (n := a * b) ‹_›; have hr9 := ints_6 a b; exact hr9.1.trans (hx9.1)))) (by ((have hop : op = 6 := ‹_›; subst hop; have hx9 := res_no (n := a * b) ‹_›; have hr9 := ints_6 a b; exact hr9.2.trans hx9.2)))) trivial
 refine cF (dF hq15) ?_
 refine sR [] ?_
 by_cases hq17 : op = 7
 ·refine cT (dT hq17) ?_
  refine T.seq ?_
  refine sR [] ?_
  by_cases hq18 : b = 0
  ·refine cT (dT hq18) ?_
   refine sR [] ?_
   refine T.ret (rT (rB (rT ?_)))
   exact eX [.t 6 (Z41), .t 7 (.one (dI 42))] ⟨⟨rfl, by kernel_rfl⟩, ⟨⟨rfl, by kernel_rfl⟩, trivial⟩⟩ [] (cg2 (fun (q1 : Int) (q2 : Int) => (.tup [.one (dI q1), .one (dI q2)] : AV)) (by ((have hop : op = 7 := ‹_›; subst hop; exact (ints_70 ‹_›).1))) (by ((have hop : op = 7 := ‹_›; subst hop; exact (ints_70 ‹_›).2)))) trivial
  refine cF (dF hq18) ?_
  refine T.skip (nT (T.seq ?_))
  by_cases hq19 : a = (-9223372036854775808)
  ·refine sR [hY 3 (dT hq19),
     hY 4 (dT hq19),
     hP 5 (dT hq19)] ?_
   by_cases hq20 : b = (-1)
   ·refine cT (dT hq20) ?_
    refine sR [] ?_
    refine T.ret (rT (rB (rT ?_)))
    exact eX [.t 6 (Z41), .t 7 (Z42)] ⟨⟨rfl, by kernel_rfl⟩, ⟨⟨rfl, by kernel_rfl⟩, trivial⟩⟩ [] (cg2 (fun (q1 : Int) (q2 : Int) => (.tup [.one (dI q1), .one (dI q2)] : AV)) (by ((have hop : op = 7 := ‹_›; subst hop; have hx9 := res_no (n := a.tdiv b) (div_no2 (by omega) (by omega)); have hr9 := ints_7 (a := a) (b := b) ‹_›; exact hr9.1.trans (hx9.1)))) (by ((have hop : op = 7 := ‹_›; subst hop; have hx9 := res_no (n := a.tdiv b) (div_no2 (by omega) (by omega)); have hr9 := ints_7 (a := a) (b := b) ‹_›; exact hr9.2.trans hx9.2)))) trivial
   refine cF (dF hq20) ?_
   refine T.skip (nT ?_)
   refine sR [hR 2 rfl rfl (r_bin (u1 := .int .i64 a) (u2 := .int .i64 b) (v := .int .i64 (IntKind.i64.wrap (a.tdiv b))) (b_quo ‹_› rfl) (lt_of rfl) trivial)] ?_
   refine T.ret (rB (rT ?_))
   exact eX [.t 6 (.one (dI (IntKind.i64.wrap (a.tdiv b)))), .t 7 (Z41)] ⟨⟨rfl, by kernel_rfl⟩, ⟨⟨rfl, by kernel_rfl⟩, trivial⟩⟩ [] (cg2 (fun (q1 : Int) (q2 : Int) => (.tup [.one (dI q1), .one (dI q2)] : AV)) (by ((have hop : op = 7 := ‹_›; subst hop; have hw9 := div_ok (a := a) (b := b) ha ‹_› (by omega); have hx9 := res_yes hw9; have hr9 := ints_7 (a := a) (b := b) ‹_›; exact hr9.1.trans (hx9.1.trans (wrap_of hw9).symm)))) (by ((have hop : op = 7 := ‹_›; subst hop; have hw9 := div_ok (a := a) (b := b) ha ‹_› (by omega); have hx9 := res_yes hw9; have hr9 := ints_7 (a := a) (b := b) ‹_›; exact hr9.2.trans hx9.2)))) trivial
  refine sR [hN 3 true (dF hq19),
    hN 4 true (dF hq19),
    hP 5 (dF hq19)] ?_
  refine cF (b := false) rfl ?_
  refine T.skip (nT ?_)
  refine sR [hR 2 rfl rfl (r_bin (u1 := .int .i64 a) (u2 := .int .i64 b) (v := .int .i64 (IntKind.i64.wrap (a.tdiv b))) (b_quo ‹_› rfl) (lt_of rfl) trivial)] ?_
  refine T.ret (rB (rT ?_))
  exact eX [.t 6 (.one (dI (IntKind.i64.wrap (a.tdiv b)))), .t 7 (Z41)] ⟨⟨rfl, by kernel_rfl⟩, ⟨⟨rfl, by kernel_rfl⟩, trivial⟩⟩ [] (cg2 (fun (q1 : Int) (q2 : Int) => (.tup [.one (dI q1), .one (dI q2)] : AV)) (by ((have hop : op = 7 := ‹_›; subst hop; have hw9 := div_ok (a := a) (b := b) ha ‹_› (by omega); have hx9 := res_yes hw9; have hr9 := ints_7 (a := a) (b := b) ‹_›; exact hr9.1.trans (hx9.1.trans (wrap_of hw9).symm)))) (by ((have hop : op = 7 := ‹_›; subst hop; have hw9 := div_ok (a := a) (b := b) ha ‹_› (by omega); have hx9 := res_yes hw9; have hr9 := ints_7 (a := a) (b := b) ‹_›; exact hr9.2.trans hx9.2)))) trivial
 refine cF (dF hq17) ?_
 refine sR [] ?_
 by_cases hq21 : op = 14
 ·refine cT (dT hq21) ?_
  refine sR [hR 2 rfl rfl (r_min (k := .i64) (a := a) (b := b) (lt_of rfl) trivial)] ?_
  refine T.ret (rB (rT ?_))
  exact eX [.t 6 (.one (dI (min a b))), .t 7 (Z41)] ⟨⟨rfl, by kernel_rfl⟩, ⟨⟨rfl, by kernel_rfl⟩, trivial⟩⟩ [] (by have e1 : (intsN op a b : Int) = min a b := (by ((rw [intsN, if_neg (by omega), if_neg (by omega), if_neg (by omega), if_neg (by omega), if_pos (by omega)]))); have e2 : (intsE op a b : Int) = 0 := (by ((rw [intsE, if_neg (by omega), if_neg (by omega), if_neg (by omega), if_neg (by omega)]))); have hE := congr (congrArg (fun (q1 : Int) (q2 : Int) => (.tup [.one (dI q1), .one (dI q2)] : AV)) e1) e2; exact hE) trivial
 refine cF (dF hq21) ?_
 refine T.skip ?_
 refine nB ?_
 refine nT ?_
 refine sR [hR 2 rfl rfl (r_max (k := .i64) (a := a) (b := b) (lt_of rfl) trivial)] ?_
 refine T.ret ?_
 exact eX [.t 6 (.one (dI (max a b))), .t 7 (Z41)] ⟨⟨rfl, by kernel_rfl⟩, ⟨⟨rfl, by kernel_rfl⟩, trivial⟩⟩ [] (by have e1 : (intsN op a b : Int) = max a b := (by ((rw [intsN, if_neg (by omega), if_neg (by omega), if_neg (by omega), if_neg (by omega), if_neg (by omega)]))); have e2 : (intsE op a b : Int) = 0 := (by ((rw [intsE, if_neg (by omega), if_neg (by omega), if_neg (by omega), if_neg (by omega)]))); have hE := congr (congrArg (fun (q1 : Int) (q2 : Int) => (.tup [.one (dI q1), .one (dI q2)] : AV)) e1) e2; exact hE) trivial
abbrev Z43 : TV := .one (dB true)
theorem ref04_Reckons (op : Int) : Holds Try.prog 56 ⟨[vI op], [], vB (decide (okOp op)), []⟩ := by
 refine Holds.of Try.func56 rfl (N := 17) Try.ntmps56 rfl fun w0 B0 S0 U0 => ?_
 show T _ (mkBase 17 0 w0 S0 U0 B0) ⟨[vI op], []⟩ _ _
 refine sR [] ?_
 by_cases hq1 : op ≥ 4
 ·by_cases hq2 : op ≤ 7
  ·refine sR [hY 3 (dT hq1),
     hY 4 (dT hq1),
     hP 5 (dT hq1),
     hN 7 false (dT hq2),
     hN 8 false (dT hq2),
     hP 9 (dT hq2),
     hN0 11,
     hN0 12,
     hP1 13] ?_
   refine T.ret ?_
   exact eRt 2 (Z43) [] (cB (by exact dT (by unfold okOp; omega))) trivial
  by_cases hq3 : op = 14
  ·refine sR [hY 3 (dT hq1),
     hY 4 (dT hq1),
     hP 5 (dT hq1),
     hY 7 (dF hq2),
     hY 8 (dF hq2),
     hP 9 (dF hq2),
     hN 11 false (dT hq3),
     hN 12 false (dT hq3),
     hP 13 (dT hq3)] ?_
   refine T.ret ?_
   exact eRt 2 (Z43) [] (cB (by exact dT (by unfold okOp; omega))) trivial
  refine sR [hY 3 (dT hq1),
    hY 4 (dT hq1),
    hP 5 (dT hq1),
    hY 7 (dF hq2),
    hY 8 (dF hq2),
    hP 9 (dF hq2),
    hY 11 (dF hq3),
    hY 12 (dF hq3),
    hP 13 (dF hq3)] ?_
  refine T.ret ?_
  exact eRt 2 (.one (dB (decide (op = 15)))) [] (cB (by exact decide_eq_decide.2 (by unfold okOp; omega))) trivial
 by_cases hq4 : op = 14
 ·refine sR [hN 3 true (dF hq1),
    hN 4 true (dF hq1),
    hP 5 (dF hq1),
    hY0 7,
    hY0 8,
    hP0 9,
    hN 11 false (dT hq4),
    hN 12 false (dT hq4),
    hP 13 (dT hq4)] ?_
  refine T.ret ?_
  exact eRt 2 (Z43) [] (cB (by exact dT (by unfold okOp; omega))) trivial
 refine sR [hN 3 true (dF hq1),
   hN 4 true (dF hq1),
   hP 5 (dF hq1),
   hY0 7,
   hY0 8,
   hP0 9,
   hY 11 (dF hq4),
   hY 12 (dF hq4),
   hP 13 (dF hq4)] ?_
 refine T.ret ?_
 exact eRt 2 (.one (dB (decide (op = 15)))) [] (cB (by exact decide_eq_decide.2 (by unfold okOp; omega))) trivial
end Go.Proofs.Ytlabmehgcfgigaa.Q
