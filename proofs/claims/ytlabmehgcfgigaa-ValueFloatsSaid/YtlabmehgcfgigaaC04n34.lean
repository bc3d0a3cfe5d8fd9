import Derived.Test.YtlabmehgcfgigaaC04n32
namespace Go.Proofs.Ytlabmehgcfgigaa.Q
open Go Go.RowKit
set_option linter.unusedVariables false
set_option linter.unusedSimpArgs false
set_option maxRecDepth 100000
set_option maxHeartbeats 4000000
abbrev Z5h (x : Nat) : AV := .tv (.agg [dI (numV x).f_Kind, dI (numV x).f_Int, dB (numV x).f_Bool, dS (numV x).f_Text, .d (.val (.float .f64 (numV x).f_Num))])
abbrev Z5i (y : Nat) : AV := .tv (.agg [dI (numV y).f_Kind, dI (numV y).f_Int, dB (numV y).f_Bool, dS (numV y).f_Text, .d (.val (.float .f64 (numV y).f_Num))])
abbrev Z5j : TV := .one (dB true)
theorem law_ValueFloats (x : Nat) (y : Nat) (hx : x < 18446744073709551616) (hy : y < 18446744073709551616) : Holds Try.prog 8 ⟨[dv (.float .f64 x), dv (.float .f64 y)], [], vB true, []⟩ := by
 refine Holds.of Try.func8 rfl (N := 114) Try.ntmps8 rfl fun w0 B0 S0 U0 => ?_
 show T _ (mkBase 114 0 w0 S0 U0 B0) ⟨[dv (.float .f64 x), dv (.float .f64 y)], []⟩ _ _
 have hbx := bitsF_lt hx
 have hby := bitsF_lt hy
 refine sR [] ?_
 refine sR [hR 1 rfl rfl (rCa (ref04_Num x ) Try.func30 [] [(.tmp 16, dv (.float .f64 x))] 0 0),
   hR 3 rfl rfl (rCa (ref04_Num y ) Try.func30 [] [(.tmp 18, dv (.float .f64 y))] 0 0)] ?_
 refine sR [hR 2 rfl rfl (rCa (value_Equal (numV x) (numV y) ) Try.func26 [] [(.tmp 21, (Z5h x)), (.tmp 22, (Z5i y))] 0 0)] ?_
 refine sR [hR 2 rfl rfl (rCa (value_Less (numV x) (numV y) ) Try.func28 [] [(.tmp 27, (Z5h x)), (.tmp 28, (Z5i y))] 0 0)] ?_
 refine sR [hR 2 rfl rfl (rCa (value_Less (numV y) (numV x) ) Try.func28 [] [(.tmp 33, (Z5i y)), (.tmp 34, (Z5h x))] 0 0)] ?_
 by_cases hq1 : bothV (numV x) (numV y) ∧ (numV x).f_Kind = 4
 ·refine sR [hR 2 rfl rfl (rCa (value_ReckonF 4 (numV x) (numV y) (by first | assumption | omega | (unfold maxLen; omega) | (simp [maxLen, -List.getD_eq_getElem?_getD] <;> omega) | decide) (by first | assumption | omega | (unfold maxLen; omega) | (simp [maxLen, -List.getD_eq_getElem?_getD] <;> omega) | decide) (by first | assumption | omega | (unfold maxLen; omega) | (simp [maxLen, -List.getD_eq_getElem?_getD] <;> omega) | decide)) Try.func20 [] [(.const (.int .i64 4), vI 4), (.tmp 39, (Z5h x)), (.tmp 40, (Z5i y))] 0 0)] ?_
  refine T.seq ?_
  by_cases hq2 : (eqE (numV x) (numV y)) ≠ 0
  ·exact absurd (by first | exact (vf_eq x y).2 | exact (vf_less x y).2 | exact (vf_less y x).2 | exact (rkF_yes (a := numV x) (b := numV y) (by unfold okOp; omega)).2) hq2
  by_cases hq3 : (lessE (numV x) (numV y)) ≠ 0
  ·exact absurd (by first | exact (vf_eq x y).2 | exact (vf_less x y).2 | exact (vf_less y x).2 | exact (rkF_yes (a := numV x) (b := numV y) (by unfold okOp; omega)).2) hq3
  by_cases hq4 : (lessE (numV y) (numV x)) ≠ 0
  ·exact absurd (by first | exact (vf_eq x y).2 | exact (vf_less x y).2 | exact (vf_less y x).2 | exact (rkF_yes (a := numV x) (b := numV y) (by unfold okOp; omega)).2) hq4
  refine sR [hY 3 (dF hq2),
    hY 4 (dF hq2),
    hP 5 (dF hq2),
    hY 7 (dF hq3),
    hY 8 (dF hq3),
    hP 9 (dF hq3),
    hY 11 (dF hq4),
    hY 12 (dF hq4),
    hP 13 (dF hq4)] ?_
  by_cases hq5 : (rkFE 4) ≠ 0
  ·exact absurd (by first | exact (vf_eq x y).2 | exact (vf_less x y).2 | exact (vf_less y x).2 | exact (rkF_yes (a := numV x) (b := numV y) (by unfold okOp; omega)).2) hq5
  refine cF (dF hq5) ?_
  refine T.skip (nT (T.seq ?_))
  by_cases hq6 : (nanB x) = true
  ·have hv9 := vf_nan (x := x) (y := y) (.inl hq6)
   refine sR [hR 2 rfl rfl (r_bin (u1 := .float .f64 x) (u2 := .float .f64 x) (v := .bool (nanB x)) b_nan (lt_of rfl) trivial),
     hN 4 false hq6,
     hN 5 false hq6,
     hN 6 false hq6,
     hP 7 hq6] ?_
   refine cT (b := true) rfl ?_
   by_cases hq7 : (eqV (numV x) (numV y)) = true
   ·exact absurd hq7 (by rw [hv9.1]; decide)
   replace hq7 := Bool.eq_false_iff.2 hq7
   by_cases hq8 : (lessV (numV x) (numV y)) = true
   ·exact absurd hq8 (by rw [hv9.2.1]; decide)
   replace hq8 := Bool.eq_false_iff.2 hq8
   by_cases hq9 : (lessV (numV y) (numV x)) = true
   ·exact absurd hq9 (by rw [hv9.2.2.1]; decide)
   replace hq9 := Bool.eq_false_iff.2 hq9
   by_cases hq10 : (nanB (rkFV 4 (numV x) (numV y)).f_Num) = true
   ·refine sR [hY 3 (cn hq7),
      hY 4 (cn hq7),
      hP 5 (cn hq7),
      hY 7 (cn hq8),
      hY 8 (cn hq8),
      hP 9 (cn hq8),
      hY 11 (cn hq9),
      hY 12 (cn hq9),
      hY 13 (cn hq9),
      hY 14 (cn hq9),
      hS 15 (oY rfl rfl rfl rfl (lt_of rfl) (cn hq9) (r_bin (u1 := .float .f64 (rkFV 4 (numV x) (numV y)).f_Num) (u2 := .float .f64 (rkFV 4 (numV x) (numV y)).f_Num) (v := .bool (nanB (rkFV 4 (numV x) (numV y)).f_Num)) b_nan (lt_of rfl) (by exact trivial))),
      hP 16 (cn hq9),
      hS 18 (oY rfl rfl rfl rfl (lt_of rfl) hq10 (rCa (law_awake  ) Try.func17 [] [] 0 0)),
      hP 19 hq10] ?_
    refine T.ret (rT ?_)
    exact eRt 4 (Z5j) [] rfl trivial
   replace hq10 := Bool.eq_false_iff.2 hq10
   exact absurd hv9.2.2.2 (nbF hq10)
  replace hq6 := Bool.eq_false_iff.2 hq6
  refine sR [hR 2 rfl rfl (r_bin (u1 := .float .f64 x) (u2 := .float .f64 x) (v := .bool (nanB x)) b_nan (lt_of rfl) trivial),
    hY 4 hq6,
    hY 5 hq6,
    hS 6 (oY rfl rfl rfl rfl (lt_of rfl) hq6 (r_bin (u1 := .float .f64 y) (u2 := .float .f64 y) (v := .bool (nanB y)) b_nan (lt_of rfl) (by exact trivial))),
    hP 7 hq6] ?_
  by_cases hq11 : (nanB y) = true
  ·have hv9 := vf_nan (x := x) (y := y) (.inr hq11)
   refine cT hq11 ?_
   by_cases hq12 : (eqV (numV x) (numV y)) = true
   ·exact absurd hq12 (by rw [hv9.1]; decide)
   replace hq12 := Bool.eq_false_iff.2 hq12
   by_cases hq13 : (lessV (numV x) (numV y)) = true
   ·exact absurd hq13 (by rw [hv9.2.1]; decide)
   replace hq13 := Bool.eq_false_iff.2 hq13
   by_cases hq14 : (lessV (numV y) (numV x)) = true
   ·exact absurd hq14 (by rw [hv9.2.2.1]; decide)
   replace hq14 := Bool.eq_false_iff.2 hq14
   by_cases hq15 : (nanB (rkFV 4 (numV x) (numV y)).f_Num) = true
   ·refine sR [hY 3 (cn hq12),
      hY 4 (cn hq12),
      hP 5 (cn hq12),
      hY 7 (cn hq13),
      hY 8 (cn hq13),
      hP 9 (cn hq13),
      hY 11 (cn hq14),
      hY 12 (cn hq14),
      hY 13 (cn hq14),
      hY 14 (cn hq14),
      hS 15 (oY rfl rfl rfl rfl (lt_of rfl) (cn hq14) (r_bin (u1 := .float .f64 (rkFV 4 (numV x) (numV y)).f_Num) (u2 := .float .f64 (rkFV 4 (numV x) (numV y)).f_Num) (v := .bool (nanB (rkFV 4 (numV x) (numV y)).f_Num)) b_nan (lt_of rfl) (by exact trivial))),
      hP 16 (cn hq14),
      hS 18 (oY rfl rfl rfl rfl (lt_of rfl) hq15 (rCa (law_awake  ) Try.func17 [] [] 0 0)),
      hP 19 hq15] ?_
    refine T.ret (rT ?_)
    exact eRt 4 (Z5j) [] rfl trivial
   replace hq15 := Bool.eq_false_iff.2 hq15
   exact absurd hv9.2.2.2 (nbF hq15)
  have hv9 := vf_tri (x := x) (y := y) (nbF ‹_›) hq11
  replace hq11 := Bool.eq_false_iff.2 hq11
  refine cF hq11 ?_
  refine T.skip (nT ?_)
  refine sR [] ?_
  refine T.seq ?_
  refine sR [] ?_
  by_cases hq16 : (eqV (numV x) (numV y)) = true
  ·refine cT hq16 ?_
   refine xK [hR 1 rfl rfl (r_bin (u1 := .int .i64 0) (u2 := .int .i64 1) (v := .int .i64 1) (b_add (by rw [IntKind.wrap_i64]; omega)) (lt_of rfl) ⟨rfl, trivial⟩)] ?_
   refine nT (T.seq ?_)
   refine sR [] ?_
   by_cases hq17 : (lessV (numV x) (numV y)) = true
   ·exact absurd hq17 (vf_no hv9.2.2 hq16).1
   replace hq17 := Bool.eq_false_iff.2 hq17
   refine cF hq17 ?_
   refine T.skip (nT (T.seq ?_))
   refine sR [] ?_
   by_cases hq18 : (lessV (numV y) (numV x)) = true
   ·exact absurd hq18 (vf_no hv9.2.2 hq16).2
   replace hq18 := Bool.eq_false_iff.2 hq18
   refine cF hq18 ?_
   refine T.skip (nT ?_)
   by_cases hq19 : (eqV (numV x) (numV y)) = (feqF x y)
   ·by_cases hq20 : (lessV (numV x) (numV y)) = (fltF x y)
    ·refine sR [hY1 3,
       hY1 4,
       hY1 5,
       hS 6 (oY (b := true) rfl rfl rfl rfl (lt_of rfl) rfl (r_bin (u1 := .float .f64 x) (u2 := .float .f64 y) (v := .bool (feqF x y)) b_feq (lt_of rfl) (by exact trivial))),
       hY1 7,
       hP1 8,
       hY 10 (dT hq19),
       hY 11 (dT hq19),
       hY 12 (dT hq19),
       hS 13 (oY rfl rfl rfl rfl (lt_of rfl) (dT hq19) (r_bin (u1 := .float .f64 x) (u2 := .float .f64 y) (v := .bool (fltF x y)) b_flt (lt_of rfl) (by exact trivial))),
       hY 14 (dT hq19),
       hP 15 (dT hq19),
       hS 17 (oY rfl rfl rfl rfl (lt_of rfl) (dT hq20) (rCa (law_awake  ) Try.func17 [] [] 0 0)),
       hP 18 (dT hq20)] ?_
     refine T.ret ?_
     exact eRt 4 (Z5j) [] rfl trivial
    exact absurd hv9.2.1 hq20
   exact absurd hv9.1 hq19
  replace hq16 := Bool.eq_false_iff.2 hq16
  refine cF hq16 ?_
  refine T.skip (nT (T.seq ?_))
  refine sR [] ?_
  by_cases hq21 : (lessV (numV x) (numV y)) = true
  ·refine cT hq21 ?_
   refine xK [hR 1 rfl rfl (r_bin (u1 := .int .i64 0) (u2 := .int .i64 1) (v := .int .i64 1) (b_add (by rw [IntKind.wrap_i64]; omega)) (lt_of rfl) ⟨rfl, trivial⟩)] ?_
   refine nT (T.seq ?_)
   refine sR [] ?_
   by_cases hq22 : (lessV (numV y) (numV x)) = true
   ·exact absurd hq22 (vf_no2 hv9.2.2 hq21)
   replace hq22 := Bool.eq_false_iff.2 hq22
   refine cF hq22 ?_
   refine T.skip (nT ?_)
   by_cases hq23 : (eqV (numV x) (numV y)) = (feqF x y)
   ·by_cases hq24 : (lessV (numV x) (numV y)) = (fltF x y)
    ·refine sR [hY1 3,
       hY1 4,
       hY1 5,
       hS 6 (oY (b := true) rfl rfl rfl rfl (lt_of rfl) rfl (r_bin (u1 := .float .f64 x) (u2 := .float .f64 y) (v := .bool (feqF x y)) b_feq (lt_of rfl) (by exact trivial))),
       hY1 7,
       hP1 8,
       hY 10 (dT hq23),
       hY 11 (dT hq23),
       hY 12 (dT hq23),
       hS 13 (oY rfl rfl rfl rfl (lt_of rfl) (dT hq23) (r_bin (u1 := .float .f64 x) (u2 := .float .f64 y) (v := .bool (fltF x y)) b_flt (lt_of rfl) (by exact trivial))),
       hY 14 (dT hq23),
       hP 15 (dT hq23),
       hS 17 (oY rfl rfl rfl rfl (lt_of rfl) (dT hq24) (rCa (law_awake  ) Try.func17 [] [] 0 0)),
       hP 18 (dT hq24)] ?_
     refine T.ret ?_
     exact eRt 4 (Z5j) [] rfl trivial
    exact absurd hv9.2.1 hq24
   exact absurd hv9.1 hq23
  replace hq21 := Bool.eq_false_iff.2 hq21
  refine cF hq21 ?_
  refine T.skip (nT (T.seq ?_))
  refine sR [] ?_
  by_cases hq25 : (lessV (numV y) (numV x)) = true
  ·refine cT hq25 ?_
   refine xK [hR 1 rfl rfl (r_bin (u1 := .int .i64 0) (u2 := .int .i64 1) (v := .int .i64 1) (b_add (by rw [IntKind.wrap_i64]; omega)) (lt_of rfl) ⟨rfl, trivial⟩)] ?_
   refine nT ?_
   by_cases hq26 : (eqV (numV x) (numV y)) = (feqF x y)
   ·by_cases hq27 : (lessV (numV x) (numV y)) = (fltF x y)
    ·refine sR [hY1 3,
       hY1 4,
       hY1 5,
       hS 6 (oY (b := true) rfl rfl rfl rfl (lt_of rfl) rfl (r_bin (u1 := .float .f64 x) (u2 := .float .f64 y) (v := .bool (feqF x y)) b_feq (lt_of rfl) (by exact trivial))),
       hY1 7,
       hP1 8,
       hY 10 (dT hq26),
       hY 11 (dT hq26),
       hY 12 (dT hq26),
       hS 13 (oY rfl rfl rfl rfl (lt_of rfl) (dT hq26) (r_bin (u1 := .float .f64 x) (u2 := .float .f64 y) (v := .bool (fltF x y)) b_flt (lt_of rfl) (by exact trivial))),
       hY 14 (dT hq26),
       hP 15 (dT hq26),
       hS 17 (oY rfl rfl rfl rfl (lt_of rfl) (dT hq27) (rCa (law_awake  ) Try.func17 [] [] 0 0)),
       hP 18 (dT hq27)] ?_
     refine T.ret ?_
     exact eRt 4 (Z5j) [] rfl trivial
    exact absurd hv9.2.1 hq27
   exact absurd hv9.1 hq26
  replace hq25 := Bool.eq_false_iff.2 hq25
  exact absurd (vf_yes hv9.2.2 (nbF hq16) (nbF hq21)) (nbF hq25)
 exact absurd (both_numV x y) hq1
end Go.Proofs.Ytlabmehgcfgigaa.Q
