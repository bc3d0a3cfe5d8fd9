import Derived.Test.YtlabmehgcfgigaaC04n2
namespace Go.Proofs.Ytlabmehgcfgigaa.Q
open Go Go.RowKit
set_option linter.unusedVariables false
set_option linter.unusedSimpArgs false
set_option maxRecDepth 100000
set_option maxHeartbeats 4000000
theorem zero_24 : Zero Try.prog 24 [.int .i64 0, .int .i64 0, .bool false, strV [], .float .f64 0] := ⟨_, _, iat_24, rfl, rfl⟩
abbrev Zr (a : api_Value) : SV := dI a.f_Kind
abbrev Zs : SV := .d (.val (.float .f64 0))
abbrev Zt : TV := .one (dB true)
theorem value_part (a : api_Value) : Holds Try.prog 59 ⟨[.tv (.agg [dI a.f_Kind, dI a.f_Int, dB a.f_Bool, dS a.f_Text, .d (.val (.float .f64 a.f_Num))])], [], .tup [.agg [dI (partV a).f_Kind, dI (partV a).f_Int, dB (partV a).f_Bool, dS (partV a).f_Text, .d (.val (.float .f64 (partV a).f_Num))], .one (dB (decide (1 ≤ a.f_Kind ∧ a.f_Kind ≤ 4)))], []⟩ := by
 refine Holds.of Try.func59 rfl (N := 32) Try.ntmps59 rfl fun w0 B0 S0 U0 => ?_
 show T _ (mkBase 32 0 w0 S0 U0 B0) ⟨[.tv (.agg [(Zr a), dI a.f_Int, dB a.f_Bool, dS a.f_Text, .d (.val (.float .f64 a.f_Num))])], []⟩ _ _
 refine sR [] ?_
 refine sR [] ?_
 refine T.seq ?_
 refine sR [] ?_
 refine T.block ?_
 refine sR [] ?_
 by_cases hq1 : a.f_Kind = 1
 ·refine cT (dT hq1) ?_
  refine xK [] ?_
  refine nB ?_
  refine nT ?_
  refine sR [] ?_
  refine T.ret ?_
  exact eX [.c 2 1 24 0 24 [(Zr a), dI a.f_Int, dB false, dS [], Zs] (.agg [(Zr a), dI a.f_Int, dB false, dS [], Zs]), .t 3 (Zt)] ⟨⟨rfl, rfl, by kernel_rfl, by kernel_rfl, .inl ⟨5, wide_24, rfl, Nat.le_of_ble_eq_true rfl⟩⟩, ⟨⟨rfl, by kernel_rfl⟩, trivial⟩⟩ [] (by have e1 : ((partV a).f_Kind : Int) = a.f_Kind := (by rfl); have e2 : ((partV a).f_Int : Int) = a.f_Int := (by (simp [partV, *]; done)); have e3 : ((partV a).f_Bool : Bool) = false := (by (simp [partV, *]; done)); have e4 : ((partV a).f_Text : List UInt8) = [] := (by (simp [partV, *]; done)); have e5 : ((partV a).f_Num : Nat) = 0 := (by (simp [partV, *]; done)); have e6 : ((decide (1 ≤ a.f_Kind ∧ a.f_Kind ≤ 4)) : Bool) = true := (by (simp [partV, *]; done)); have hE := congr (congr (congr (congr (congr (congrArg (fun (q1 : Int) (q2 : Int) (q3 : Bool) (q4 : List UInt8) (q5 : Nat) (q6 : Bool) => (.tup [.agg [dI q1, dI q2, dB q3, dS q4, .d (.val (.float .f64 q5))], .one (dB q6)] : AV)) e1) e2) e3) e4) e5) e6; exact hE) trivial
 refine cF (dF hq1) ?_
 refine sR [] ?_
 by_cases hq2 : a.f_Kind = 2
 ·refine cT (dT hq2) ?_
  refine xK [] ?_
  refine nB ?_
  refine nT ?_
  refine sR [] ?_
  refine T.ret ?_
  exact eX [.c 2 1 24 0 24 [(Zr a), dI 0, dB a.f_Bool, dS [], Zs] (.agg [(Zr a), dI 0, dB a.f_Bool, dS [], Zs]), .t 3 (Zt)] ⟨⟨rfl, rfl, by kernel_rfl, by kernel_rfl, .inl ⟨5, wide_24, rfl, Nat.le_of_ble_eq_true rfl⟩⟩, ⟨⟨rfl, by kernel_rfl⟩, trivial⟩⟩ [] (by have e1 : ((partV a).f_Kind : Int) = a.f_Kind := (by rfl); have e2 : ((partV a).f_Int : Int) = 0 := (by (simp [partV, *]; done)); have e3 : ((partV a).f_Bool : Bool) = a.f_Bool := (by (simp [partV, *]; done)); have e4 : ((partV a).f_Text : List UInt8) = [] := (by (simp [partV, *]; done)); have e5 : ((partV a).f_Num : Nat) = 0 := (by (simp [partV, *]; done)); have e6 : ((decide (1 ≤ a.f_Kind ∧ a.f_Kind ≤ 4)) : Bool) = true := (by (simp [partV, *]; done)); have hE := congr (congr (congr (congr (congr (congrArg (fun (q1 : Int) (q2 : Int) (q3 : Bool) (q4 : List UInt8) (q5 : Nat) (q6 : Bool) => (.tup [.agg [dI q1, dI q2, dB q3, dS q4, .d (.val (.float .f64 q5))], .one (dB q6)] : AV)) e1) e2) e3) e4) e5) e6; exact hE) trivial
 refine cF (dF hq2) ?_
 refine sR [] ?_
 by_cases hq3 : a.f_Kind = 3
 ·refine cT (dT hq3) ?_
  refine xK [] ?_
  refine nB ?_
  refine nT ?_
  refine sR [] ?_
  refine T.ret ?_
  exact eX [.c 2 1 24 0 24 [(Zr a), dI 0, dB false, dS a.f_Text, Zs] (.agg [(Zr a), dI 0, dB false, dS a.f_Text, Zs]), .t 3 (Zt)] ⟨⟨rfl, rfl, by kernel_rfl, by kernel_rfl, .inl ⟨5, wide_24, rfl, Nat.le_of_ble_eq_true rfl⟩⟩, ⟨⟨rfl, by kernel_rfl⟩, trivial⟩⟩ [] (by have e1 : ((partV a).f_Kind : Int) = a.f_Kind := (by rfl); have e2 : ((partV a).f_Int : Int) = 0 := (by (simp [partV, *]; done)); have e3 : ((partV a).f_Bool : Bool) = false := (by (simp [partV, *]; done)); have e4 : ((partV a).f_Text : List UInt8) = a.f_Text := (by (simp [partV, *]; done)); have e5 : ((partV a).f_Num : Nat) = 0 := (by (simp [partV, *]; done)); have e6 : ((decide (1 ≤ a.f_Kind ∧ a.f_Kind ≤ 4)) : Bool) = true := (by (simp [partV, *]; done)); have hE := congr (congr (congr (congr (congr (congrArg (fun (q1 : Int) (q2 : Int) (q3 : Bool) (q4 : List UInt8) (q5 : Nat) (q6 : Bool) => (.tup [.agg [dI q1, dI q2, dB q3, dS q4, .d (.val (.float .f64 q5))], .one (dB q6)] : AV)) e1) e2) e3) e4) e5) e6; exact hE) trivial
 refine cF (dF hq3) ?_
 refine sR [] ?_
 by_cases hq4 : a.f_Kind = 4
 ·refine cT (dT hq4) ?_
  refine xK [] ?_
  refine nB ?_
  refine nT ?_
  refine sR [] ?_
  refine T.ret ?_
  exact eX [.c 2 1 24 0 24 [(Zr a), dI 0, dB false, dS [], .d (.val (.float .f64 a.f_Num))] (.agg [(Zr a), dI 0, dB false, dS [], .d (.val (.float .f64 a.f_Num))]), .t 3 (Zt)] ⟨⟨rfl, rfl, by kernel_rfl, by kernel_rfl, .inl ⟨5, wide_24, rfl, Nat.le_of_ble_eq_true rfl⟩⟩, ⟨⟨rfl, by kernel_rfl⟩, trivial⟩⟩ [] (by have e1 : ((partV a).f_Kind : Int) = a.f_Kind := (by rfl); have e2 : ((partV a).f_Int : Int) = 0 := (by (simp [partV, *]; done)); have e3 : ((partV a).f_Bool : Bool) = false := (by (simp [partV, *]; done)); have e4 : ((partV a).f_Text : List UInt8) = [] := (by (simp [partV, *]; done)); have e5 : ((partV a).f_Num : Nat) = a.f_Num := (by (simp [partV, *]; done)); have e6 : ((decide (1 ≤ a.f_Kind ∧ a.f_Kind ≤ 4)) : Bool) = true := (by (simp [partV, *]; done)); have hE := congr (congr (congr (congr (congr (congrArg (fun (q1 : Int) (q2 : Int) (q3 : Bool) (q4 : List UInt8) (q5 : Nat) (q6 : Bool) => (.tup [.agg [dI q1, dI q2, dB q3, dS q4, .d (.val (.float .f64 q5))], .one (dB q6)] : AV)) e1) e2) e3) e4) e5) e6; exact hE) trivial
 refine cF (dF hq4) ?_
 refine sR [] ?_
 refine T.ret (rB (rT ?_))
 exact eX [.c 2 1 24 0 24 [(Zr a), dI 0, dB false, dS [], Zs] (.agg [(Zr a), dI 0, dB false, dS [], Zs]), .t 3 (.one (dB false))] ⟨⟨rfl, rfl, by kernel_rfl, by kernel_rfl, .inl ⟨5, wide_24, rfl, Nat.le_of_ble_eq_true rfl⟩⟩, ⟨⟨rfl, by kernel_rfl⟩, trivial⟩⟩ [] (by have e1 : ((partV a).f_Kind : Int) = a.f_Kind := (by rfl); have e2 : ((partV a).f_Int : Int) = 0 := (by (simp [partV, *]; done)); have e3 : ((partV a).f_Bool : Bool) = false := (by (simp [partV, *]; done)); have e4 : ((partV a).f_Text : List UInt8) = [] := (by (simp [partV, *]; done)); have e5 : ((partV a).f_Num : Nat) = 0 := (by (simp [partV, *]; done)); have e6 : ((decide (1 ≤ a.f_Kind ∧ a.f_Kind ≤ 4)) : Bool) = false := (by exact dF (by omega)); have hE := congr (congr (congr (congr (congr (congrArg (fun (q1 : Int) (q2 : Int) (q3 : Bool) (q4 : List UInt8) (q5 : Nat) (q6 : Bool) => (.tup [.agg [dI q1, dI q2, dB q3, dS q4, .d (.val (.float .f64 q5))], .one (dB q6)] : AV)) e1) e2) e3) e4) e5) e6; exact hE) trivial
abbrev Zu (a : api_Value) : AV := .tv (.agg [dI a.f_Kind, dI a.f_Int, dB a.f_Bool, dS a.f_Text, .d (.val (.float .f64 a.f_Num))])
abbrev Zv (a : api_Value) : AV := .tv (.agg [dI (partV a).f_Kind, dI (partV a).f_Int, dB (partV a).f_Bool, dS (partV a).f_Text, .d (.val (.float .f64 (partV a).f_Num))])
theorem value_Good (a : api_Value) : Holds Try.prog 31 ⟨[.tv (.agg [dI a.f_Kind, dI a.f_Int, dB a.f_Bool, dS a.f_Text, .d (.val (.float .f64 a.f_Num))])], [], vB (decide (goodV a)), []⟩ := by
 refine Holds.of Try.func31 rfl (N := 22) Try.ntmps31 rfl fun w0 B0 S0 U0 => ?_
 show T _ (mkBase 22 0 w0 S0 U0 B0) ⟨[(Zu a)], []⟩ _ _
 refine sR [] ?_
 refine sR [hR 1 rfl rfl (rCa (value_part a ) Try.func59 [] [(.tmp 6, (Zu a))] 0 0)] ?_
 by_cases hq1 : 1 ≤ a.f_Kind ∧ a.f_Kind ≤ 4
 ·by_cases hq2 : sameV a (partV a)
  ·refine sR [hY 2 (dT hq1),
     hY 3 (dT hq1),
     hS 4 (oY rfl rfl rfl rfl (lt_of rfl) (dT hq1) (rCa (value_Same a (partV a) ) Try.func15 [] [(.tmp 12, (Zu a)), (.tmp 13, (Zv a))] 0 0)),
     hP 5 (dT hq1),
     hY 7 (dT hq2),
     hY 8 (dT hq2),
     hY 9 (dT hq2),
     hY 10 (dT hq2),
     hP 11 (dT hq2)] ?_
   refine T.ret ?_
   exact eRt 2 (.one (dB (decide (((a.f_Text.length : Nat) : Int) ≤ 32)))) [] (cB (by (exact decide_eq_decide.2 ⟨fun h9 => h9.2.2, fun h9 => ⟨by assumption, by assumption, h9⟩⟩))) trivial
  refine sR [hY 2 (dT hq1),
    hY 3 (dT hq1),
    hS 4 (oY rfl rfl rfl rfl (lt_of rfl) (dT hq1) (rCa (value_Same a (partV a) ) Try.func15 [] [(.tmp 12, (Zu a)), (.tmp 13, (Zv a))] 0 0)),
    hP 5 (dT hq1),
    hN 7 true (dF hq2),
    hN 8 true (dF hq2),
    hN 9 true (dF hq2),
    hN 10 true (dF hq2),
    hP 11 (dF hq2)] ?_
  refine T.ret ?_
  exact eRt 2 (.one (dB false)) [] (cB (by (exact dF (fun h9 => absurd h9.2.1 ‹_›)))) trivial
 refine sR [hN 2 true (dF hq1),
   hN 3 true (dF hq1),
   hN 4 true (dF hq1),
   hP 5 (dF hq1),
   hN1 7,
   hN1 8,
   hN1 9,
   hN1 10,
   hP0 11] ?_
 refine T.ret ?_
 exact eRt 2 (.one (dB false)) [] (cB (by (exact dF (fun h9 => absurd h9.1 ‹_›)))) trivial
section
variable (a : api_Value)
abbrev Zw : TV := .one (dB false)
abbrev Zx : AV := vB (decide (a.f_Text ≠ []))
abbrev Zy : TV := .one (dB true)
abbrev Zz : AV := dv (.float .f64 a.f_Num)
abbrev Z10 : TV := .one (dB (decide (((bitsF a.f_Num : Nat) : Int) = 0)))
end
theorem ref04_Good (a : api_Value) : Holds Try.prog 18 ⟨[.tv (.agg [dI a.f_Kind, dI a.f_Int, dB a.f_Bool, dS a.f_Text, .d (.val (.float .f64 a.f_Num))])], [], vB (decide (goodV a)), []⟩ := by
 refine Holds.of Try.func18 rfl (N := 53) Try.ntmps18 rfl fun w0 B0 S0 U0 => ?_
 show T _ (mkBase 53 0 w0 S0 U0 B0) ⟨[.tv (.agg [dI a.f_Kind, dI a.f_Int, dB a.f_Bool, dS a.f_Text, .d (.val (.float .f64 a.f_Num))])], []⟩ _ _
 have hgi := good_iff (v := a)
 refine sR [] ?_
 refine T.seq ?_
 by_cases hq1 : a.f_Kind < 1
 ·refine sR [hN 4 false (dT hq1),
    hN 5 false (dT hq1),
    hN 6 false (dT hq1),
    hP 7 (dT hq1),
    hN0 9,
    hN0 10,
    hN0 11,
    hN0 12,
    hP1 13] ?_
  refine cT (b := true) rfl ?_
  refine sR [] ?_
  refine T.ret (rT ?_)
  exact eRt 2 (Zw) [] (cB (by (exact dF (fun h9 => by obtain ⟨g1, g2, g3, g4, g5, g6⟩ := hgi.1 h9; omega)))) trivial
 by_cases hq2 : a.f_Kind > 4
 ·refine sR [hY 4 (dF hq1),
    hY 5 (dF hq1),
    hY 6 (dF hq1),
    hP 7 (dF hq1),
    hN 9 false (dT hq2),
    hN 10 false (dT hq2),
    hN 11 false (dT hq2),
    hN 12 false (dT hq2),
    hP 13 (dT hq2)] ?_
  refine cT (b := true) rfl ?_
  refine sR [] ?_
  refine T.ret (rT ?_)
  exact eRt 2 (Zw) [] (cB (by (exact dF (fun h9 => by obtain ⟨g1, g2, g3, g4, g5, g6⟩ := hgi.1 h9; omega)))) trivial
 refine sR [hY 4 (dF hq1),
   hY 5 (dF hq1),
   hY 6 (dF hq1),
   hP 7 (dF hq1),
   hY 9 (dF hq2),
   hY 10 (dF hq2),
   hY 11 (dF hq2),
   hY 12 (dF hq2),
   hP 13 (dF hq2)] ?_
 by_cases hq3 : ((a.f_Text.length : Nat) : Int) > 32
 ·refine cT (dT hq3) ?_
  refine sR [] ?_
  refine T.ret (rT ?_)
  exact eRt 2 (Zw) [] (cB (by (exact dF (fun h9 => by obtain ⟨g1, g2, g3, g4, g5, g6⟩ := hgi.1 h9; omega)))) trivial
 refine cF (dF hq3) ?_
 refine T.skip (nT (T.seq ?_))
 by_cases hq4 : a.f_Kind ≠ 1
 ·by_cases hq5 : a.f_Int ≠ 0
  ·refine sR [hY 4 (dT hq4),
     hY 5 (dT hq4),
     hY 6 (dT hq4),
     hP 7 (dT hq4),
     hN 9 false (dT hq5),
     hN 10 false (dT hq5),
     hN 11 false (dT hq5),
     hN 12 false (dT hq5),
     hU 13,
     hU 14,
     hN 15 false (dT hq5),
     hP 16 (dT hq5),
     hN0 18,
     hN0 19,
     hN0 20,
     hN0 21,
     hU 22,
     hU 23,
     hU 24,
     hN0 25,
     hP1 26] ?_
   refine cT (b := true) rfl ?_
   refine sR [] ?_
   refine T.ret (rT ?_)
   exact eRt 2 (Zw) [] (cB (by (exact dF (fun h9 => by obtain ⟨g1, g2, g3, g4, g5, g6⟩ := hgi.1 h9; omega)))) trivial
  by_cases hq6 : a.f_Kind ≠ 2
  ·by_cases hq7 : a.f_Bool = true
   ·refine sR [hY 4 (dT hq4),
      hY 5 (dT hq4),
      hY 6 (dT hq4),
      hP 7 (dT hq4),
      hY 9 (dF hq5),
      hY 10 (dF hq5),
      hY 11 (dF hq5),
      hY 12 (dF hq5),
      hY 13 (dT hq6),
      hY 14 (dT hq6),
      hS 15 (oY rfl rfl rfl rfl (lt_of rfl) (dF hq5) (r_pickT (b := (decide (a.f_Kind ≠ 2))) (av := vB a.f_Bool) (lt_of rfl) trivial (dT hq6))),
      hP 16 (dF hq5),
      hN 18 false hq7,
      hN 19 false hq7,
      hN 20 false hq7,
      hN 21 false hq7,
      hU 22,
      hU 23,
      hU 24,
      hN 25 false hq7,
      hP 26 hq7] ?_
    refine cT (b := true) rfl ?_
    refine sR [] ?_
    refine T.ret (rT ?_)
    exact eRt 2 (Zw) [] (by have e1 : ((decide (goodV a)) : Bool) = false := (by (exact dF (fun h9 => by obtain ⟨g1, g2, g3, g4, g5, g6⟩ := hgi.1 h9; simp_all))); have hE := cB e1; exact hE) trivial
   replace hq7 := Bool.eq_false_iff.2 hq7
   by_cases hq8 : a.f_Kind ≠ 3
   ·refine sR [hY 4 (dT hq4),
      hY 5 (dT hq4),
      hY 6 (dT hq4),
      hP 7 (dT hq4),
      hY 9 (dF hq5),
      hY 10 (dF hq5),
      hY 11 (dF hq5),
      hY 12 (dF hq5),
      hY 13 (dT hq6),
      hY 14 (dT hq6),
      hS 15 (oY rfl rfl rfl rfl (lt_of rfl) (dF hq5) (r_pickT (b := (decide (a.f_Kind ≠ 2))) (av := vB a.f_Bool) (lt_of rfl) trivial (dT hq6))),
      hP 16 (dF hq5),
      hY 18 hq7,
      hY 19 hq7,
      hY 20 hq7,
      hY 21 hq7,
      hY 22 (dT hq8),
      hY 23 (dT hq8),
      hY 24 (dT hq8),
      hS 25 (oY rfl rfl rfl rfl (lt_of rfl) hq7 (r_pickT (b := (decide (a.f_Kind ≠ 3))) (av := (Zx a)) (lt_of rfl) trivial (dT hq8))),
      hP 26 hq7] ?_
    by_cases hq9 : a.f_Text ≠ []
    ·refine cT (dT hq9) ?_
     refine sR [] ?_
     refine T.ret (rT ?_)
     exact eRt 2 (Zw) [] (by have e1 : ((decide (goodV a)) : Bool) = false := (by (exact dF (fun h9 => by obtain ⟨g1, g2, g3, g4, g5, g6⟩ := hgi.1 h9; simp_all))); have hE := cB e1; exact hE) trivial
    refine cF (dF hq9) ?_
    refine T.skip (nT ?_)
    by_cases hq10 : a.f_Kind = 4
    ·refine sR [hN 4 false (dT hq10),
       hN 5 false (dT hq10),
       hN 6 false (dT hq10),
       hN 7 false (dT hq10),
       hP 8 (dT hq10)] ?_
     refine T.ret ?_
     exact eRt 2 (Zy) [] (by have e1 : ((decide (goodV a)) : Bool) = true := (by (exact dT (hgi.2 ⟨by omega, by omega, by (right; omega), by simp_all, by simp_all, by (left; assumption)⟩))); have hE := cB e1; exact hE) trivial
    refine sR [hY 4 (dF hq10),
      hY 5 (dF hq10),
      hS 6 (oY rfl rfl rfl rfl (lt_of rfl) (dF hq10) (rCa (ref01_Bits a.f_Num ) Try.func48 [] [(.tmp 49, (Zz a))] 0 0)),
      hY 7 (dF hq10),
      hP 8 (dF hq10)] ?_
    refine T.ret ?_
    exact eRt 2 ((Z10 a)) [] (by have e1 : ((decide (goodV a)) : Bool) = (decide (((bitsF a.f_Num : Nat) : Int) = 0)) := (by (exact decide_eq_decide.2 ⟨fun h9 => by obtain ⟨g1, g2, g3, g4, g5, g6⟩ := hgi.1 h9; simp_all, fun h9 => hgi.2 ⟨by omega, by omega, by (left; omega), by (left; omega), by (left; omega), .inr h9⟩⟩)); have hE := cB e1; exact hE) trivial
   refine sR [hY 4 (dT hq4),
     hY 5 (dT hq4),
     hY 6 (dT hq4),
     hP 7 (dT hq4),
     hY 9 (dF hq5),
     hY 10 (dF hq5),
     hY 11 (dF hq5),
     hY 12 (dF hq5),
     hY 13 (dT hq6),
     hY 14 (dT hq6),
     hS 15 (oY rfl rfl rfl rfl (lt_of rfl) (dF hq5) (r_pickT (b := (decide (a.f_Kind ≠ 2))) (av := vB a.f_Bool) (lt_of rfl) trivial (dT hq6))),
     hP 16 (dF hq5),
     hY 18 hq7,
     hY 19 hq7,
     hY 20 hq7,
     hY 21 hq7,
     hN 22 true (dF hq8),
     hN 23 true (dF hq8),
     hN 24 true (dF hq8),
     hS 25 (oY rfl rfl rfl rfl (lt_of rfl) hq7 (r_pickF (b := (decide (a.f_Kind ≠ 3))) (av := vB false) (lt_of rfl) ⟨rfl, trivial⟩ (dF hq8))),
     hP 26 hq7] ?_
   refine cF (b := false) rfl ?_
   refine T.skip (nT ?_)
   by_cases hq11 : a.f_Kind = 4
   ·refine sR [hN 4 false (dT hq11),
      hN 5 false (dT hq11),
      hN 6 false (dT hq11),
      hN 7 false (dT hq11),
      hP 8 (dT hq11)] ?_
    refine T.ret ?_
    exact eRt 2 (Zy) [] (cB (by (exact dT (hgi.2 ⟨by omega, by omega, by (left; omega), by (left; omega), by (left; omega), by (left; assumption)⟩)))) trivial
   refine sR [hY 4 (dF hq11),
     hY 5 (dF hq11),
     hS 6 (oY rfl rfl rfl rfl (lt_of rfl) (dF hq11) (rCa (ref01_Bits a.f_Num ) Try.func48 [] [(.tmp 49, (Zz a))] 0 0)),
     hY 7 (dF hq11),
     hP 8 (dF hq11)] ?_
   refine T.ret ?_
   exact eRt 2 ((Z10 a)) [] (by have e1 : ((decide (goodV a)) : Bool) = (decide (((bitsF a.f_Num : Nat) : Int) = 0)) := (by (exact decide_eq_decide.2 ⟨fun h9 => by obtain ⟨g1, g2, g3, g4, g5, g6⟩ := hgi.1 h9; simp_all, fun h9 => hgi.2 ⟨by omega, by omega, by simp_all, by simp_all, by (left; omega), .inr h9⟩⟩)); have hE := cB e1; exact hE) trivial
  by_cases hq12 : a.f_Kind ≠ 3
  ·refine sR [hY 4 (dT hq4),
     hY 5 (dT hq4),
     hY 6 (dT hq4),
     hP 7 (dT hq4),
     hY 9 (dF hq5),
     hY 10 (dF hq5),
     hY 11 (dF hq5),
     hY 12 (dF hq5),
     hN 13 true (dF hq6),
     hN 14 true (dF hq6),
     hS 15 (oY rfl rfl rfl rfl (lt_of rfl) (dF hq5) (r_pickF (b := (decide (a.f_Kind ≠ 2))) (av := vB false) (lt_of rfl) ⟨rfl, trivial⟩ (dF hq6))),
     hP 16 (dF hq5),
     hY0 18,
     hY0 19,
     hY0 20,
     hY0 21,
     hY 22 (dT hq12),
     hY 23 (dT hq12),
     hY 24 (dT hq12),
     hS 25 (oY (b := false) rfl rfl rfl rfl (lt_of rfl) rfl (r_pickT (b := (decide (a.f_Kind ≠ 3))) (av := (Zx a)) (lt_of rfl) trivial (dT hq12))),
     hP0 26] ?_
   by_cases hq13 : a.f_Text ≠ []
   ·refine cT (dT hq13) ?_
    refine sR [] ?_
    refine T.ret (rT ?_)
    exact eRt 2 (Zw) [] (by have e1 : ((decide (goodV a)) : Bool) = false := (by (exact dF (fun h9 => by obtain ⟨g1, g2, g3, g4, g5, g6⟩ := hgi.1 h9; simp_all))); have hE := cB e1; exact hE) trivial
   refine cF (dF hq13) ?_
   refine T.skip (nT ?_)
   by_cases hq14 : a.f_Kind = 4
   ·refine sR [hN 4 false (dT hq14),
      hN 5 false (dT hq14),
      hN 6 false (dT hq14),
      hN 7 false (dT hq14),
      hP 8 (dT hq14)] ?_
    refine T.ret ?_
    exact eRt 2 (Zy) [] (cB (by (exact dT (hgi.2 ⟨by omega, by omega, by (left; omega), by (left; omega), by (left; omega), by (left; assumption)⟩)))) trivial
   refine sR [hY 4 (dF hq14),
     hY 5 (dF hq14),
     hS 6 (oY rfl rfl rfl rfl (lt_of rfl) (dF hq14) (rCa (ref01_Bits a.f_Num ) Try.func48 [] [(.tmp 49, (Zz a))] 0 0)),
     hY 7 (dF hq14),
     hP 8 (dF hq14)] ?_
   refine T.ret ?_
   exact eRt 2 ((Z10 a)) [] (by have e1 : ((decide (goodV a)) : Bool) = (decide (((bitsF a.f_Num : Nat) : Int) = 0)) := (by (exact decide_eq_decide.2 ⟨fun h9 => by obtain ⟨g1, g2, g3, g4, g5, g6⟩ := hgi.1 h9; simp_all, fun h9 => hgi.2 ⟨by omega, by omega, by simp_all, by (left; omega), by simp_all, .inr h9⟩⟩)); have hE := cB e1; exact hE) trivial
  refine sR [hY 4 (dT hq4),
    hY 5 (dT hq4),
    hY 6 (dT hq4),
    hP 7 (dT hq4),
    hY 9 (dF hq5),
    hY 10 (dF hq5),
    hY 11 (dF hq5),
    hY 12 (dF hq5),
    hN 13 true (dF hq6),
    hN 14 true (dF hq6),
    hS 15 (oY rfl rfl rfl rfl (lt_of rfl) (dF hq5) (r_pickF (b := (decide (a.f_Kind ≠ 2))) (av := vB false) (lt_of rfl) ⟨rfl, trivial⟩ (dF hq6))),
    hP 16 (dF hq5),
    hY0 18,
    hY0 19,
    hY0 20,
    hY0 21,
    hN 22 true (dF hq12),
    hN 23 true (dF hq12),
    hN 24 true (dF hq12),
    hS 25 (oY (b := false) rfl rfl rfl rfl (lt_of rfl) rfl (r_pickF (b := (decide (a.f_Kind ≠ 3))) (av := vB false) (lt_of rfl) ⟨rfl, trivial⟩ (dF hq12))),
    hP0 26] ?_
  refine cF (b := false) rfl ?_
  refine T.skip (nT ?_)
  by_cases hq15 : a.f_Kind = 4
  ·refine sR [hN 4 false (dT hq15),
     hN 5 false (dT hq15),
     hN 6 false (dT hq15),
     hN 7 false (dT hq15),
     hP 8 (dT hq15)] ?_
   refine T.ret ?_
   exact eRt 2 (Zy) [] (cB (by (exact dT (hgi.2 ⟨by omega, by omega, by (left; omega), by (left; omega), by (left; omega), by (left; assumption)⟩)))) trivial
  refine sR [hY 4 (dF hq15),
    hY 5 (dF hq15),
    hS 6 (oY rfl rfl rfl rfl (lt_of rfl) (dF hq15) (rCa (ref01_Bits a.f_Num ) Try.func48 [] [(.tmp 49, (Zz a))] 0 0)),
    hY 7 (dF hq15),
    hP 8 (dF hq15)] ?_
  refine T.ret ?_
  exact eRt 2 ((Z10 a)) [] (by have e1 : ((decide (goodV a)) : Bool) = (decide (((bitsF a.f_Num : Nat) : Int) = 0)) := (by (exact decide_eq_decide.2 ⟨fun h9 => by obtain ⟨g1, g2, g3, g4, g5, g6⟩ := hgi.1 h9; simp_all, fun h9 => hgi.2 ⟨by omega, by omega, by (left; omega), by (left; omega), by (left; omega), .inr h9⟩⟩)); have hE := cB e1; exact hE) trivial
 by_cases hq16 : a.f_Kind ≠ 2
 ·by_cases hq17 : a.f_Bool = true
  ·refine sR [hN 4 true (dF hq4),
     hN 5 true (dF hq4),
     hN 6 true (dF hq4),
     hP 7 (dF hq4),
     hY0 9,
     hY0 10,
     hY0 11,
     hY0 12,
     hY 13 (dT hq16),
     hY 14 (dT hq16),
     hS 15 (oY (b := false) rfl rfl rfl rfl (lt_of rfl) rfl (r_pickT (b := (decide (a.f_Kind ≠ 2))) (av := vB a.f_Bool) (lt_of rfl) trivial (dT hq16))),
     hP0 16,
     hN 18 false hq17,
     hN 19 false hq17,
     hN 20 false hq17,
     hN 21 false hq17,
     hU 22,
     hU 23,
     hU 24,
     hN 25 false hq17,
     hP 26 hq17] ?_
   refine cT (b := true) rfl ?_
   refine sR [] ?_
   refine T.ret (rT ?_)
   exact eRt 2 (Zw) [] (by have e1 : ((decide (goodV a)) : Bool) = false := (by (exact dF (fun h9 => by obtain ⟨g1, g2, g3, g4, g5, g6⟩ := hgi.1 h9; simp_all))); have hE := cB e1; exact hE) trivial
  replace hq17 := Bool.eq_false_iff.2 hq17
  by_cases hq18 : a.f_Kind ≠ 3
  ·refine sR [hN 4 true (dF hq4),
     hN 5 true (dF hq4),
     hN 6 true (dF hq4),
     hP 7 (dF hq4),
     hY0 9,
     hY0 10,
     hY0 11,
     hY0 12,
     hY 13 (dT hq16),
     hY 14 (dT hq16),
     hS 15 (oY (b := false) rfl rfl rfl rfl (lt_of rfl) rfl (r_pickT (b := (decide (a.f_Kind ≠ 2))) (av := vB a.f_Bool) (lt_of rfl) trivial (dT hq16))),
     hP0 16,
     hY 18 hq17,
     hY 19 hq17,
     hY 20 hq17,
     hY 21 hq17,
     hY 22 (dT hq18),
     hY 23 (dT hq18),
     hY 24 (dT hq18),
     hS 25 (oY rfl rfl rfl rfl (lt_of rfl) hq17 (r_pickT (b := (decide (a.f_Kind ≠ 3))) (av := (Zx a)) (lt_of rfl) trivial (dT hq18))),
     hP 26 hq17] ?_
   by_cases hq19 : a.f_Text ≠ []
   ·refine cT (dT hq19) ?_
    refine sR [] ?_
    refine T.ret (rT ?_)
    exact eRt 2 (Zw) [] (by have e1 : ((decide (goodV a)) : Bool) = false := (by (exact dF (fun h9 => by obtain ⟨g1, g2, g3, g4, g5, g6⟩ := hgi.1 h9; simp_all))); have hE := cB e1; exact hE) trivial
   refine cF (dF hq19) ?_
   refine T.skip (nT ?_)
   by_cases hq20 : a.f_Kind = 4
   ·refine sR [hN 4 false (dT hq20),
      hN 5 false (dT hq20),
      hN 6 false (dT hq20),
      hN 7 false (dT hq20),
      hP 8 (dT hq20)] ?_
    refine T.ret ?_
    exact eRt 2 (Zy) [] (cB (by (exact dT (hgi.2 ⟨by omega, by omega, by (left; omega), by (left; omega), by (left; omega), by (left; assumption)⟩)))) trivial
   refine sR [hY 4 (dF hq20),
     hY 5 (dF hq20),
     hS 6 (oY rfl rfl rfl rfl (lt_of rfl) (dF hq20) (rCa (ref01_Bits a.f_Num ) Try.func48 [] [(.tmp 49, (Zz a))] 0 0)),
     hY 7 (dF hq20),
     hP 8 (dF hq20)] ?_
   refine T.ret ?_
   exact eRt 2 ((Z10 a)) [] (by have e1 : ((decide (goodV a)) : Bool) = (decide (((bitsF a.f_Num : Nat) : Int) = 0)) := (by (exact decide_eq_decide.2 ⟨fun h9 => by obtain ⟨g1, g2, g3, g4, g5, g6⟩ := hgi.1 h9; simp_all, fun h9 => hgi.2 ⟨by omega, by omega, by (left; omega), by simp_all, by simp_all, .inr h9⟩⟩)); have hE := cB e1; exact hE) trivial
  refine sR [hN 4 true (dF hq4),
    hN 5 true (dF hq4),
    hN 6 true (dF hq4),
    hP 7 (dF hq4),
    hY0 9,
    hY0 10,
    hY0 11,
    hY0 12,
    hY 13 (dT hq16),
    hY 14 (dT hq16),
    hS 15 (oY (b := false) rfl rfl rfl rfl (lt_of rfl) rfl (r_pickT (b := (decide (a.f_Kind ≠ 2))) (av := vB a.f_Bool) (lt_of rfl) trivial (dT hq16))),
    hP0 16,
    hY 18 hq17,
    hY 19 hq17,
    hY 20 hq17,
    hY 21 hq17,
    hN 22 true (dF hq18),
    hN 23 true (dF hq18),
    hN 24 true (dF hq18),
    hS 25 (oY rfl rfl rfl rfl (lt_of rfl) hq17 (r_pickF (b := (decide (a.f_Kind ≠ 3))) (av := vB false) (lt_of rfl) ⟨rfl, trivial⟩ (dF hq18))),
    hP 26 hq17] ?_
  refine cF (b := false) rfl ?_
  refine T.skip (nT ?_)
  by_cases hq21 : a.f_Kind = 4
  ·refine sR [hN 4 false (dT hq21),
     hN 5 false (dT hq21),
     hN 6 false (dT hq21),
     hN 7 false (dT hq21),
     hP 8 (dT hq21)] ?_
   refine T.ret ?_
   exact eRt 2 (Zy) [] (cB (by (exact dT (hgi.2 ⟨by omega, by omega, by (left; omega), by (left; omega), by (left; omega), by (left; assumption)⟩)))) trivial
  refine sR [hY 4 (dF hq21),
    hY 5 (dF hq21),
    hS 6 (oY rfl rfl rfl rfl (lt_of rfl) (dF hq21) (rCa (ref01_Bits a.f_Num ) Try.func48 [] [(.tmp 49, (Zz a))] 0 0)),
    hY 7 (dF hq21),
    hP 8 (dF hq21)] ?_
  refine T.ret ?_
  exact eRt 2 ((Z10 a)) [] (by have e1 : ((decide (goodV a)) : Bool) = (decide (((bitsF a.f_Num : Nat) : Int) = 0)) := (by (exact decide_eq_decide.2 ⟨fun h9 => by obtain ⟨g1, g2, g3, g4, g5, g6⟩ := hgi.1 h9; simp_all, fun h9 => hgi.2 ⟨by omega, by omega, by (left; omega), by (left; omega), by (left; omega), .inr h9⟩⟩)); have hE := cB e1; exact hE) trivial
 by_cases hq22 : a.f_Kind ≠ 3
 ·refine sR [hN 4 true (dF hq4),
    hN 5 true (dF hq4),
    hN 6 true (dF hq4),
    hP 7 (dF hq4),
    hY0 9,
    hY0 10,
    hY0 11,
    hY0 12,
    hN 13 true (dF hq16),
    hN 14 true (dF hq16),
    hS 15 (oY (b := false) rfl rfl rfl rfl (lt_of rfl) rfl (r_pickF (b := (decide (a.f_Kind ≠ 2))) (av := vB false) (lt_of rfl) ⟨rfl, trivial⟩ (dF hq16))),
    hP0 16,
    hY0 18,
    hY0 19,
    hY0 20,
    hY0 21,
    hY 22 (dT hq22),
    hY 23 (dT hq22),
    hY 24 (dT hq22),
    hS 25 (oY (b := false) rfl rfl rfl rfl (lt_of rfl) rfl (r_pickT (b := (decide (a.f_Kind ≠ 3))) (av := (Zx a)) (lt_of rfl) trivial (dT hq22))),
    hP0 26] ?_
  by_cases hq23 : a.f_Text ≠ []
  ·refine cT (dT hq23) ?_
   refine sR [] ?_
   refine T.ret (rT ?_)
   exact eRt 2 (Zw) [] (cB (by (exact dF (fun h9 => by obtain ⟨g1, g2, g3, g4, g5, g6⟩ := hgi.1 h9; omega)))) trivial
  refine cF (dF hq23) ?_
  refine T.skip (nT ?_)
  by_cases hq24 : a.f_Kind = 4
  ·refine sR [hN 4 false (dT hq24),
     hN 5 false (dT hq24),
     hN 6 false (dT hq24),
     hN 7 false (dT hq24),
     hP 8 (dT hq24)] ?_
   refine T.ret ?_
   exact eRt 2 (Zy) [] (cB (by (exact dT (hgi.2 ⟨by omega, by omega, by (left; omega), by (left; omega), by (left; omega), by (left; assumption)⟩)))) trivial
  refine sR [hY 4 (dF hq24),
    hY 5 (dF hq24),
    hS 6 (oY rfl rfl rfl rfl (lt_of rfl) (dF hq24) (rCa (ref01_Bits a.f_Num ) Try.func48 [] [(.tmp 49, (Zz a))] 0 0)),
    hY 7 (dF hq24),
    hP 8 (dF hq24)] ?_
  refine T.ret ?_
  exact eRt 2 ((Z10 a)) [] (by have e1 : ((decide (goodV a)) : Bool) = (decide (((bitsF a.f_Num : Nat) : Int) = 0)) := (by (exact decide_eq_decide.2 ⟨fun h9 => by obtain ⟨g1, g2, g3, g4, g5, g6⟩ := hgi.1 h9; simp_all, fun h9 => hgi.2 ⟨by omega, by omega, by (left; omega), by (left; omega), by (left; omega), .inr h9⟩⟩)); have hE := cB e1; exact hE) trivial
 refine sR [hN 4 true (dF hq4),
   hN 5 true (dF hq4),
   hN 6 true (dF hq4),
   hP 7 (dF hq4),
   hY0 9,
   hY0 10,
   hY0 11,
   hY0 12,
   hN 13 true (dF hq16),
   hN 14 true (dF hq16),
   hS 15 (oY (b := false) rfl rfl rfl rfl (lt_of rfl) rfl (r_pickF (b := (decide (a.f_Kind ≠ 2))) (av := vB false) (lt_of rfl) ⟨rfl, trivial⟩ (dF hq16))),
   hP0 16,
   hY0 18,
   hY0 19,
   hY0 20,
   hY0 21,
   hN 22 true (dF hq22),
   hN 23 true (dF hq22),
   hN 24 true (dF hq22),
   hS 25 (oY (b := false) rfl rfl rfl rfl (lt_of rfl) rfl (r_pickF (b := (decide (a.f_Kind ≠ 3))) (av := vB false) (lt_of rfl) ⟨rfl, trivial⟩ (dF hq22))),
   hP0 26] ?_
 refine cF (b := false) rfl ?_
 refine T.skip (nT ?_)
 by_cases hq25 : a.f_Kind = 4
 ·refine sR [hN 4 false (dT hq25),
    hN 5 false (dT hq25),
    hN 6 false (dT hq25),
    hN 7 false (dT hq25),
    hP 8 (dT hq25)] ?_
  refine T.ret ?_
  exact eRt 2 (Zy) [] (cB (by (exact dT (hgi.2 ⟨by omega, by omega, by (left; omega), by (left; omega), by (left; omega), by (left; assumption)⟩)))) trivial
 refine sR [hY 4 (dF hq25),
   hY 5 (dF hq25),
   hS 6 (oY rfl rfl rfl rfl (lt_of rfl) (dF hq25) (rCa (ref01_Bits a.f_Num ) Try.func48 [] [(.tmp 49, (Zz a))] 0 0)),
   hY 7 (dF hq25),
   hP 8 (dF hq25)] ?_
 refine T.ret ?_
 exact eRt 2 ((Z10 a)) [] (by have e1 : ((decide (goodV a)) : Bool) = (decide (((bitsF a.f_Num : Nat) : Int) = 0)) := (by (exact decide_eq_decide.2 ⟨fun h9 => by obtain ⟨g1, g2, g3, g4, g5, g6⟩ := hgi.1 h9; simp_all, fun h9 => hgi.2 ⟨by omega, by omega, by (left; omega), by (left; omega), by (left; omega), .inr h9⟩⟩)); have hE := cB e1; exact hE) trivial
abbrev Z11 (a : api_Value) : AV := .tv (.agg [dI a.f_Kind, dI a.f_Int, dB a.f_Bool, dS a.f_Text, .d (.val (.float .f64 a.f_Num))])
abbrev Z12 (b : api_Value) : AV := .tv (.agg [dI b.f_Kind, dI b.f_Int, dB b.f_Bool, dS b.f_Text, .d (.val (.float .f64 b.f_Num))])
theorem value_both (a : api_Value) (b : api_Value) : Holds Try.prog 51 ⟨[.tv (.agg [dI a.f_Kind, dI a.f_Int, dB a.f_Bool, dS a.f_Text, .d (.val (.float .f64 a.f_Num))]), .tv (.agg [dI b.f_Kind, dI b.f_Int, dB b.f_Bool, dS b.f_Text, .d (.val (.float .f64 b.f_Num))])], [], vB (decide (bothV a b)), []⟩ := by
 refine Holds.of Try.func51 rfl (N := 18) Try.ntmps51 rfl fun w0 B0 S0 U0 => ?_
 show T _ (mkBase 18 0 w0 S0 U0 B0) ⟨[(Z11 a), (Z12 b)], []⟩ _ _
 refine sR [] ?_
 by_cases hq1 : goodV a
 ·by_cases hq2 : goodV b
  ·refine sR [hR 1 rfl rfl (rCa (value_Good a ) Try.func31 [] [(.tmp 5, (Z11 a))] 0 0),
     hY 3 (dT hq1),
     hS 4 (oY rfl rfl rfl rfl (lt_of rfl) (dT hq1) (rCa (value_Good b ) Try.func31 [] [(.tmp 8, (Z12 b))] 0 0)),
     hP 5 (dT hq1),
     hY 7 (dT hq2),
     hY 8 (dT hq2),
     hY 9 (dT hq2),
     hY 10 (dT hq2),
     hY 11 (dT hq2),
     hP 12 (dT hq2)] ?_
   refine T.ret ?_
   exact eRt 4 (.one (dB (decide (a.f_Kind = b.f_Kind)))) [] (cB (by (exact decide_eq_decide.2 ⟨fun h9 => h9.2.2, fun h9 => ⟨by assumption, by assumption, h9⟩⟩))) trivial
  refine sR [hR 1 rfl rfl (rCa (value_Good a ) Try.func31 [] [(.tmp 5, (Z11 a))] 0 0),
    hY 3 (dT hq1),
    hS 4 (oY rfl rfl rfl rfl (lt_of rfl) (dT hq1) (rCa (value_Good b ) Try.func31 [] [(.tmp 8, (Z12 b))] 0 0)),
    hP 5 (dT hq1),
    hN 7 true (dF hq2),
    hN 8 true (dF hq2),
    hN 9 true (dF hq2),
    hN 10 true (dF hq2),
    hN 11 true (dF hq2),
    hP 12 (dF hq2)] ?_
  refine T.ret ?_
  exact eRt 4 (.one (dB false)) [] (cB (by (exact dF (fun h9 => absurd h9.2.1 ‹_›)))) trivial
 refine sR [hR 1 rfl rfl (rCa (value_Good a ) Try.func31 [] [(.tmp 5, (Z11 a))] 0 0),
   hN 3 true (dF hq1),
   hN 4 true (dF hq1),
   hP 5 (dF hq1),
   hN1 7,
   hN1 8,
   hN1 9,
   hN1 10,
   hN1 11,
   hP0 12] ?_
 refine T.ret ?_
 exact eRt 4 (.one (dB false)) [] (cB (by (exact dF (fun h9 => absurd h9.1 ‹_›)))) trivial
abbrev Z13 (a : api_Value) : AV := .tv (.agg [dI a.f_Kind, dI a.f_Int, dB a.f_Bool, dS a.f_Text, .d (.val (.float .f64 a.f_Num))])
abbrev Z14 (b : api_Value) : AV := .tv (.agg [dI b.f_Kind, dI b.f_Int, dB b.f_Bool, dS b.f_Text, .d (.val (.float .f64 b.f_Num))])
theorem value_Equal (a : api_Value) (b : api_Value) : Holds Try.prog 26 ⟨[.tv (.agg [dI a.f_Kind, dI a.f_Int, dB a.f_Bool, dS a.f_Text, .d (.val (.float .f64 a.f_Num))]), .tv (.agg [dI b.f_Kind, dI b.f_Int, dB b.f_Bool, dS b.f_Text, .d (.val (.float .f64 b.f_Num))])], [], .tup [.one (dB (eqV a b)), .one (dI (eqE a b))], []⟩ := by
 refine Holds.of Try.func26 rfl (N := 13) Try.ntmps26 rfl fun w0 B0 S0 U0 => ?_
 show T _ (mkBase 13 0 w0 S0 U0 B0) ⟨[(Z13 a), (Z14 b)], []⟩ _ _
 refine sR [] ?_
 refine T.seq ?_
 refine sR [hR 2 rfl rfl (rCa (value_both a b ) Try.func51 [] [(.tmp 6, (Z13 a)), (.tmp 7, (Z14 b))] 0 0)] ?_
 by_cases hq1 : bothV a b
 ·refine cF (cn (dT hq1)) ?_
  refine T.skip (nT ?_)
  refine sR [hR 2 rfl rfl (r_eqStF (ax := (Z13 a)) (ay := (Z14 b)) (a := a) (b := b) seqF_24 ⟨[.int .i64 a.f_Kind, .int .i64 a.f_Int, .bool a.f_Bool, strV a.f_Text, .float .f64 a.f_Num], rfl, rfl⟩ ⟨[.int .i64 b.f_Kind, .int .i64 b.f_Int, .bool b.f_Bool, strV b.f_Text, .float .f64 b.f_Num], rfl, rfl⟩ (lt_of rfl) trivial)] ?_
  refine T.ret ?_
  exact eX [.t 4 (.one (dB (eqS_api_Value a b))), .t 5 (.one (dI 0))] ⟨⟨rfl, by kernel_rfl⟩, ⟨⟨rfl, by kernel_rfl⟩, trivial⟩⟩ [] (cg2 (fun (q1 : Bool) (q2 : Int) => (.tup [.one (dB q1), .one (dI q2)] : AV)) (by (exact (if_pos ‹_›))) (by (exact (if_pos ‹_›)))) trivial
 refine cT (cn (dF hq1)) ?_
 refine sR [] ?_
 refine T.ret (rT ?_)
 exact eX [.t 4 (.one (dB false)), .t 5 (.one (dI 40))] ⟨⟨rfl, by kernel_rfl⟩, ⟨⟨rfl, by kernel_rfl⟩, trivial⟩⟩ [] (cg2 (fun (q1 : Bool) (q2 : Int) => (.tup [.one (dB q1), .one (dI q2)] : AV)) (by (exact (if_neg ‹_›))) (by (exact (if_neg ‹_›)))) trivial
theorem cmp_isNaN_int (a : Int) : Holds Try.prog 80 ⟨[vI a], [], vB false, []⟩ := by
 refine Holds.of Try.func80 rfl (N := 6) Try.ntmps80 rfl fun w0 B0 S0 U0 => ?_
 show T _ (mkBase 6 0 w0 S0 U0 B0) ⟨[vI a], []⟩ _ _
 refine sR [] ?_
 refine sR [] ?_
 refine T.ret ?_
 exact eRt 2 (.one (dB (decide (a ≠ a)))) [] (by have e1 : (false : Bool) = (decide (a ≠ a)) := (by (simp; done)); have hE := cB e1; exact hE) trivial
theorem cmp_Compare_int (a : Int) (b : Int) : Holds Try.prog 42 ⟨[vI a, vI b], [], vI (cmpI a b), []⟩ := by
 refine Holds.of Try.func42 rfl (N := 20) Try.ntmps42 rfl fun w0 B0 S0 U0 => ?_
 show T _ (mkBase 20 0 w0 S0 U0 B0) ⟨[vI a, vI b], []⟩ _ _
 refine sR [] ?_
 refine sR [hR 1 rfl rfl (rCa (cmp_isNaN_int a ) Try.func80 [] [(.tmp 7, vI a)] 0 0)] ?_
 refine sR [hR 1 rfl rfl (rCa (cmp_isNaN_int b ) Try.func80 [] [(.tmp 9, vI b)] 0 0)] ?_
 refine T.seq ?_
 refine sR [] ?_
 refine cF (b := false) rfl ?_
 refine T.skip (nT (T.seq ?_))
 refine sR [] ?_
 refine cF (b := false) rfl ?_
 refine T.skip (nT (T.seq ?_))
 refine sR [] ?_
 by_cases hq1 : a < b
 ·refine cT (dT hq1) ?_
  refine sR [] ?_
  refine T.ret (rT ?_)
  exact eRt 4 (.one (dI (-1))) [] (by have e1 : (cmpI a b : Int) = (-1) := (by ((rw [cmpI, if_pos ‹_›]))); have hE := cI e1; exact hE) trivial
 refine cF (dF hq1) ?_
 refine T.skip (nT (T.seq ?_))
 refine sR [] ?_
 by_cases hq2 : a > b
 ·refine cT (dT hq2) ?_
  refine sR [] ?_
  refine T.ret (rT ?_)
  exact eRt 4 (.one (dI 1)) [] (by have e1 : (cmpI a b : Int) = 1 := (by ((rw [cmpI, if_neg ‹_›, if_pos ‹_›]))); have hE := cI e1; exact hE) trivial
 refine cF (dF hq2) ?_
 refine T.skip (nT ?_)
 refine sR [] ?_
 refine T.ret ?_
 exact eRt 4 (.one (dI 0)) [] (by have e1 : (cmpI a b : Int) = 0 := (by ((rw [cmpI, if_neg ‹_›, if_neg ‹_›]))); have hE := cI e1; exact hE) trivial
end Go.Proofs.Ytlabmehgcfgigaa.Q
