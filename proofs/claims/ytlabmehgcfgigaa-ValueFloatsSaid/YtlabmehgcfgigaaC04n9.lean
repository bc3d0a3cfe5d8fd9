import Derived.Test.YtlabmehgcfgigaaC04n8
namespace Go.Proofs.Ytlabmehgcfgigaa.Q
open Go Go.RowKit
set_option linter.unusedVariables false
set_option linter.unusedSimpArgs false
set_option maxRecDepth 100000
set_option maxHeartbeats 4000000
section
variable (op : Int) (a : api_Value) (b : api_Value)
abbrev Z1p : AV := .tv (.agg [dI a.f_Kind, dI a.f_Int, dB a.f_Bool, dS a.f_Text, .d (.val (.float .f64 a.f_Num))])
abbrev Z1q : AV := .tv (.agg [dI b.f_Kind, dI b.f_Int, dB b.f_Bool, dS b.f_Text, .d (.val (.float .f64 b.f_Num))])
abbrev Z1r : SV := .d (.val (.float .f64 0))
abbrev Z1s : TV := .agg [dI 0, dI 0, dB false, dS [], Z1r]
abbrev Z1t : TV := .one (dI (intsE op a.f_Int b.f_Int))
abbrev Z1u : AV := vI (intsN op a.f_Int b.f_Int)
abbrev Z1v : SV := dI (intV (intsN op a.f_Int b.f_Int)).f_Kind
abbrev Z1w : SV := dI (intV (intsN op a.f_Int b.f_Int)).f_Int
abbrev Z1x : SV := dB (intV (intsN op a.f_Int b.f_Int)).f_Bool
abbrev Z1y : SV := dS (intV (intsN op a.f_Int b.f_Int)).f_Text
abbrev Z1z : SV := .d (.val (.float .f64 (intV (intsN op a.f_Int b.f_Int)).f_Num))
abbrev Z20 : TV := .agg [(Z1v op a b), (Z1w op a b), (Z1x op a b), (Z1y op a b), (Z1z op a b)]
abbrev Z21 : TV := .one (dI 0)
abbrev Z22 : TV := .one (dI 40)
end
theorem value_ReckonI (op : Int) (a : api_Value) (b : api_Value) (hn : ¬ (bothV a b ∧ a.f_Kind = 4)) (hai : inR a.f_Int) (hbi : inR b.f_Int) : Holds Try.prog 20 ⟨[vI op, .tv (.agg [dI a.f_Kind, dI a.f_Int, dB a.f_Bool, dS a.f_Text, .d (.val (.float .f64 a.f_Num))]), .tv (.agg [dI b.f_Kind, dI b.f_Int, dB b.f_Bool, dS b.f_Text, .d (.val (.float .f64 b.f_Num))])], [], .tup [.agg [dI (reckV op a b).f_Kind, dI (reckV op a b).f_Int, dB (reckV op a b).f_Bool, dS (reckV op a b).f_Text, .d (.val (.float .f64 (reckV op a b).f_Num))], .one (dI (reckE op a b))], []⟩ := by
 refine Holds.of Try.func20 rfl (N := 60) Try.ntmps20 rfl fun w0 B0 S0 U0 => ?_
 show T _ (mkBase 60 0 w0 S0 U0 B0) ⟨[vI op, (Z1p a), (Z1q b)], []⟩ _ _
 refine sR [] ?_
 refine T.seq ?_
 refine sR [] ?_
 refine T.block ?_
 refine T.seq ?_
 refine sR [] ?_
 by_cases hq1 : op = 4
 ·refine cT (dT hq1) ?_
  refine T.skip (nT ?_)
  refine cT (dT hq1) ?_
  refine T.skip ?_
  refine nB ?_
  refine nT (T.seq ?_)
  refine T.block ?_
  by_cases hq2 : bothV a b
  ·refine sR [hR 2 rfl rfl (rCa (value_both a b ) Try.func51 [] [(.tmp 20, (Z1p a)), (.tmp 21, (Z1q b))] 0 0),
     hY 4 (dT hq2),
     hY 5 (dT hq2),
     hY 6 (dT hq2),
     hP 7 (dT hq2)] ?_
   by_cases hq3 : a.f_Kind = 4
   ·exact absurd ⟨by assumption, hq3⟩ hn
   refine cF (dF hq3) ?_
   refine sR [hR 2 rfl rfl (rCa (value_both a b ) Try.func51 [] [(.tmp 36, (Z1p a)), (.tmp 37, (Z1q b))] 0 0),
     hY 4 (dT hq2),
     hY 5 (dT hq2),
     hY 6 (dT hq2),
     hP 7 (dT hq2)] ?_
   by_cases hq4 : a.f_Kind = 1
   ·refine cT (dT hq4) ?_
    refine sR [hR 5 rfl rfl (rCa (value_ints op a.f_Int b.f_Int ‹_› ‹_› (by (unfold okOp; omega))) Try.func54 [] [(.tmp 45, vI op), (.tmp 47, vI a.f_Int), (.tmp 49, vI b.f_Int)] 0 0)] ?_
    refine T.seq ?_
    refine sR [] ?_
    by_cases hq5 : (intsE op a.f_Int b.f_Int) ≠ 0
    ·refine cT (dT hq5) ?_
     refine sR [] ?_
     refine T.ret (rT (rB (rT ?_)))
     exact eX [.c 6 2 24 0 24 [dI 0, dI 0, dB false, dS [], Z1r] (Z1s), .t 7 ((Z1t op a b))] ⟨⟨rfl, rfl, by kernel_rfl, by kernel_rfl, .inl ⟨5, wide_24, rfl, Nat.le_of_ble_eq_true rfl⟩⟩, ⟨⟨rfl, by kernel_rfl⟩, trivial⟩⟩ [] (by have e1 : ((reckV op a b).f_Kind : Int) = 0 := (by ((have ho9 : okOp op := (by unfold okOp; omega); (have hr9 := reck_err ho9 ‹_› ‹_› ‹_›; (rw [hr9.1]; rfl))))); have e2 : ((reckV op a b).f_Int : Int) = 0 := (by ((have ho9 : okOp op := (by unfold okOp; omega); (have hr9 := reck_err ho9 ‹_› ‹_› ‹_›; (rw [hr9.1]; rfl))))); have e3 : ((reckV op a b).f_Bool : Bool) = false := (by ((have ho9 : okOp op := (by unfold okOp; omega); (have hr9 := reck_err ho9 ‹_› ‹_› ‹_›; (rw [hr9.1]; rfl))))); have e4 : ((reckV op a b).f_Text : List UInt8) = [] := (by ((have ho9 : okOp op := (by unfold okOp; omega); (have hr9 := reck_err ho9 ‹_› ‹_› ‹_›; (rw [hr9.1]; rfl))))); have e5 : ((reckV op a b).f_Num : Nat) = 0 := (by ((have ho9 : okOp op := (by unfold okOp; omega); (have hr9 := reck_err ho9 ‹_› ‹_› ‹_›; (rw [hr9.1]; rfl))))); have e6 : (reckE op a b : Int) = intsE op a.f_Int b.f_Int := (by ((have ho9 : okOp op := (by unfold okOp; omega); (have hr9 := reck_err ho9 ‹_› ‹_› ‹_›; exact hr9.2)))); have hE := congr (congr (congr (congr (congr (congrArg (fun (q1 : Int) (q2 : Int) (q3 : Bool) (q4 : List UInt8) (q5 : Nat) (q6 : Int) => (.tup [.agg [dI q1, dI q2, dB q3, dS q4, .d (.val (.float .f64 q5))], .one (dI q6)] : AV)) e1) e2) e3) e4) e5) e6; exact hE) trivial
    refine cF (dF hq5) ?_
    refine T.skip (nT ?_)
    refine sR [hR 1 rfl rfl (rCa (value_ofInt (intsN op a.f_Int b.f_Int) ) Try.func55 [] [(.tmp 57, (Z1u op a b))] 0 0)] ?_
    refine T.ret (rB (rT ?_))
    exact eX [.c 6 2 24 0 24 [(Z1v op a b), (Z1w op a b), (Z1x op a b), (Z1y op a b), (Z1z op a b)] ((Z20 op a b)), .t 7 (Z21)] ⟨⟨rfl, rfl, by kernel_rfl, by kernel_rfl, .inl ⟨5, wide_24, rfl, Nat.le_of_ble_eq_true rfl⟩⟩, ⟨⟨rfl, by kernel_rfl⟩, trivial⟩⟩ [] (by have e1 : ((reckV op a b).f_Kind : Int) = (intV (intsN op a.f_Int b.f_Int)).f_Kind := (by ((have ho9 : okOp op := (by unfold okOp; omega); (have hr9 := reck_ok ho9 ‹_› ‹_› ‹_›; (rw [hr9.1]; done))))); have e2 : ((reckV op a b).f_Int : Int) = (intV (intsN op a.f_Int b.f_Int)).f_Int := (by ((have ho9 : okOp op := (by unfold okOp; omega); (have hr9 := reck_ok ho9 ‹_› ‹_› ‹_›; (rw [hr9.1]; done))))); have e3 : ((reckV op a b).f_Bool : Bool) = (intV (intsN op a.f_Int b.f_Int)).f_Bool := (by ((have ho9 : okOp op := (by unfold okOp; omega); (have hr9 := reck_ok ho9 ‹_› ‹_› ‹_›; (rw [hr9.1]; done))))); have e4 : ((reckV op a b).f_Text : List UInt8) = (intV (intsN op a.f_Int b.f_Int)).f_Text := (by ((have ho9 : okOp op := (by unfold okOp; omega); (have hr9 := reck_ok ho9 ‹_› ‹_› ‹_›; (rw [hr9.1]; done))))); have e5 : ((reckV op a b).f_Num : Nat) = (intV (intsN op a.f_Int b.f_Int)).f_Num := (by ((have ho9 : okOp op := (by unfold okOp; omega); (have hr9 := reck_ok ho9 ‹_› ‹_› ‹_›; (rw [hr9.1]; done))))); have e6 : (reckE op a b : Int) = 0 := (by ((have ho9 : okOp op := (by unfold okOp; omega); (have hr9 := reck_ok ho9 ‹_› ‹_› ‹_›; exact hr9.2)))); have hE := congr (congr (congr (congr (congr (congrArg (fun (q1 : Int) (q2 : Int) (q3 : Bool) (q4 : List UInt8) (q5 : Nat) (q6 : Int) => (.tup [.agg [dI q1, dI q2, dB q3, dS q4, .d (.val (.float .f64 q5))], .one (dI q6)] : AV)) e1) e2) e3) e4) e5) e6; exact hE) trivial
   refine cF (dF hq4) ?_
   refine T.skip ?_
   refine nB ?_
   refine nT ?_
   refine sR [] ?_
   refine T.ret ?_
   exact eX [.c 6 2 24 0 24 [dI 0, dI 0, dB false, dS [], Z1r] (Z1s), .t 7 (Z22)] ⟨⟨rfl, rfl, by kernel_rfl, by kernel_rfl, .inl ⟨5, wide_24, rfl, Nat.le_of_ble_eq_true rfl⟩⟩, ⟨⟨rfl, by kernel_rfl⟩, trivial⟩⟩ [] (by have e1 : ((reckV op a b).f_Kind : Int) = 0 := (by ((have ho9 : okOp op := (by unfold okOp; omega); (have hr9 := reck_type (a := a) (b := b) ho9 (fun h9 => by exact absurd h9.2 ‹_›); (rw [hr9.1]; rfl))))); have e2 : ((reckV op a b).f_Int : Int) = 0 := (by ((have ho9 : okOp op := (by unfold okOp; omega); (have hr9 := reck_type (a := a) (b := b) ho9 (fun h9 => by exact absurd h9.2 ‹_›); (rw [hr9.1]; rfl))))); have e3 : ((reckV op a b).f_Bool : Bool) = false := (by ((have ho9 : okOp op := (by unfold okOp; omega); (have hr9 := reck_type (a := a) (b := b) ho9 (fun h9 => by exact absurd h9.2 ‹_›); (rw [hr9.1]; rfl))))); have e4 : ((reckV op a b).f_Text : List UInt8) = [] := (by ((have ho9 : okOp op := (by unfold okOp; omega); (have hr9 := reck_type (a := a) (b := b) ho9 (fun h9 => by exact absurd h9.2 ‹_›); (rw [hr9.1]; rfl))))); have e5 : ((reckV op a b).f_Num : Nat) = 0 := (by ((have ho9 : okOp op := (by unfold okOp; omega); (have hr9 := reck_type (a := a) (b := b) ho9 (fun h9 => by exact absurd h9.2 ‹_›); (rw [hr9.1]; rfl))))); have e6 : (reckE op a b : Int) = 40 := (by ((have ho9 : okOp op := (by unfold okOp; omega); (have hr9 := reck_type (a := a) (b := b) ho9 (fun h9 => by exact absurd h9.2 ‹_›); exact hr9.2)))); have hE := congr (congr (congr (congr (congr (congrArg (fun (q1 : Int) (q2 : Int) (q3 : Bool) (q4 : List UInt8) (q5 : Nat) (q6 : Int) => (.tup [.agg [dI q1, dI q2, dB q3, dS q4, .d (.val (.float .f64 q5))], .one (dI q6)] : AV)) e1) e2) e3) e4) e5) e6; exact hE) trivial
  refine sR [hR 2 rfl rfl (rCa (value_both a b ) Try.func51 [] [(.tmp 20, (Z1p a)), (.tmp 21, (Z1q b))] 0 0),
    hN 4 true (dF hq2),
    hN 5 true (dF hq2),
    hN 6 true (dF hq2),
    hP 7 (dF hq2)] ?_
  refine cF (b := false) rfl ?_
  refine sR [hR 2 rfl rfl (rCa (value_both a b ) Try.func51 [] [(.tmp 36, (Z1p a)), (.tmp 37, (Z1q b))] 0 0),
    hN 4 true (dF hq2),
    hN 5 true (dF hq2),
    hN 6 true (dF hq2),
    hP 7 (dF hq2)] ?_
  refine cF (b := false) rfl ?_
  refine T.skip ?_
  refine nB ?_
  refine nT ?_
  refine sR [] ?_
  refine T.ret ?_
  exact eX [.c 6 2 24 0 24 [dI 0, dI 0, dB false, dS [], Z1r] (Z1s), .t 7 (Z22)] ⟨⟨rfl, rfl, by kernel_rfl, by kernel_rfl, .inl ⟨5, wide_24, rfl, Nat.le_of_ble_eq_true rfl⟩⟩, ⟨⟨rfl, by kernel_rfl⟩, trivial⟩⟩ [] (by have e1 : ((reckV op a b).f_Kind : Int) = 0 := (by ((have ho9 : okOp op := (by unfold okOp; omega); (have hr9 := reck_type (a := a) (b := b) ho9 (fun h9 => by exact absurd h9.1 ‹_›); (rw [hr9.1]; rfl))))); have e2 : ((reckV op a b).f_Int : Int) = 0 := (by ((have ho9 : okOp op := (by unfold okOp; omega); (have hr9 := reck_type (a := a) (b := b) ho9 (fun h9 => by exact absurd h9.1 ‹_›); (rw [hr9.1]; rfl))))); have e3 : ((reckV op a b).f_Bool : Bool) = false := (by ((have ho9 : okOp op := (by unfold okOp; omega); (have hr9 := reck_type (a := a) (b := b) ho9 (fun h9 => by exact absurd h9.1 ‹_›); (rw [hr9.1]; rfl))))); have e4 : ((reckV op a b).f_Text : List UInt8) = [] := (by ((have ho9 : okOp op := (by unfold okOp; omega); (have hr9 := reck_type (a := a) (b := b) ho9 (fun h9 => by exact absurd h9.1 ‹_›); (rw [hr9.1]; rfl))))); have e5 : ((reckV op a b).f_Num : Nat) = 0 := (by ((have ho9 : okOp op := (by unfold okOp; omega); (have hr9 := reck_type (a := a) (b := b) ho9 (fun h9 => by exact absurd h9.1 ‹_›); (rw [hr9.1]; rfl))))); have e6 : (reckE op a b : Int) = 40 := (by ((have ho9 : okOp op := (by unfold okOp; omega); (have hr9 := reck_type (a := a) (b := b) ho9 (fun h9 => by exact absurd h9.1 ‹_›); exact hr9.2)))); have hE := congr (congr (congr (congr (congr (congrArg (fun (q1 : Int) (q2 : Int) (q3 : Bool) (q4 : List UInt8) (q5 : Nat) (q6 : Int) => (.tup [.agg [dI q1, dI q2, dB q3, dS q4, .d (.val (.float .f64 q5))], .one (dI q6)] : AV)) e1) e2) e3) e4) e5) e6; exact hE) trivial
 refine cF (dF hq1) ?_
 refine sR [] ?_
 by_cases hq6 : op = 5
 ·refine cT (dT hq6) ?_
  refine T.skip (nT ?_)
  refine cT (dT hq6) ?_
  refine T.skip ?_
  refine nB ?_
  refine nT (T.seq ?_)
  refine T.block ?_
  by_cases hq7 : bothV a b
  ·refine sR [hR 2 rfl rfl (rCa (value_both a b ) Try.func51 [] [(.tmp 20, (Z1p a)), (.tmp 21, (Z1q b))] 0 0),
     hY 4 (dT hq7),
     hY 5 (dT hq7),
     hY 6 (dT hq7),
     hP 7 (dT hq7)] ?_
   by_cases hq8 : a.f_Kind = 4
   ·exact absurd ⟨by assumption, hq8⟩ hn
   refine cF (dF hq8) ?_
   refine sR [hR 2 rfl rfl (rCa (value_both a b ) Try.func51 [] [(.tmp 36, (Z1p a)), (.tmp 37, (Z1q b))] 0 0),
     hY 4 (dT hq7),
     hY 5 (dT hq7),
     hY 6 (dT hq7),
     hP 7 (dT hq7)] ?_
   by_cases hq9 : a.f_Kind = 1
   ·refine cT (dT hq9) ?_
    refine sR [hR 5 rfl rfl (rCa (value_ints op a.f_Int b.f_Int ‹_› ‹_› (by (unfold okOp; omega))) Try.func54 [] [(.tmp 45, vI op), (.tmp 47, vI a.f_Int), (.tmp 49, vI b.f_Int)] 0 0)] ?_
    refine T.seq ?_
    refine sR [] ?_
    by_cases hq10 : (intsE op a.f_Int b.f_Int) ≠ 0
    ·refine cT (dT hq10) ?_
     refine sR [] ?_
     refine T.ret (rT (rB (rT ?_)))
     exact eX [.c 6 2 24 0 24 [dI 0, dI 0, dB false, dS [], Z1r] (Z1s), .t 7 ((Z1t op a b))] ⟨⟨rfl, rfl, by kernel_rfl, by kernel_rfl, .inl ⟨5, wide_24, rfl, Nat.le_of_ble_eq_true rfl⟩⟩, ⟨⟨rfl, by kernel_rfl⟩, trivial⟩⟩ [] (by have e1 : ((reckV op a b).f_Kind : Int) = 0 := (by ((have ho9 : okOp op := (by unfold okOp; omega); (have hr9 := reck_err ho9 ‹_› ‹_› ‹_›; (rw [hr9.1]; rfl))))); have e2 : ((reckV op a b).f_Int : Int) = 0 := (by ((have ho9 : okOp op := (by unfold okOp; omega); (have hr9 := reck_err ho9 ‹_› ‹_› ‹_›; (rw [hr9.1]; rfl))))); have e3 : ((reckV op a b).f_Bool : Bool) = false := (by ((have ho9 : okOp op := (by unfold okOp; omega); (have hr9 := reck_err ho9 ‹_› ‹_› ‹_›; (rw [hr9.1]; rfl))))); have e4 : ((reckV op a b).f_Text : List UInt8) = [] := (by ((have ho9 : okOp op := (by unfold okOp; omega); (have hr9 := reck_err ho9 ‹_› ‹_› ‹_›; (rw [hr9.1]; rfl))))); have e5 : ((reckV op a b).f_Num : Nat) = 0 := (by ((have ho9 : okOp op := (by unfold okOp; omega); (have hr9 := reck_err ho9 ‹_› ‹_› ‹_›; (rw [hr9.1]; rfl))))); have e6 : (reckE op a b : Int) = intsE op a.f_Int b.f_Int := (by ((have ho9 : okOp op := (by unfold okOp; omega); (have hr9 := reck_err ho9 ‹_› ‹_› ‹_›; exact hr9.2)))); have hE := congr (congr (congr (congr (congr (congrArg (fun (q1 : Int) (q2 : Int) (q3 : Bool) (q4 : List UInt8) (q5 : Nat) (q6 : Int) => (.tup [.agg [dI q1, dI q2, dB q3, dS q4, .d (.val (.float .f64 q5))], .one (dI q6)] : AV)) e1) e2) e3) e4) e5) e6; exact hE) trivial
    refine cF (dF hq10) ?_
    refine T.skip (nT ?_)
    refine sR [hR 1 rfl rfl (rCa (value_ofInt (intsN op a.f_Int b.f_Int) ) Try.func55 [] [(.tmp 57, (Z1u op a b))] 0 0)] ?_
    refine T.ret (rB (rT ?_))
    exact eX [.c 6 2 24 0 24 [(Z1v op a b), (Z1w op a b), (Z1x op a b), (Z1y op a b), (Z1z op a b)] ((Z20 op a b)), .t 7 (Z21)] ⟨⟨rfl, rfl, by kernel_rfl, by kernel_rfl, .inl ⟨5, wide_24, rfl, Nat.le_of_ble_eq_true rfl⟩⟩, ⟨⟨rfl, by kernel_rfl⟩, trivial⟩⟩ [] (by have e1 : ((reckV op a b).f_Kind : Int) = (intV (intsN op a.f_Int b.f_Int)).f_Kind := (by ((have ho9 : okOp op := (by unfold okOp; omega); (have hr9 := reck_ok ho9 ‹_› ‹_› ‹_›; (rw [hr9.1]; done))))); have e2 : ((reckV op a b).f_Int : Int) = (intV (intsN op a.f_Int b.f_Int)).f_Int := (by ((have ho9 : okOp op := (by unfold okOp; omega); (have hr9 := reck_ok ho9 ‹_› ‹_› ‹_›; (rw [hr9.1]; done))))); have e3 : ((reckV op a b).f_Bool : Bool) = (intV (intsN op a.f_Int b.f_Int)).f_Bool := (by ((have ho9 : okOp op := (by unfold okOp; omega); (have hr9 := reck_ok ho9 ‹_› ‹_› ‹_›; (rw [hr9.1]; done))))); have e4 : ((reckV op a b).f_Text : List UInt8) = (intV (intsN op a.f_Int b.f_Int)).f_Text := (by ((have ho9 : okOp op := (by unfold okOp; omega); (have hr9 := reck_ok ho9 ‹_› ‹_› ‹_›; (rw [hr9.1]; done))))); have e5 : ((reckV op a b).f_Num : Nat) = (intV (intsN op a.f_Int b.f_Int)).f_Num := (by ((have ho9 : okOp op := (by unfold okOp; omega); (have hr9 := reck_ok ho9 ‹_› ‹_› ‹_›; (rw [hr9.1]; done))))); have e6 : (reckE op a b : Int) = 0 := (by ((have ho9 : okOp op := (by unfold okOp; omega); (have hr9 := reck_ok ho9 ‹_› ‹_› ‹_›; exact hr9.2)))); have hE := congr (congr (congr (congr (congr (congrArg (fun (q1 : Int) (q2 : Int) (q3 : Bool) (q4 : List UInt8) (q5 : Nat) (q6 : Int) => (.tup [.agg [dI q1, dI q2, dB q3, dS q4, .d (.val (.float .f64 q5))], .one (dI q6)] : AV)) e1) e2) e3) e4) e5) e6; exact hE) trivial
   refine cF (dF hq9) ?_
   refine T.skip ?_
   refine nB ?_
   refine nT ?_
   refine sR [] ?_
   refine T.ret ?_
   exact eX [.c 6 2 24 0 24 [dI 0, dI 0, dB false, dS [], Z1r] (Z1s), .t 7 (Z22)] ⟨⟨rfl, rfl, by kernel_rfl, by kernel_rfl, .inl ⟨5, wide_24, rfl, Nat.le_of_ble_eq_true rfl⟩⟩, ⟨⟨rfl, by kernel_rfl⟩, trivial⟩⟩ [] (by have e1 : ((reckV op a b).f_Kind : Int) = 0 := (by ((have ho9 : okOp op := (by unfold okOp; omega); (have hr9 := reck_type (a := a) (b := b) ho9 (fun h9 => by exact absurd h9.2 ‹_›); (rw [hr9.1]; rfl))))); have e2 : ((reckV op a b).f_Int : Int) = 0 := (by ((have ho9 : okOp op := (by unfold okOp; omega); (have hr9 := reck_type (a := a) (b := b) ho9 (fun h9 => by exact absurd h9.2 ‹_›); (rw [hr9.1]; rfl))))); have e3 : ((reckV op a b).f_Bool : Bool) = false := (by ((have ho9 : okOp op := (by unfold okOp; omega); (have hr9 := reck_type (a := a) (b := b) ho9 (fun h9 => by exact absurd h9.2 ‹_›); (rw [hr9.1]; rfl))))); have e4 : ((reckV op a b).f_Text : List UInt8) = [] := (by ((have ho9 : okOp op := (by unfold okOp; omega); (have hr9 := reck_type (a := a) (b := b) ho9 (fun h9 => by exact absurd h9.2 ‹_›); (rw [hr9.1]; rfl))))); have e5 : ((reckV op a b).f_Num : Nat) = 0 := (by ((have ho9 : okOp op := (by unfold okOp; omega); (have hr9 := reck_type (a := a) (b := b) ho9 (fun h9 => by exact absurd h9.2 ‹_›); (rw [hr9.1]; rfl))))); have e6 : (reckE op a b : Int) = 40 := (by ((have ho9 : okOp op := (by unfold okOp; omega); (have hr9 := reck_type (a := a) (b := b) ho9 (fun h9 => by exact absurd h9.2 ‹_›); exact hr9.2)))); have hE := congr (congr (congr (congr (congr (congrArg (fun (q1 : Int) (q2 : Int) (q3 : Bool) (q4 : List UInt8) (q5 : Nat) (q6 : Int) => (.tup [.agg [dI q1, dI q2, dB q3, dS q4, .d (.val (.float .f64 q5))], .one (dI q6)] : AV)) e1) e2) e3) e4) e5) e6; exact hE) trivial
  refine sR [hR 2 rfl rfl (rCa (value_both a b ) Try.func51 [] [(.tmp 20, (Z1p a)), (.tmp 21, (Z1q b))] 0 0),
    hN 4 true (dF hq7),
    hN 5 true (dF hq7),
    hN 6 true (dF hq7),
    hP 7 (dF hq7)] ?_
  refine cF (b := false) rfl ?_
  refine sR [hR 2 rfl rfl (rCa (value_both a b ) Try.func51 [] [(.tmp 36, (Z1p a)), (.tmp 37, (Z1q b))] 0 0),
    hN 4 true (dF hq7),
    hN 5 true (dF hq7),
    hN 6 true (dF hq7),
    hP 7 (dF hq7)] ?_
  refine cF (b := false) rfl ?_
  refine T.skip ?_
  refine nB ?_
  refine nT ?_
  refine sR [] ?_
  refine T.ret ?_
  exact eX [.c 6 2 24 0 24 [dI 0, dI 0, dB false, dS [], Z1r] (Z1s), .t 7 (Z22)] ⟨⟨rfl, rfl, by kernel_rfl, by kernel_rfl, .inl ⟨5, wide_24, rfl, Nat.le_of_ble_eq_true rfl⟩⟩, ⟨⟨rfl, by kernel_rfl⟩, trivial⟩⟩ [] (by have e1 : ((reckV op a b).f_Kind : Int) = 0 := (by ((have ho9 : okOp op := (by unfold okOp; omega); (have hr9 := reck_type (a := a) (b := b) ho9 (fun h9 => by exact absurd h9.1 ‹_›); (rw [hr9.1]; rfl))))); have e2 : ((reckV op a b).f_Int : Int) = 0 := (by ((have ho9 : okOp op := (by unfold okOp; omega); (have hr9 := reck_type (a := a) (b := b) ho9 (fun h9 => by exact absurd h9.1 ‹_›); (rw [hr9.1]; rfl))))); have e3 : ((reckV op a b).f_Bool : Bool) = false := (by ((have ho9 : okOp op := (by unfold okOp; omega); (have hr9 := reck_type (a := a) (b := b) ho9 (fun h9 => by exact absurd h9.1 ‹_›); (rw [hr9.1]; rfl))))); have e4 : ((reckV op a b).f_Text : List UInt8) = [] := (by ((have ho9 : okOp op := (by unfold okOp; omega); (have hr9 := reck_type (a := a) (b := b) ho9 (fun h9 => by exact absurd h9.1 ‹_›); (rw [hr9.1]; rfl))))); have e5 : ((reckV op a b).f_Num : Nat) = 0 := (by ((have ho9 : okOp op := (by unfold okOp; omega); (have hr9 := reck_type (a := a) (b := b) ho9 (fun h9 => by exact absurd h9.1 ‹_›); (rw [hr9.1]; rfl))))); have e6 : (reckE op a b : Int) = 40 := (by ((have ho9 : okOp op := (by unfold okOp; omega); (have hr9 := reck_type (a := a) (b := b) ho9 (fun h9 => by exact absurd h9.1 ‹_›); exact hr9.2)))); have hE := congr (congr (congr (congr (congr (congrArg (fun (q1 : Int) (q2 : Int) (q3 : Bool) (q4 : List UInt8) (q5 : Nat) (q6 : Int) => (.tup [.agg [dI q1, dI q2, dB q3, dS q4, .d (.val (.float .f64 q5))], .one (dI q6)] : AV)) e1) e2) e3) e4) e5) e6; exact hE) trivial
 refine cF (dF hq6) ?_
 refine sR [] ?_
 by_cases hq11 : op = 6
 ·refine cT (dT hq11) ?_
  refine T.skip (nT ?_)
  refine cT (dT hq11) ?_
  refine T.skip ?_
  refine nB ?_
  refine nT (T.seq ?_)
  refine T.block ?_
  by_cases hq12 : bothV a b
  ·refine sR [hR 2 rfl rfl (rCa (value_both a b ) Try.func51 [] [(.tmp 20, (Z1p a)), (.tmp 21, (Z1q b))] 0 0),
     hY 4 (dT hq12),
     hY 5 (dT hq12),
     hY 6 (dT hq12),
     hP 7 (dT hq12)] ?_
   by_cases hq13 : a.f_Kind = 4
   ·exact absurd ⟨by assumption, hq13⟩ hn
   refine cF (dF hq13) ?_
   refine sR [hR 2 rfl rfl (rCa (value_both a b ) Try.func51 [] [(.tmp 36, (Z1p a)), (.tmp 37, (Z1q b))] 0 0),
     hY 4 (dT hq12),
     hY 5 (dT hq12),
     hY 6 (dT hq12),
     hP 7 (dT hq12)] ?_
   by_cases hq14 : a.f_Kind = 1
   ·refine cT (dT hq14) ?_
    refine sR [hR 5 rfl rfl (rCa (value_ints op a.f_Int b.f_Int ‹_› ‹_› (by (unfold okOp; omega))) Try.func54 [] [(.tmp 45, vI op), (.tmp 47, vI a.f_Int), (.tmp 49, vI b.f_Int)] 0 0)] ?_
    refine T.seq ?_
    refine sR [] ?_
    by_cases hq15 : (intsE op a.f_Int b.f_Int) ≠ 0
    ·refine cT (dT hq15) ?_
     refine sR [] ?_
     refine T.ret (rT (rB (rT ?_)))
     exact eX [.c 6 2 24 0 24 [dI 0, dI 0, dB false, dS [], Z1r] (Z1s), .t 7 ((Z1t op a b))] ⟨⟨rfl, rfl, by kernel_rfl, by kernel_rfl, .inl ⟨5, wide_24, rfl, Nat.le_of_ble_eq_true rfl⟩⟩, ⟨⟨rfl, by kernel_rfl⟩, trivial⟩⟩ [] (by have e1 : ((reckV op a b).f_Kind : Int) = 0 := (by ((have ho9 : okOp op := (by unfold okOp; omega); (have hr9 := reck_err ho9 ‹_› ‹_› ‹_›; (rw [hr9.1]; rfl))))); have e2 : ((reckV op a b).f_Int : Int) = 0 := (by ((have ho9 : okOp op := (by unfold okOp; omega); (have hr9 := reck_err ho9 ‹_› ‹_› ‹_›; (rw [hr9.1]; rfl))))); have e3 : ((reckV op a b).f_Bool : Bool) = false := (by ((have ho9 : okOp op := (by unfold okOp; omega); (have hr9 := reck_err ho9 ‹_› ‹_› ‹_›; (rw [hr9.1]; rfl))))); have e4 : ((reckV op a b).f_Text : List UInt8) = [] := (by ((have ho9 : okOp op := (by unfold okOp; omega); (have hr9 := reck_err ho9 ‹_› ‹_› ‹_›; (rw [hr9.1]; rfl))))); have e5 : ((reckV op a b).f_Num : Nat) = 0 := (by ((have ho9 : okOp op := (by unfold okOp; omega); (have hr9 := reck_err ho9 ‹_› ‹_› ‹_›; (rw [hr9.1]; rfl))))); have e6 : (reckE op a b : Int) = intsE op a.f_Int b.f_Int := (by ((have ho9 : okOp op := (by unfold okOp; omega); (have hr9 := reck_err ho9 ‹_› ‹_› ‹_›; exact hr9.2)))); have hE := congr (congr (congr (congr (congr (congrArg (fun (q1 : Int) (q2 : Int) (q3 : Bool) (q4 : List UInt8) (q5 : Nat) (q6 : Int) => (.tup [.agg [dI q1, dI q2, dB q3, dS q4, .d (.val (.float .f64 q5))], .one (dI q6)] : AV)) e1) e2) e3) e4) e5) e6; exact hE) trivial
    refine cF (dF hq15) ?_
    refine T.skip (nT ?_)
    refine sR [hR 1 rfl rfl (rCa (value_ofInt (intsN op a.f_Int b.f_Int) ) Try.func55 [] [(.tmp 57, (Z1u op a b))] 0 0)] ?_
    refine T.ret (rB (rT ?_))
    exact eX [.c 6 2 24 0 24 [(Z1v op a b), (Z1w op a b), (Z1x op a b), (Z1y op a b), (Z1z op a b)] ((Z20 op a b)), .t 7 (Z21)] ⟨⟨rfl, rfl, by kernel_rfl, by kernel_rfl, .inl ⟨5, wide_24, rfl, Nat.le_of_ble_eq_true rfl⟩⟩, ⟨⟨rfl, by kernel_rfl⟩, trivial⟩⟩ [] (by have e1 : ((reckV op a b).f_Kind : Int) = (intV (intsN op a.f_Int b.f_Int)).f_Kind := (by ((have ho9 : okOp op := (by unfold okOp; omega); (have hr9 := reck_ok ho9 ‹_› ‹_› ‹_›; (rw [hr9.1]; done))))); have e2 : ((reckV op a b).f_Int : Int) = (intV (intsN op a.f_Int b.f_Int)).f_Int := (by ((have ho9 : okOp op := (by unfold okOp; omega); (have hr9 := reck_ok ho9 ‹_› ‹_› ‹_›; (rw [hr9.1]; done))))); have e3 : ((reckV op a b).f_Bool : Bool) = (intV (intsN op a.f_Int b.f_Int)).f_Bool := (by ((have ho9 : okOp op := (by unfold okOp; omega); (have hr9 := reck_ok ho9 ‹_› ‹_› ‹_›; (rw [hr9.1]; done))))); have e4 : ((reckV op a b).f_Text : List UInt8) = (intV (intsN op a.f_Int b.f_Int)).f_Text := (by ((have ho9 : okOp op := (by unfold okOp; omega); (have hr9 := reck_ok ho9 ‹_› ‹_› ‹_›; (rw [hr9.1]; done))))); have e5 : ((reckV op a b).f_Num : Nat) = (intV (intsN op a.f_Int b.f_Int)).f_Num := (by ((have ho9 : okOp op := (by unfold okOp; omega); (have hr9 := reck_ok ho9 ‹_› ‹_› ‹_›; (rw [hr9.1]; done))))); have e6 : (reckE op a b : Int) = 0 := (by ((have ho9 : okOp op := (by unfold okOp; omega); (have hr9 := reck_ok ho9 ‹_› ‹_› ‹_›; exact hr9.2)))); have hE := congr (congr (congr (congr (congr (congrArg (fun (q1 : Int) (q2 : Int) (q3 : Bool) (q4 : List UInt8) (q5 : Nat) (q6 : Int) => (.tup [.agg [dI q1, dI q2, dB q3, dS q4, .d (.val (.float .f64 q5))], .one (dI q6)] : AV)) e1) e2) e3) e4) e5) e6; exact hE) trivial
   refine cF (dF hq14) ?_
   refine T.skip ?_
   refine nB ?_
   refine nT ?_
   refine sR [] ?_
   refine T.ret ?_
   exact eX [.c 6 2 24 0 24 [dI 0, dI 0, dB false, dS [], Z1r] (Z1s), .t 7 (Z22)] ⟨⟨rfl, rfl, by kernel_rfl, by kernel_rfl, .inl ⟨5, wide_24, rfl, Nat.le_of_ble_eq_true rfl⟩⟩, ⟨⟨rfl, by kernel_rfl⟩, trivial⟩⟩ [] (by have e1 : ((reckV op a b).f_Kind : Int) = 0 := (by ((have ho9 : okOp op := (by unfold okOp; omega); (have hr9 := reck_type (a := a) (b := b) ho9 (fun h9 => by exact absurd h9.2 ‹_›); (rw [hr9.1]; rfl))))); have e2 : ((reckV op a b).f_Int : Int) = 0 := (by ((have ho9 : okOp op := (by unfold okOp; omega); (have hr9 := reck_type (a := a) (b := b) ho9 (fun h9 => by exact absurd h9.2 ‹_›); (rw [hr9.1]; rfl))))); have e3 : ((reckV op a b).f_Bool : Bool) = false := (by ((have ho9 : okOp op := (by unfold okOp; omega); (have hr9 := reck_type (a := a) (b := b) ho9 (fun h9 => by exact absurd h9.2 ‹_›); (rw [hr9.1]; rfl))))); have e4 : ((reckV op a b).f_Text : List UInt8) = [] := (by ((have ho9 : okOp op := (by unfold okOp; omega); (have hr9 := reck_type (a := a) (b := b) ho9 (fun h9 => by exact absurd h9.2 ‹_›); (rw [hr9.1]; rfl))))); have e5 : ((reckV op a b).f_Num : Nat) = 0 := (by ((have ho9 : okOp op := (by unfold okOp; omega); (have hr9 := reck_type (a := a) (b := b) ho9 (fun h9 => by exact absurd h9.2 ‹_›); (rw [hr9.1]; rfl))))); have e6 : (reckE op a b : Int) = 40 := (by ((have ho9 : okOp op := (by unfold okOp; omega); (have hr9 := reck_type (a := a) (b := b) ho9 (fun h9 => by exact absurd h9.2 ‹_›); exact hr9.2)))); have hE := congr (congr (congr (congr (congr (congrArg (fun (q1 : Int) (q2 : Int) (q3 : Bool) (q4 : List UInt8) (q5 : Nat) (q6 : Int) => (.tup [.agg [dI q1, dI q2, dB q3, dS q4, .d (.val (.float .f64 q5))], .one (dI q6)] : AV)) e1) e2) e3) e4) e5) e6; exact hE) trivial
  refine sR [hR 2 rfl rfl (rCa (value_both a b ) Try.func51 [] [(.tmp 20, (Z1p a)), (.tmp 21, (Z1q b))] 0 0),
    hN 4 true (dF hq12),
    hN 5 true (dF hq12),
    hN 6 true (dF hq12),
    hP 7 (dF hq12)] ?_
  refine cF (b := false) rfl ?_
  refine sR [hR 2 rfl rfl (rCa (value_both a b ) Try.func51 [] [(.tmp 36, (Z1p a)), (.tmp 37, (Z1q b))] 0 0),
    hN 4 true (dF hq12),
    hN 5 true (dF hq12),
    hN 6 true (dF hq12),
    hP 7 (dF hq12)] ?_
  refine cF (b := false) rfl ?_
  refine T.skip ?_
  refine nB ?_
  refine nT ?_
  refine sR [] ?_
  refine T.ret ?_
  exact eX [.c 6 2 24 0 24 [dI 0, dI 0, dB false, dS [], Z1r] (Z1s), .t 7 (Z22)] ⟨⟨rfl, rfl, by kernel_rfl, by kernel_rfl, .inl ⟨5, wide_24, rfl, Nat.le_of_ble_eq_true rfl⟩⟩, ⟨⟨rfl, by kernel_rfl⟩, trivial⟩⟩ [] (by have e1 : ((reckV op a b).f_Kind : Int) = 0 := (by ((have ho9 : okOp op := (by unfold okOp; omega); (have hr9 := reck_type (a := a) (b := b) ho9 (fun h9 => by exact absurd h9.1 ‹_›); (rw [hr9.1]; rfl))))); have e2 : ((reckV op a b).f_Int : Int) = 0 := (by ((have ho9 : okOp op := (by unfold okOp; omega); (have hr9 := reck_type (a := a) (b := b) ho9 (fun h9 => by exact absurd h9.1 ‹_›); (rw [hr9.1]; rfl))))); have e3 : ((reckV op a b).f_Bool : Bool) = false := (by ((have ho9 : okOp op := (by unfold okOp; omega); (have hr9 := reck_type (a := a) (b := b) ho9 (fun h9 => by exact absurd h9.1 ‹_›); (rw [hr9.1]; rfl))))); have e4 : ((reckV op a b).f_Text : List UInt8) = [] := (by ((have ho9 : okOp op := (by unfold okOp; omega); (have hr9 := reck_type (a := a) (b := b) ho9 (fun h9 => by exact absurd h9.1 ‹_›); (rw [hr9.1]; rfl))))); have e5 : ((reckV op a b).f_Num : Nat) = 0 := (by ((have ho9 : okOp op := (by unfold okOp; omega); (have hr9 := reck_type (a := a) (b := b) ho9 (fun h9 => by exact absurd h9.1 ‹_›); (rw [hr9.1]; rfl))))); have e6 : (reckE op a b : Int) = 40 := (by ((have ho9 : okOp op := (by unfold okOp; omega); (have hr9 := reck_type (a := a) (b := b) ho9 (fun h9 => by exact absurd h9.1 ‹_›); exact hr9.2)))); have hE := congr (congr (congr (congr (congr (congrArg (fun (q1 : Int) (q2 : Int) (q3 : Bool) (q4 : List UInt8) (q5 : Nat) (q6 : Int) => (.tup [.agg [dI q1, dI q2, dB q3, dS q4, .d (.val (.float .f64 q5))], .one (dI q6)] : AV)) e1) e2) e3) e4) e5) e6; exact hE) trivial
 refine cF (dF hq11) ?_
 refine sR [] ?_
 by_cases hq16 : op = 7
 ·refine cT (dT hq16) ?_
  refine T.skip (nT ?_)
  refine cT (dT hq16) ?_
  refine T.skip ?_
  refine nB ?_
  refine nT (T.seq ?_)
  refine T.block ?_
  by_cases hq17 : bothV a b
  ·refine sR [hR 2 rfl rfl (rCa (value_both a b ) Try.func51 [] [(.tmp 20, (Z1p a)), (.tmp 21, (Z1q b))] 0 0),
     hY 4 (dT hq17),
     hY 5 (dT hq17),
     hY 6 (dT hq17),
     hP 7 (dT hq17)] ?_
   by_cases hq18 : a.f_Kind = 4
   ·exact absurd ⟨by assumption, hq18⟩ hn
   refine cF (dF hq18) ?_
   refine sR [hR 2 rfl rfl (rCa (value_both a b ) Try.func51 [] [(.tmp 36, (Z1p a)), (.tmp 37, (Z1q b))] 0 0),
     hY 4 (dT hq17),
     hY 5 (dT hq17),
     hY 6 (dT hq17),
     hP 7 (dT hq17)] ?_
   by_cases hq19 : a.f_Kind = 1
   ·refine cT (dT hq19) ?_
    refine sR [hR 5 rfl rfl (rCa (value_ints op a.f_Int b.f_Int ‹_› ‹_› (by (unfold okOp; omega))) Try.func54 [] [(.tmp 45, vI op), (.tmp 47, vI a.f_Int), (.tmp 49, vI b.f_Int)] 0 0)] ?_
    refine T.seq ?_
    refine sR [] ?_
    by_cases hq20 : (intsE op a.f_Int b.f_Int) ≠ 0
    ·refine cT (dT hq20) ?_
     refine sR [] ?_
     refine T.ret (rT (rB (rT ?_)))
     exact eX [.c 6 2 24 0 24 [dI 0, dI 0, dB false, dS [], Z1r] (Z1s), .t 7 ((Z1t op a b))] ⟨⟨rfl, rfl, by kernel_rfl, by kernel_rfl, .inl ⟨5, wide_24, rfl, Nat.le_of_ble_eq_true rfl⟩⟩, ⟨⟨rfl, by kernel_rfl⟩, trivial⟩⟩ [] (by have e1 : ((reckV op a b).f_Kind : Int) = 0 := (by ((have ho9 : okOp op := (by unfold okOp; omega); (have hr9 := reck_err ho9 ‹_› ‹_› ‹_›; (rw [hr9.1]; rfl))))); have e2 : ((reckV op a b).f_Int : Int) = 0 := (by ((have ho9 : okOp op := (by unfold okOp; omega); (have hr9 := reck_err ho9 ‹_› ‹_› ‹_›; (rw [hr9.1]; rfl))))); have e3 : ((reckV op a b).f_Bool : Bool) = false := (by ((have ho9 : okOp op := (by unfold okOp; omega); (have hr9 := reck_err ho9 ‹_› ‹_› ‹_›; (rw [hr9.1]; rfl))))); have e4 : ((reckV op a b).f_Text : List UInt8) = [] := (by ((have ho9 : okOp op := (by unfold okOp; omega); (have hr9 := reck_err ho9 ‹_› ‹_› ‹_›; (rw [hr9.1]; rfl))))); have e5 : ((reckV op a b).f_Num : Nat) = 0 := (by ((have ho9 : okOp op := (by unfold okOp; omega); (have hr9 := reck_err ho9 ‹_› ‹_› ‹_›; (rw [hr9.1]; rfl))))); have e6 : (reckE op a b : Int) = intsE op a.f_Int b.f_Int := (by ((have ho9 : okOp op := (by unfold okOp; omega); (have hr9 := reck_err ho9 ‹_› ‹_› ‹_›; exact hr9.2)))); have hE := congr (congr (congr (congr (congr (congrArg (fun (q1 : Int) (q2 : Int) (q3 : Bool) (q4 : List UInt8) (q5 : Nat) (q6 : Int) => (.tup [.agg [dI q1, dI q2, dB q3, dS q4, .d (.val (.float .f64 q5))], .one (dI q6)] : AV)) e1) e2) e3) e4) e5) e6; exact hE) trivial
    refine cF (dF hq20) ?_
    refine T.skip (nT ?_)
    refine sR [hR 1 rfl rfl (rCa (value_ofInt (intsN op a.f_Int b.f_Int) ) Try.func55 [] [(.tmp 57, (Z1u op a b))] 0 0)] ?_
    refine T.ret (rB (rT ?_))
    exact eX [.c 6 2 24 0 24 [(Z1v op a b), (Z1w op a b), (Z1x op a b), (Z1y op a b), (Z1z op a b)] ((Z20 op a b)), .t 7 (Z21)] ⟨⟨rfl, rfl, by kernel_rfl, by kernel_rfl, .inl ⟨5, wide_24, rfl, Nat.le_of_ble_eq_true rfl⟩⟩, ⟨⟨rfl, by kernel_rfl⟩, trivial⟩⟩ [] (by have e1 : ((reckV op a b).f_Kind : Int) = (intV (intsN op a.f_Int b.f_Int)).f_Kind := (by ((have ho9 : okOp op := (by unfold okOp; omega); (have hr9 := reck_ok ho9 ‹_› ‹_› ‹_›; (rw [hr9.1]; done))))); have e2 : ((reckV op a b).f_Int : Int) = (intV (intsN op a.f_Int b.f_Int)).f_Int := (by ((have ho9 : okOp op := (by unfold okOp; omega); (have hr9 := reck_ok ho9 ‹_› ‹_› ‹_›; (rw [hr9.1]; done))))); have e3 : ((reckV op a b).f_Bool : Bool) = (intV (intsN op a.f_Int b.f_Int)).f_Bool := (by ((have ho9 : okOp op := (by unfold okOp; omega); (have hr9 := reck_ok ho9 ‹_› ‹_› ‹_›; (rw [hr9.1]; done))))); have e4 : ((reckV op a b).f_Text : List UInt8) = (intV (intsN op a.f_Int b.f_Int)).f_Text := (by ((have ho9 : okOp op := (by unfold okOp; omega); (have hr9 := reck_ok ho9 ‹_› ‹_› ‹_›; (rw [hr9.1]; done))))); have e5 : ((reckV op a b).f_Num : Nat) = (intV (intsN op a.f_Int b.f_Int)).f_Num := (by ((have ho9 : okOp op := (by unfold okOp; omega); (have hr9 := reck_ok ho9 ‹_› ‹_› ‹_›; (rw [hr9.1]; done))))); have e6 : (reckE op a b : Int) = 0 := (by ((have ho9 : okOp op := (by unfold okOp; omega); (have hr9 := reck_ok ho9 ‹_› ‹_› ‹_›; exact hr9.2)))); have hE := congr (congr (congr (congr (congr (congrArg (fun (q1 : Int) (q2 : Int) (q3 : Bool) (q4 : List UInt8) (q5 : Nat) (q6 : Int) => (.tup [.agg [dI q1, dI q2, dB q3, dS q4, .d (.val (.float .f64 q5))], .one (dI q6)] : AV)) e1) e2) e3) e4) e5) e6; exact hE) trivial
   refine cF (dF hq19) ?_
   refine T.skip ?_
   refine nB ?_
   refine nT ?_
   refine sR [] ?_
   refine T.ret ?_
   exact eX [.c 6 2 24 0 24 [dI 0, dI 0, dB false, dS [], Z1r] (Z1s), .t 7 (Z22)] ⟨⟨rfl, rfl, by kernel_rfl, by kernel_rfl, .inl ⟨5, wide_24, rfl, Nat.le_of_ble_eq_true rfl⟩⟩, ⟨⟨rfl, by kernel_rfl⟩, trivial⟩⟩ [] (by have e1 : ((reckV op a b).f_Kind : Int) = 0 := (by ((have ho9 : okOp op := (by unfold okOp; omega); (have hr9 := reck_type (a := a) (b := b) ho9 (fun h9 => by exact absurd h9.2 ‹_›); (rw [hr9.1]; rfl))))); have e2 : ((reckV op a b).f_Int : Int) = 0 := (by ((have ho9 : okOp op := (by unfold okOp; omega); (have hr9 := reck_type (a := a) (b := b) ho9 (fun h9 => by exact absurd h9.2 ‹_›); (rw [hr9.1]; rfl))))); have e3 : ((reckV op a b).f_Bool : Bool) = false := (by ((have ho9 : okOp op := (by unfold okOp; omega); (have hr9 := reck_type (a := a) (b := b) ho9 (fun h9 => by exact absurd h9.2 ‹_›); (rw [hr9.1]; rfl))))); have e4 : ((reckV op a b).f_Text : List UInt8) = [] := (by ((have ho9 : okOp op := (by unfold okOp; omega); (have hr9 := reck_type (a := a) (b := b) ho9 (fun h9 => by exact absurd h9.2 ‹_›); (rw [hr9.1]; rfl))))); have e5 : ((reckV op a b).f_Num : Nat) = 0 := (by ((have ho9 : okOp op := (by unfold okOp; omega); (have hr9 := reck_type (a := a) (b := b) ho9 (fun h9 => by exact absurd h9.2 ‹_›); (rw [hr9.1]; rfl))))); have e6 : (reckE op a b : Int) = 40 := (by ((have ho9 : okOp op := (by unfold okOp; omega); (have hr9 := reck_type (a := a) (b := b) ho9 (fun h9 => by exact absurd h9.2 ‹_›); exact hr9.2)))); have hE := congr (congr (congr (congr (congr (congrArg (fun (q1 : Int) (q2 : Int) (q3 : Bool) (q4 : List UInt8) (q5 : Nat) (q6 : Int) => (.tup [.agg [dI q1, dI q2, dB q3, dS q4, .d (.val (.float .f64 q5))], .one (dI q6)] : AV)) e1) e2) e3) e4) e5) e6; exact hE) trivial
  refine sR [hR 2 rfl rfl (rCa (value_both a b ) Try.func51 [] [(.tmp 20, (Z1p a)), (.tmp 21, (Z1q b))] 0 0),
    hN 4 true (dF hq17),
    hN 5 true (dF hq17),
    hN 6 true (dF hq17),
    hP 7 (dF hq17)] ?_
  refine cF (b := false) rfl ?_
  refine sR [hR 2 rfl rfl (rCa (value_both a b ) Try.func51 [] [(.tmp 36, (Z1p a)), (.tmp 37, (Z1q b))] 0 0),
    hN 4 true (dF hq17),
    hN 5 true (dF hq17),
    hN 6 true (dF hq17),
    hP 7 (dF hq17)] ?_
  refine cF (b := false) rfl ?_
  refine T.skip ?_
  refine nB ?_
  refine nT ?_
  refine sR [] ?_
  refine T.ret ?_
  exact eX [.c 6 2 24 0 24 [dI 0, dI 0, dB false, dS [], Z1r] (Z1s), .t 7 (Z22)] ⟨⟨rfl, rfl, by kernel_rfl, by kernel_rfl, .inl ⟨5, wide_24, rfl, Nat.le_of_ble_eq_true rfl⟩⟩, ⟨⟨rfl, by kernel_rfl⟩, trivial⟩⟩ [] (by have e1 : ((reckV op a b).f_Kind : Int) = 0 := (by ((have ho9 : okOp op := (by unfold okOp; omega); (have hr9 := reck_type (a := a) (b := b) ho9 (fun h9 => by exact absurd h9.1 ‹_›); (rw [hr9.1]; rfl))))); have e2 : ((reckV op a b).f_Int : Int) = 0 := (by ((have ho9 : okOp op := (by unfold okOp; omega); (have hr9 := reck_type (a := a) (b := b) ho9 (fun h9 => by exact absurd h9.1 ‹_›); (rw [hr9.1]; rfl))))); have e3 : ((reckV op a b).f_Bool : Bool) = false := (by ((have ho9 : okOp op := (by unfold okOp; omega); (have hr9 := reck_type (a := a) (b := b) ho9 (fun h9 => by exact absurd h9.1 ‹_›); (rw [hr9.1]; rfl))))); have e4 : ((reckV op a b).f_Text : List UInt8) = [] := (by ((have ho9 : okOp op := (by unfold okOp; omega); (have hr9 := reck_type (a := a) (b := b) ho9 (fun h9 => by exact absurd h9.1 ‹_›); (rw [hr9.1]; rfl))))); have e5 : ((reckV op a b).f_Num : Nat) = 0 := (by ((have ho9 : okOp op := (by unfold okOp; omega); (have hr9 := reck_type (a := a) (b := b) ho9 (fun h9 => by exact absurd h9.1 ‹_›); (rw [hr9.1]; rfl))))); have e6 : (reckE op a b : Int) = 40 := (by ((have ho9 : okOp op := (by unfold okOp; omega); (have hr9 := reck_type (a := a) (b := b) ho9 (fun h9 => by exact absurd h9.1 ‹_›); exact hr9.2)))); have hE := congr (congr (congr (congr (congr (congrArg (fun (q1 : Int) (q2 : Int) (q3 : Bool) (q4 : List UInt8) (q5 : Nat) (q6 : Int) => (.tup [.agg [dI q1, dI q2, dB q3, dS q4, .d (.val (.float .f64 q5))], .one (dI q6)] : AV)) e1) e2) e3) e4) e5) e6; exact hE) trivial
 refine cF (dF hq16) ?_
 refine sR [] ?_
 by_cases hq21 : op = 14
 ·refine cT (dT hq21) ?_
  refine T.skip (nT ?_)
  refine cT (dT hq21) ?_
  refine T.skip ?_
  refine nB ?_
  refine nT (T.seq ?_)
  refine T.block ?_
  by_cases hq22 : bothV a b
  ·refine sR [hR 2 rfl rfl (rCa (value_both a b ) Try.func51 [] [(.tmp 20, (Z1p a)), (.tmp 21, (Z1q b))] 0 0),
     hY 4 (dT hq22),
     hY 5 (dT hq22),
     hY 6 (dT hq22),
     hP 7 (dT hq22)] ?_
   by_cases hq23 : a.f_Kind = 4
   ·exact absurd ⟨by assumption, hq23⟩ hn
   refine cF (dF hq23) ?_
   refine sR [hR 2 rfl rfl (rCa (value_both a b ) Try.func51 [] [(.tmp 36, (Z1p a)), (.tmp 37, (Z1q b))] 0 0),
     hY 4 (dT hq22),
     hY 5 (dT hq22),
     hY 6 (dT hq22),
     hP 7 (dT hq22)] ?_
   by_cases hq24 : a.f_Kind = 1
   ·refine cT (dT hq24) ?_
    refine sR [hR 5 rfl rfl (rCa (value_ints op a.f_Int b.f_Int ‹_› ‹_› (by (unfold okOp; omega))) Try.func54 [] [(.tmp 45, vI op), (.tmp 47, vI a.f_Int), (.tmp 49, vI b.f_Int)] 0 0)] ?_
    refine T.seq ?_
    refine sR [] ?_
    by_cases hq25 : (intsE op a.f_Int b.f_Int) ≠ 0
    ·refine cT (dT hq25) ?_
     refine sR [] ?_
     refine T.ret (rT (rB (rT ?_)))
     exact eX [.c 6 2 24 0 24 [dI 0, dI 0, dB false, dS [], Z1r] (Z1s), .t 7 ((Z1t op a b))] ⟨⟨rfl, rfl, by kernel_rfl, by kernel_rfl, .inl ⟨5, wide_24, rfl, Nat.le_of_ble_eq_true rfl⟩⟩, ⟨⟨rfl, by kernel_rfl⟩, trivial⟩⟩ [] (by have e1 : ((reckV op a b).f_Kind : Int) = 0 := (by ((have ho9 : okOp op := (by unfold okOp; omega); (have hr9 := reck_err ho9 ‹_› ‹_› ‹_›; (rw [hr9.1]; rfl))))); have e2 : ((reckV op a b).f_Int : Int) = 0 := (by ((have ho9 : okOp op := (by unfold okOp; omega); (have hr9 := reck_err ho9 ‹_› ‹_› ‹_›; (rw [hr9.1]; rfl))))); have e3 : ((reckV op a b).f_Bool : Bool) = false := (by ((have ho9 : okOp op := (by unfold okOp; omega); (have hr9 := reck_err ho9 ‹_› ‹_› ‹_›; (rw [hr9.1]; rfl))))); have e4 : ((reckV op a b).f_Text : List UInt8) = [] := (by ((have ho9 : okOp op := (by unfold okOp; omega); (have hr9 := reck_err ho9 ‹_› ‹_› ‹_›; (rw [hr9.1]; rfl))))); have e5 : ((reckV op a b).f_Num : Nat) = 0 := (by ((have ho9 : okOp op := (by unfold okOp; omega); (have hr9 := reck_err ho9 ‹_› ‹_› ‹_›; (rw [hr9.1]; rfl))))); have e6 : (reckE op a b : Int) = intsE op a.f_Int b.f_Int := (by ((have ho9 : okOp op := (by unfold okOp; omega); (have hr9 := reck_err ho9 ‹_› ‹_› ‹_›; exact hr9.2)))); have hE := congr (congr (congr (congr (congr (congrArg (fun (q1 : Int) (q2 : Int) (q3 : Bool) (q4 : List UInt8) (q5 : Nat) (q6 : Int) => (.tup [.agg [dI q1, dI q2, dB q3, dS q4, .d (.val (.float .f64 q5))], .one (dI q6)] : AV)) e1) e2) e3) e4) e5) e6; exact hE) trivial
    refine cF (dF hq25) ?_
    refine T.skip (nT ?_)
    refine sR [hR 1 rfl rfl (rCa (value_ofInt (intsN op a.f_Int b.f_Int) ) Try.func55 [] [(.tmp 57, (Z1u op a b))] 0 0)] ?_
    refine T.ret (rB (rT ?_))
    exact eX [.c 6 2 24 0 24 [(Z1v op a b), (Z1w op a b), (Z1x op a b), (Z1y op a b), (Z1z op a b)] ((Z20 op a b)), .t 7 (Z21)] ⟨⟨rfl, rfl, by kernel_rfl, by kernel_rfl, .inl ⟨5, wide_24, rfl, Nat.le_of_ble_eq_true rfl⟩⟩, ⟨⟨rfl, by kernel_rfl⟩, trivial⟩⟩ [] (by have e1 : ((reckV op a b).f_Kind : Int) = (intV (intsN op a.f_Int b.f_Int)).f_Kind := (by ((have ho9 : okOp op := (by unfold okOp; omega); (have hr9 := reck_ok ho9 ‹_› ‹_› ‹_›; (rw [hr9.1]; done))))); have e2 : ((reckV op a b).f_Int : Int) = (intV (intsN op a.f_Int b.f_Int)).f_Int := (by ((have ho9 : okOp op := (by unfold okOp; omega); (have hr9 := reck_ok ho9 ‹_› ‹_› ‹_›; (rw [hr9.1]; done))))); have e3 : ((reckV op a b).f_Bool : Bool) = (intV (intsN op a.f_Int b.f_Int)).f_Bool := (by ((have ho9 : okOp op := (by unfold okOp; omega); (have hr9 := reck_ok ho9 ‹_› ‹_› ‹_›; (rw [hr9.1]; done))))); have e4 : ((reckV op a b).f_Text : List UInt8) = (intV (intsN op a.f_Int b.f_Int)).f_Text := (by ((have ho9 : okOp op := (by unfold okOp; omega); (have hr9 := reck_ok ho9 ‹_› ‹_› ‹_›; (rw [hr9.1]; done))))); have e5 : ((reckV op a b).f_Num : Nat) = (intV (intsN op a.f_Int b.f_Int)).f_Num := (by ((have ho9 : okOp op := (by unfold okOp; omega); (have hr9 := reck_ok ho9 ‹_› ‹_› ‹_›; (rw [hr9.1]; done))))); have e6 : (reckE op a b : Int) = 0 := (by ((have ho9 : okOp op := (by unfold okOp; omega); (have hr9 := reck_ok ho9 ‹_› ‹_› ‹_›; exact hr9.2)))); have hE := congr (congr (congr (congr (congr (congrArg (fun (q1 : Int) (q2 : Int) (q3 : Bool) (q4 : List UInt8) (q5 : Nat) (q6 : Int) => (.tup [.agg [dI q1, dI q2, dB q3, dS q4, .d (.val (.float .f64 q5))], .one (dI q6)] : AV)) e1) e2) e3) e4) e5) e6; exact hE) trivial
   refine cF (dF hq24) ?_
   refine T.skip ?_
   refine nB ?_
   refine nT ?_
   refine sR [] ?_
   refine T.ret ?_
   exact eX [.c 6 2 24 0 24 [dI 0, dI 0, dB false, dS [], Z1r] (Z1s), .t 7 (Z22)] ⟨⟨rfl, rfl, by kernel_rfl, by kernel_rfl, .inl ⟨5, wide_24, rfl, Nat.le_of_ble_eq_true rfl⟩⟩, ⟨⟨rfl, by kernel_rfl⟩, trivial⟩⟩ [] (by have e1 : ((reckV op a b).f_Kind : Int) = 0 := (by ((have ho9 : okOp op := (by unfold okOp; omega); (have hr9 := reck_type (a := a) (b := b) ho9 (fun h9 => by exact absurd h9.2 ‹_›); (rw [hr9.1]; rfl))))); have e2 : ((reckV op a b).f_Int : Int) = 0 := (by ((have ho9 : okOp op := (by unfold okOp; omega); (have hr9 := reck_type (a := a) (b := b) ho9 (fun h9 => by exact absurd h9.2 ‹_›); (rw [hr9.1]; rfl))))); have e3 : ((reckV op a b).f_Bool : Bool) = false := (by ((have ho9 : okOp op := (by unfold okOp; omega); (have hr9 := reck_type (a := a) (b := b) ho9 (fun h9 => by exact absurd h9.2 ‹_›); (rw [hr9.1]; rfl))))); have e4 : ((reckV op a b).f_Text : List UInt8) = [] := (by ((have ho9 : okOp op := (by unfold okOp; omega); (have hr9 := reck_type (a := a) (b := b) ho9 (fun h9 => by exact absurd h9.2 ‹_›); (rw [hr9.1]; rfl))))); have e5 : ((reckV op a b).f_Num : Nat) = 0 := (by ((have ho9 : okOp op := (by unfold okOp; omega); (have hr9 := reck_type (a := a) (b := b) ho9 (fun h9 => by exact absurd h9.2 ‹_›); (rw [hr9.1]; rfl))))); have e6 : (reckE op a b : Int) = 40 := (by ((have ho9 : okOp op := (by unfold okOp; omega); (have hr9 := reck_type (a := a) (b := b) ho9 (fun h9 => by exact absurd h9.2 ‹_›); exact hr9.2)))); have hE := congr (congr (congr (congr (congr (congrArg (fun (q1 : Int) (q2 : Int) (q3 : Bool) (q4 : List UInt8) (q5 : Nat) (q6 : Int) => (.tup [.agg [dI q1, dI q2, dB q3, dS q4, .d (.val (.float .f64 q5))], .one (dI q6)] : AV)) e1) e2) e3) e4) e5) e6; exact hE) trivial
  refine sR [hR 2 rfl rfl (rCa (value_both a b ) Try.func51 [] [(.tmp 20, (Z1p a)), (.tmp 21, (Z1q b))] 0 0),
    hN 4 true (dF hq22),
    hN 5 true (dF hq22),
    hN 6 true (dF hq22),
    hP 7 (dF hq22)] ?_
  refine cF (b := false) rfl ?_
  refine sR [hR 2 rfl rfl (rCa (value_both a b ) Try.func51 [] [(.tmp 36, (Z1p a)), (.tmp 37, (Z1q b))] 0 0),
    hN 4 true (dF hq22),
    hN 5 true (dF hq22),
    hN 6 true (dF hq22),
    hP 7 (dF hq22)] ?_
  refine cF (b := false) rfl ?_
  refine T.skip ?_
  refine nB ?_
  refine nT ?_
  refine sR [] ?_
  refine T.ret ?_
  exact eX [.c 6 2 24 0 24 [dI 0, dI 0, dB false, dS [], Z1r] (Z1s), .t 7 (Z22)] ⟨⟨rfl, rfl, by kernel_rfl, by kernel_rfl, .inl ⟨5, wide_24, rfl, Nat.le_of_ble_eq_true rfl⟩⟩, ⟨⟨rfl, by kernel_rfl⟩, trivial⟩⟩ [] (by have e1 : ((reckV op a b).f_Kind : Int) = 0 := (by ((have ho9 : okOp op := (by unfold okOp; omega); (have hr9 := reck_type (a := a) (b := b) ho9 (fun h9 => by exact absurd h9.1 ‹_›); (rw [hr9.1]; rfl))))); have e2 : ((reckV op a b).f_Int : Int) = 0 := (by ((have ho9 : okOp op := (by unfold okOp; omega); (have hr9 := reck_type (a := a) (b := b) ho9 (fun h9 => by exact absurd h9.1 ‹_›); (rw [hr9.1]; rfl))))); have e3 : ((reckV op a b).f_Bool : Bool) = false := (by ((have ho9 : okOp op := (by unfold okOp; omega); (have hr9 := reck_type (a := a) (b := b) ho9 (fun h9 => by exact absurd h9.1 ‹_›); (rw [hr9.1]; rfl))))); have e4 : ((reckV op a b).f_Text : List UInt8) = [] := (by ((have ho9 : okOp op := (by unfold okOp; omega); (have hr9 := reck_type (a := a) (b := b) ho9 (fun h9 => by exact absurd h9.1 ‹_›); (rw [hr9.1]; rfl))))); have e5 : ((reckV op a b).f_Num : Nat) = 0 := (by ((have ho9 : okOp op := (by unfold okOp; omega); (have hr9 := reck_type (a := a) (b := b) ho9 (fun h9 => by exact absurd h9.1 ‹_›); (rw [hr9.1]; rfl))))); have e6 : (reckE op a b : Int) = 40 := (by ((have ho9 : okOp op := (by unfold okOp; omega); (have hr9 := reck_type (a := a) (b := b) ho9 (fun h9 => by exact absurd h9.1 ‹_›); exact hr9.2)))); have hE := congr (congr (congr (congr (congr (congrArg (fun (q1 : Int) (q2 : Int) (q3 : Bool) (q4 : List UInt8) (q5 : Nat) (q6 : Int) => (.tup [.agg [dI q1, dI q2, dB q3, dS q4, .d (.val (.float .f64 q5))], .one (dI q6)] : AV)) e1) e2) e3) e4) e5) e6; exact hE) trivial
 refine cF (dF hq21) ?_
 refine xK [] ?_
 refine nT ?_
 by_cases hq26 : op = 15
 ·refine cT (dT hq26) ?_
  refine T.skip ?_
  refine nB ?_
  refine nT (T.seq ?_)
  refine T.block ?_
  by_cases hq27 : bothV a b
  ·refine sR [hR 2 rfl rfl (rCa (value_both a b ) Try.func51 [] [(.tmp 20, (Z1p a)), (.tmp 21, (Z1q b))] 0 0),
     hY 4 (dT hq27),
     hY 5 (dT hq27),
     hY 6 (dT hq27),
     hP 7 (dT hq27)] ?_
   by_cases hq28 : a.f_Kind = 4
   ·exact absurd ⟨by assumption, hq28⟩ hn
   refine cF (dF hq28) ?_
   refine sR [hR 2 rfl rfl (rCa (value_both a b ) Try.func51 [] [(.tmp 36, (Z1p a)), (.tmp 37, (Z1q b))] 0 0),
     hY 4 (dT hq27),
     hY 5 (dT hq27),
     hY 6 (dT hq27),
     hP 7 (dT hq27)] ?_
   by_cases hq29 : a.f_Kind = 1
   ·refine cT (dT hq29) ?_
    refine sR [hR 5 rfl rfl (rCa (value_ints op a.f_Int b.f_Int ‹_› ‹_› (by (unfold okOp; omega))) Try.func54 [] [(.tmp 45, vI op), (.tmp 47, vI a.f_Int), (.tmp 49, vI b.f_Int)] 0 0)] ?_
    refine T.seq ?_
    refine sR [] ?_
    by_cases hq30 : (intsE op a.f_Int b.f_Int) ≠ 0
    ·refine cT (dT hq30) ?_
     refine sR [] ?_
     refine T.ret (rT (rB (rT ?_)))
     exact eX [.c 6 2 24 0 24 [dI 0, dI 0, dB false, dS [], Z1r] (Z1s), .t 7 ((Z1t op a b))] ⟨⟨rfl, rfl, by kernel_rfl, by kernel_rfl, .inl ⟨5, wide_24, rfl, Nat.le_of_ble_eq_true rfl⟩⟩, ⟨⟨rfl, by kernel_rfl⟩, trivial⟩⟩ [] (by have e1 : ((reckV op a b).f_Kind : Int) = 0 := (by ((have ho9 : okOp op := (by unfold okOp; omega); (have hr9 := reck_err ho9 ‹_› ‹_› ‹_›; (rw [hr9.1]; rfl))))); have e2 : ((reckV op a b).f_Int : Int) = 0 := (by ((have ho9 : okOp op := (by unfold okOp; omega); (have hr9 := reck_err ho9 ‹_› ‹_› ‹_›; (rw [hr9.1]; rfl))))); have e3 : ((reckV op a b).f_Bool : Bool) = false := (by ((have ho9 : okOp op := (by unfold okOp; omega); (have hr9 := reck_err ho9 ‹_› ‹_› ‹_›; (rw [hr9.1]; rfl))))); have e4 : ((reckV op a b).f_Text : List UInt8) = [] := (by ((have ho9 : okOp op := (by unfold okOp; omega); (have hr9 := reck_err ho9 ‹_› ‹_› ‹_›; (rw [hr9.1]; rfl))))); have e5 : ((reckV op a b).f_Num : Nat) = 0 := (by ((have ho9 : okOp op := (by unfold okOp; omega); (have hr9 := reck_err ho9 ‹_› ‹_› ‹_›; (rw [hr9.1]; rfl))))); have e6 : (reckE op a b : Int) = intsE op a.f_Int b.f_Int := (by ((have ho9 : okOp op := (by unfold okOp; omega); (have hr9 := reck_err ho9 ‹_› ‹_› ‹_›; exact hr9.2)))); have hE := congr (congr (congr (congr (congr (congrArg (fun (q1 : Int) (q2 : Int) (q3 : Bool) (q4 : List UInt8) (q5 : Nat) (q6 : Int) => (.tup [.agg [dI q1, dI q2, dB q3, dS q4, .d (.val (.float .f64 q5))], .one (dI q6)] : AV)) e1) e2) e3) e4) e5) e6; exact hE) trivial
    refine cF (dF hq30) ?_
    refine T.skip (nT ?_)
    refine sR [hR 1 rfl rfl (rCa (value_ofInt (intsN op a.f_Int b.f_Int) ) Try.func55 [] [(.tmp 57, (Z1u op a b))] 0 0)] ?_
    refine T.ret (rB (rT ?_))
    exact eX [.c 6 2 24 0 24 [(Z1v op a b), (Z1w op a b), (Z1x op a b), (Z1y op a b), (Z1z op a b)] ((Z20 op a b)), .t 7 (Z21)] ⟨⟨rfl, rfl, by kernel_rfl, by kernel_rfl, .inl ⟨5, wide_24, rfl, Nat.le_of_ble_eq_true rfl⟩⟩, ⟨⟨rfl, by kernel_rfl⟩, trivial⟩⟩ [] (by have e1 : ((reckV op a b).f_Kind : Int) = (intV (intsN op a.f_Int b.f_Int)).f_Kind := (by ((have ho9 : okOp op := (by unfold okOp; omega); (have hr9 := reck_ok ho9 ‹_› ‹_› ‹_›; (rw [hr9.1]; done))))); have e2 : ((reckV op a b).f_Int : Int) = (intV (intsN op a.f_Int b.f_Int)).f_Int := (by ((have ho9 : okOp op := (by unfold okOp; omega); (have hr9 := reck_ok ho9 ‹_› ‹_› ‹_›; (rw [hr9.1]; done))))); have e3 : ((reckV op a b).f_Bool : Bool) = (intV (intsN op a.f_Int b.f_Int)).f_Bool := (by ((have ho9 : okOp op := (by unfold okOp; omega); (have hr9 := reck_ok ho9 ‹_› ‹_› ‹_›; (rw [hr9.1]; done))))); have e4 : ((reckV op a b).f_Text : List UInt8) = (intV (intsN op a.f_Int b.f_Int)).f_Text := (by ((have ho9 : okOp op := (by unfold okOp; omega); (have hr9 := reck_ok ho9 ‹_› ‹_› ‹_›; (rw [hr9.1]; done))))); have e5 : ((reckV op a b).f_Num : Nat) = (intV (intsN op a.f_Int b.f_Int)).f_Num := (by ((have ho9 : okOp op := (by unfold okOp; omega); (have hr9 := reck_ok ho9 ‹_› ‹_› ‹_›; (rw [hr9.1]; done))))); have e6 : (reckE op a b : Int) = 0 := (by ((have ho9 : okOp op := (by unfold okOp; omega); (have hr9 := reck_ok ho9 ‹_› ‹_› ‹_›; exact hr9.2)))); have hE := congr (congr (congr (congr (congr (congrArg (fun (q1 : Int) (q2 : Int) (q3 : Bool) (q4 : List UInt8) (q5 : Nat) (q6 : Int) => (.tup [.agg [dI q1, dI q2, dB q3, dS q4, .d (.val (.float .f64 q5))], .one (dI q6)] : AV)) e1) e2) e3) e4) e5) e6; exact hE) trivial
   refine cF (dF hq29) ?_
   refine T.skip ?_
   refine nB ?_
   refine nT ?_
   refine sR [] ?_
   refine T.ret ?_
   exact eX [.c 6 2 24 0 24 [dI 0, dI 0, dB false, dS [], Z1r] (Z1s), .t 7 (Z22)] ⟨⟨rfl, rfl, by kernel_rfl, by kernel_rfl, .inl ⟨5, wide_24, rfl, Nat.le_of_ble_eq_true rfl⟩⟩, ⟨⟨rfl, by kernel_rfl⟩, trivial⟩⟩ [] (by have e1 : ((reckV op a b).f_Kind : Int) = 0 := (by ((have ho9 : okOp op := (by unfold okOp; omega); (have hr9 := reck_type (a := a) (b := b) ho9 (fun h9 => by exact absurd h9.2 ‹_›); (rw [hr9.1]; rfl))))); have e2 : ((reckV op a b).f_Int : Int) = 0 := (by ((have ho9 : okOp op := (by unfold okOp; omega); (have hr9 := reck_type (a := a) (b := b) ho9 (fun h9 => by exact absurd h9.2 ‹_›); (rw [hr9.1]; rfl))))); have e3 : ((reckV op a b).f_Bool : Bool) = false := (by ((have ho9 : okOp op := (by unfold okOp; omega); (have hr9 := reck_type (a := a) (b := b) ho9 (fun h9 => by exact absurd h9.2 ‹_›); (rw [hr9.1]; rfl))))); have e4 : ((reckV op a b).f_Text : List UInt8) = [] := (by ((have ho9 : okOp op := (by unfold okOp; omega); (have hr9 := reck_type (a := a) (b := b) ho9 (fun h9 => by exact absurd h9.2 ‹_›); (rw [hr9.1]; rfl))))); have e5 : ((reckV op a b).f_Num : Nat) = 0 := (by ((have ho9 : okOp op := (by unfold okOp; omega); (have hr9 := reck_type (a := a) (b := b) ho9 (fun h9 => by exact absurd h9.2 ‹_›); (rw [hr9.1]; rfl))))); have e6 : (reckE op a b : Int) = 40 := (by ((have ho9 : okOp op := (by unfold okOp; omega); (have hr9 := reck_type (a := a) (b := b) ho9 (fun h9 => by exact absurd h9.2 ‹_›); exact hr9.2)))); have hE := congr (congr (congr (congr (congr (congrArg (fun (q1 : Int) (q2 : Int) (q3 : Bool) (q4 : List UInt8) (q5 : Nat) (q6 : Int) => (.tup [.agg [dI q1, dI q2, dB q3, dS q4, .d (.val (.float .f64 q5))], .one (dI q6)] : AV)) e1) e2) e3) e4) e5) e6; exact hE) trivial
  refine sR [hR 2 rfl rfl (rCa (value_both a b ) Try.func51 [] [(.tmp 20, (Z1p a)), (.tmp 21, (Z1q b))] 0 0),
    hN 4 true (dF hq27),
    hN 5 true (dF hq27),
    hN 6 true (dF hq27),
    hP 7 (dF hq27)] ?_
  refine cF (b := false) rfl ?_
  refine sR [hR 2 rfl rfl (rCa (value_both a b ) Try.func51 [] [(.tmp 36, (Z1p a)), (.tmp 37, (Z1q b))] 0 0),
    hN 4 true (dF hq27),
    hN 5 true (dF hq27),
    hN 6 true (dF hq27),
    hP 7 (dF hq27)] ?_
  refine cF (b := false) rfl ?_
  refine T.skip ?_
  refine nB ?_
  refine nT ?_
  refine sR [] ?_
  refine T.ret ?_
  exact eX [.c 6 2 24 0 24 [dI 0, dI 0, dB false, dS [], Z1r] (Z1s), .t 7 (Z22)] ⟨⟨rfl, rfl, by kernel_rfl, by kernel_rfl, .inl ⟨5, wide_24, rfl, Nat.le_of_ble_eq_true rfl⟩⟩, ⟨⟨rfl, by kernel_rfl⟩, trivial⟩⟩ [] (by have e1 : ((reckV op a b).f_Kind : Int) = 0 := (by ((have ho9 : okOp op := (by unfold okOp; omega); (have hr9 := reck_type (a := a) (b := b) ho9 (fun h9 => by exact absurd h9.1 ‹_›); (rw [hr9.1]; rfl))))); have e2 : ((reckV op a b).f_Int : Int) = 0 := (by ((have ho9 : okOp op := (by unfold okOp; omega); (have hr9 := reck_type (a := a) (b := b) ho9 (fun h9 => by exact absurd h9.1 ‹_›); (rw [hr9.1]; rfl))))); have e3 : ((reckV op a b).f_Bool : Bool) = false := (by ((have ho9 : okOp op := (by unfold okOp; omega); (have hr9 := reck_type (a := a) (b := b) ho9 (fun h9 => by exact absurd h9.1 ‹_›); (rw [hr9.1]; rfl))))); have e4 : ((reckV op a b).f_Text : List UInt8) = [] := (by ((have ho9 : okOp op := (by unfold okOp; omega); (have hr9 := reck_type (a := a) (b := b) ho9 (fun h9 => by exact absurd h9.1 ‹_›); (rw [hr9.1]; rfl))))); have e5 : ((reckV op a b).f_Num : Nat) = 0 := (by ((have ho9 : okOp op := (by unfold okOp; omega); (have hr9 := reck_type (a := a) (b := b) ho9 (fun h9 => by exact absurd h9.1 ‹_›); (rw [hr9.1]; rfl))))); have e6 : (reckE op a b : Int) = 40 := (by ((have ho9 : okOp op := (by unfold okOp; omega); (have hr9 := reck_type (a := a) (b := b) ho9 (fun h9 => by exact absurd h9.1 ‹_›); exact hr9.2)))); have hE := congr (congr (congr (congr (congr (congrArg (fun (q1 : Int) (q2 : Int) (q3 : Bool) (q4 : List UInt8) (q5 : Nat) (q6 : Int) => (.tup [.agg [dI q1, dI q2, dB q3, dS q4, .d (.val (.float .f64 q5))], .one (dI q6)] : AV)) e1) e2) e3) e4) e5) e6; exact hE) trivial
 refine cF (dF hq26) ?_
 refine sR [] ?_
 refine T.ret (rB (rT ?_))
 exact eX [.c 6 2 24 0 24 [dI 0, dI 0, dB false, dS [], Z1r] (Z1s), .t 7 (.one (dI 1))] ⟨⟨rfl, rfl, by kernel_rfl, by kernel_rfl, .inl ⟨5, wide_24, rfl, Nat.le_of_ble_eq_true rfl⟩⟩, ⟨⟨rfl, by kernel_rfl⟩, trivial⟩⟩ [] (by have e1 : ((reckV op a b).f_Kind : Int) = 0 := (by ((have hr9 := reck_arg (a := a) (b := b) (by unfold okOp; omega : ¬ okOp op); (rw [hr9.1]; rfl)))); have e2 : ((reckV op a b).f_Int : Int) = 0 := (by ((have hr9 := reck_arg (a := a) (b := b) (by unfold okOp; omega : ¬ okOp op); (rw [hr9.1]; rfl)))); have e3 : ((reckV op a b).f_Bool : Bool) = false := (by ((have hr9 := reck_arg (a := a) (b := b) (by unfold okOp; omega : ¬ okOp op); (rw [hr9.1]; rfl)))); have e4 : ((reckV op a b).f_Text : List UInt8) = [] := (by ((have hr9 := reck_arg (a := a) (b := b) (by unfold okOp; omega : ¬ okOp op); (rw [hr9.1]; rfl)))); have e5 : ((reckV op a b).f_Num : Nat) = 0 := (by ((have hr9 := reck_arg (a := a) (b := b) (by unfold okOp; omega : ¬ okOp op); (rw [hr9.1]; rfl)))); have e6 : (reckE op a b : Int) = 1 := (by ((have hr9 := reck_arg (a := a) (b := b) (by unfold okOp; omega : ¬ okOp op); exact hr9.2))); have hE := congr (congr (congr (congr (congr (congrArg (fun (q1 : Int) (q2 : Int) (q3 : Bool) (q4 : List UInt8) (q5 : Nat) (q6 : Int) => (.tup [.agg [dI q1, dI q2, dB q3, dS q4, .d (.val (.float .f64 q5))], .one (dI q6)] : AV)) e1) e2) e3) e4) e5) e6; exact hE) trivial
end Go.Proofs.Ytlabmehgcfgigaa.Q
