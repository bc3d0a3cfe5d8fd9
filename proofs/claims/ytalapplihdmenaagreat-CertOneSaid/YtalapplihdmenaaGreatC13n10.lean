import Derived.Test.YtalapplihdmenaaGreatC13n9
namespace Go.Proofs.YtalapplihdmenaaGreat.Q
open Go Go.RowKit
set_option linter.unusedVariables false
set_option linter.unusedSimpArgs false
set_option maxRecDepth 100000
set_option maxHeartbeats 4000000
theorem iat_88 : Tryz.prog.info? 88 = some Tryz.t88 := by kernel_rfl
theorem wide_88 : Wide Tryz.prog 88 (some 9) := ⟨_, _, Tryz.underlying88, .inl ⟨_, rfl⟩, iat_88, rfl⟩
abbrev Z37 : TV := .one (dB true)
abbrev Z38 : TV := .agg [dB true, dB true, dB false, dB true, dB false, dB false, dB false, dB false, dB false]
theorem ref12_fields (k : Int) : Holds Tryz.prog 44 ⟨[vI k], [], .tup [.agg [dB (hasM k).f_View, dB (hasM k).f_Seq, dB (hasM k).f_Client, dB (hasM k).f_Digest, dB (hasM k).f_Data, dB (hasM k).f_Result, dB (hasM k).f_Batch, dB (hasM k).f_Pres, dB (hasM k).f_Certs], .one (dB (decide (okK k)))], []⟩ := by
 refine Holds.of Tryz.func44 rfl (N := 37) Tryz.ntmps44 rfl fun w0 B0 S0 U0 => ?_
 show T _ (mkBase 37 0 w0 S0 U0 B0) ⟨[vI k], []⟩ _ _
 refine sR [] ?_
 refine T.seq ?_
 refine sR [] ?_
 refine T.block ?_
 refine sR [] ?_
 by_cases hq1 : k = 1
 ·refine cT (dT hq1) ?_
  refine sR [] ?_
  refine T.ret (rB (rT ?_))
  exact eX [.c 2 0 88 0 88 [dB false, dB false, dB true, dB false, dB true, dB false, dB false, dB false, dB false] (.agg [dB false, dB false, dB true, dB false, dB true, dB false, dB false, dB false, dB false]), .t 3 (Z37)] ⟨⟨rfl, rfl, by kernel_rfl, by kernel_rfl, .inl ⟨9, wide_88, rfl, Nat.le_of_ble_eq_true rfl⟩⟩, ⟨⟨rfl, by kernel_rfl⟩, trivial⟩⟩ [] (gc2 (show (hasM k) = ⟨false, false, true, false, true, false, false, false, false⟩ from (by (simp [hasM, okK, *]; done))) (show ((decide (okK k)) : Bool) = true from (by (simp [hasM, okK, *]; done))) (fun qq0 (q10 : Bool) => (.tup [.agg [dB (qq0.f_View), dB (qq0.f_Seq), dB (qq0.f_Client), dB (qq0.f_Digest), dB (qq0.f_Data), dB (qq0.f_Result), dB (qq0.f_Batch), dB (qq0.f_Pres), dB (qq0.f_Certs)], .one (dB q10)] : AV))) trivial
 refine cF (dF hq1) ?_
 refine sR [] ?_
 by_cases hq2 : k = 2
 ·refine cT (dT hq2) ?_
  refine sR [] ?_
  refine T.ret (rB (rT ?_))
  exact eX [.c 2 0 88 0 88 [dB true, dB true, dB false, dB true, dB false, dB false, dB true, dB false, dB false] (.agg [dB true, dB true, dB false, dB true, dB false, dB false, dB true, dB false, dB false]), .t 3 (Z37)] ⟨⟨rfl, rfl, by kernel_rfl, by kernel_rfl, .inl ⟨9, wide_88, rfl, Nat.le_of_ble_eq_true rfl⟩⟩, ⟨⟨rfl, by kernel_rfl⟩, trivial⟩⟩ [] (gc2 (show (hasM k) = ⟨true, true, false, true, false, false, true, false, false⟩ from (by (simp [hasM, okK, *]; done))) (show ((decide (okK k)) : Bool) = true from (by (simp [hasM, okK, *]; done))) (fun qq0 (q10 : Bool) => (.tup [.agg [dB (qq0.f_View), dB (qq0.f_Seq), dB (qq0.f_Client), dB (qq0.f_Digest), dB (qq0.f_Data), dB (qq0.f_Result), dB (qq0.f_Batch), dB (qq0.f_Pres), dB (qq0.f_Certs)], .one (dB q10)] : AV))) trivial
 refine cF (dF hq2) ?_
 refine T.seq ?_
 refine sR [] ?_
 by_cases hq3 : k = 3
 ·refine cT (dT hq3) ?_
  refine T.skip (nT ?_)
  refine cT (dT hq3) ?_
  refine sR [] ?_
  refine T.ret (rB (rT ?_))
  exact eX [.c 2 0 88 0 88 [dB true, dB true, dB false, dB true, dB false, dB false, dB false, dB false, dB false] (Z38), .t 3 (Z37)] ⟨⟨rfl, rfl, by kernel_rfl, by kernel_rfl, .inl ⟨9, wide_88, rfl, Nat.le_of_ble_eq_true rfl⟩⟩, ⟨⟨rfl, by kernel_rfl⟩, trivial⟩⟩ [] (gc2 (show (hasM k) = ⟨true, true, false, true, false, false, false, false, false⟩ from (by (simp [hasM, okK, *]; done))) (show ((decide (okK k)) : Bool) = true from (by (simp [hasM, okK, *]; done))) (fun qq0 (q10 : Bool) => (.tup [.agg [dB (qq0.f_View), dB (qq0.f_Seq), dB (qq0.f_Client), dB (qq0.f_Digest), dB (qq0.f_Data), dB (qq0.f_Result), dB (qq0.f_Batch), dB (qq0.f_Pres), dB (qq0.f_Certs)], .one (dB q10)] : AV))) trivial
 refine cF (dF hq3) ?_
 refine xK [] ?_
 refine nT ?_
 by_cases hq4 : k = 4
 ·refine cT (dT hq4) ?_
  refine sR [] ?_
  refine T.ret (rB (rT ?_))
  exact eX [.c 2 0 88 0 88 [dB true, dB true, dB false, dB true, dB false, dB false, dB false, dB false, dB false] (Z38), .t 3 (Z37)] ⟨⟨rfl, rfl, by kernel_rfl, by kernel_rfl, .inl ⟨9, wide_88, rfl, Nat.le_of_ble_eq_true rfl⟩⟩, ⟨⟨rfl, by kernel_rfl⟩, trivial⟩⟩ [] (gc2 (show (hasM k) = ⟨true, true, false, true, false, false, false, false, false⟩ from (by (simp [hasM, okK, *]; done))) (show ((decide (okK k)) : Bool) = true from (by (simp [hasM, okK, *]; done))) (fun qq0 (q10 : Bool) => (.tup [.agg [dB (qq0.f_View), dB (qq0.f_Seq), dB (qq0.f_Client), dB (qq0.f_Digest), dB (qq0.f_Data), dB (qq0.f_Result), dB (qq0.f_Batch), dB (qq0.f_Pres), dB (qq0.f_Certs)], .one (dB q10)] : AV))) trivial
 refine cF (dF hq4) ?_
 refine sR [] ?_
 by_cases hq5 : k = 5
 ·refine cT (dT hq5) ?_
  refine sR [] ?_
  refine T.ret (rB (rT ?_))
  exact eX [.c 2 0 88 0 88 [dB false, dB true, dB false, dB true, dB false, dB false, dB false, dB false, dB false] (.agg [dB false, dB true, dB false, dB true, dB false, dB false, dB false, dB false, dB false]), .t 3 (Z37)] ⟨⟨rfl, rfl, by kernel_rfl, by kernel_rfl, .inl ⟨9, wide_88, rfl, Nat.le_of_ble_eq_true rfl⟩⟩, ⟨⟨rfl, by kernel_rfl⟩, trivial⟩⟩ [] (gc2 (show (hasM k) = ⟨false, true, false, true, false, false, false, false, false⟩ from (by (simp [hasM, okK, *]; done))) (show ((decide (okK k)) : Bool) = true from (by (simp [hasM, okK, *]; done))) (fun qq0 (q10 : Bool) => (.tup [.agg [dB (qq0.f_View), dB (qq0.f_Seq), dB (qq0.f_Client), dB (qq0.f_Digest), dB (qq0.f_Data), dB (qq0.f_Result), dB (qq0.f_Batch), dB (qq0.f_Pres), dB (qq0.f_Certs)], .one (dB q10)] : AV))) trivial
 refine cF (dF hq5) ?_
 refine sR [] ?_
 by_cases hq6 : k = 6
 ·refine cT (dT hq6) ?_
  refine sR [] ?_
  refine T.ret (rB (rT ?_))
  exact eX [.c 2 0 88 0 88 [dB true, dB true, dB false, dB false, dB false, dB false, dB true, dB false, dB true] (.agg [dB true, dB true, dB false, dB false, dB false, dB false, dB true, dB false, dB true]), .t 3 (Z37)] ⟨⟨rfl, rfl, by kernel_rfl, by kernel_rfl, .inl ⟨9, wide_88, rfl, Nat.le_of_ble_eq_true rfl⟩⟩, ⟨⟨rfl, by kernel_rfl⟩, trivial⟩⟩ [] (gc2 (show (hasM k) = ⟨true, true, false, false, false, false, true, false, true⟩ from (by (simp [hasM, okK, *]; done))) (show ((decide (okK k)) : Bool) = true from (by (simp [hasM, okK, *]; done))) (fun qq0 (q10 : Bool) => (.tup [.agg [dB (qq0.f_View), dB (qq0.f_Seq), dB (qq0.f_Client), dB (qq0.f_Digest), dB (qq0.f_Data), dB (qq0.f_Result), dB (qq0.f_Batch), dB (qq0.f_Pres), dB (qq0.f_Certs)], .one (dB q10)] : AV))) trivial
 refine cF (dF hq6) ?_
 refine sR [] ?_
 by_cases hq7 : k = 7
 ·refine cT (dT hq7) ?_
  refine sR [] ?_
  refine T.ret (rB (rT ?_))
  exact eX [.c 2 0 88 0 88 [dB true, dB false, dB false, dB false, dB false, dB false, dB true, dB true, dB false] (.agg [dB true, dB false, dB false, dB false, dB false, dB false, dB true, dB true, dB false]), .t 3 (Z37)] ⟨⟨rfl, rfl, by kernel_rfl, by kernel_rfl, .inl ⟨9, wide_88, rfl, Nat.le_of_ble_eq_true rfl⟩⟩, ⟨⟨rfl, by kernel_rfl⟩, trivial⟩⟩ [] (gc2 (show (hasM k) = ⟨true, false, false, false, false, false, true, true, false⟩ from (by (simp [hasM, okK, *]; done))) (show ((decide (okK k)) : Bool) = true from (by (simp [hasM, okK, *]; done))) (fun qq0 (q10 : Bool) => (.tup [.agg [dB (qq0.f_View), dB (qq0.f_Seq), dB (qq0.f_Client), dB (qq0.f_Digest), dB (qq0.f_Data), dB (qq0.f_Result), dB (qq0.f_Batch), dB (qq0.f_Pres), dB (qq0.f_Certs)], .one (dB q10)] : AV))) trivial
 refine cF (dF hq7) ?_
 refine sR [] ?_
 by_cases hq8 : k = 8
 ·refine cT (dT hq8) ?_
  refine sR [] ?_
  refine T.ret (rB (rT ?_))
  exact eX [.c 2 0 88 0 88 [dB true, dB false, dB true, dB false, dB false, dB true, dB false, dB false, dB false] (.agg [dB true, dB false, dB true, dB false, dB false, dB true, dB false, dB false, dB false]), .t 3 (Z37)] ⟨⟨rfl, rfl, by kernel_rfl, by kernel_rfl, .inl ⟨9, wide_88, rfl, Nat.le_of_ble_eq_true rfl⟩⟩, ⟨⟨rfl, by kernel_rfl⟩, trivial⟩⟩ [] (gc2 (show (hasM k) = ⟨true, false, true, false, false, true, false, false, false⟩ from (by (simp [hasM, okK, *]; done))) (show ((decide (okK k)) : Bool) = true from (by (simp [hasM, okK, *]; done))) (fun qq0 (q10 : Bool) => (.tup [.agg [dB (qq0.f_View), dB (qq0.f_Seq), dB (qq0.f_Client), dB (qq0.f_Digest), dB (qq0.f_Data), dB (qq0.f_Result), dB (qq0.f_Batch), dB (qq0.f_Pres), dB (qq0.f_Certs)], .one (dB q10)] : AV))) trivial
 refine cF (dF hq8) ?_
 refine sR [] ?_
 by_cases hq9 : k = 9
 ·refine cT (dT hq9) ?_
  refine sR [] ?_
  refine T.ret (rB (rT ?_))
  exact eX [.c 2 0 88 0 88 [dB false, dB true, dB false, dB false, dB false, dB false, dB false, dB false, dB false] (.agg [dB false, dB true, dB false, dB false, dB false, dB false, dB false, dB false, dB false]), .t 3 (Z37)] ⟨⟨rfl, rfl, by kernel_rfl, by kernel_rfl, .inl ⟨9, wide_88, rfl, Nat.le_of_ble_eq_true rfl⟩⟩, ⟨⟨rfl, by kernel_rfl⟩, trivial⟩⟩ [] (gc2 (show (hasM k) = ⟨false, true, false, false, false, false, false, false, false⟩ from (by (simp [hasM, okK, *]; done))) (show ((decide (okK k)) : Bool) = true from (by (simp [hasM, okK, *]; done))) (fun qq0 (q10 : Bool) => (.tup [.agg [dB (qq0.f_View), dB (qq0.f_Seq), dB (qq0.f_Client), dB (qq0.f_Digest), dB (qq0.f_Data), dB (qq0.f_Result), dB (qq0.f_Batch), dB (qq0.f_Pres), dB (qq0.f_Certs)], .one (dB q10)] : AV))) trivial
 refine cF (dF hq9) ?_
 refine sR [] ?_
 by_cases hq10 : k = 10
 ·refine cT (dT hq10) ?_
  refine sR [] ?_
  refine T.ret (rB (rT ?_))
  exact eX [.c 2 0 88 0 88 [dB false, dB false, dB false, dB false, dB false, dB false, dB false, dB false, dB true] (.agg [dB false, dB false, dB false, dB false, dB false, dB false, dB false, dB false, dB true]), .t 3 (Z37)] ⟨⟨rfl, rfl, by kernel_rfl, by kernel_rfl, .inl ⟨9, wide_88, rfl, Nat.le_of_ble_eq_true rfl⟩⟩, ⟨⟨rfl, by kernel_rfl⟩, trivial⟩⟩ [] (gc2 (show (hasM k) = ⟨false, false, false, false, false, false, false, false, true⟩ from (by (simp [hasM, okK, *]; done))) (show ((decide (okK k)) : Bool) = true from (by (simp [hasM, okK, *]; done))) (fun qq0 (q10 : Bool) => (.tup [.agg [dB (qq0.f_View), dB (qq0.f_Seq), dB (qq0.f_Client), dB (qq0.f_Digest), dB (qq0.f_Data), dB (qq0.f_Result), dB (qq0.f_Batch), dB (qq0.f_Pres), dB (qq0.f_Certs)], .one (dB q10)] : AV))) trivial
 refine cF (dF hq10) ?_
 refine sR [] ?_
 by_cases hq11 : k = 11
 ·refine cT (dT hq11) ?_
  refine sR [] ?_
  refine T.ret (rB (rT ?_))
  exact eX [.c 2 0 88 0 88 [dB false, dB true, dB false, dB false, dB true, dB false, dB true, dB false, dB false] (.agg [dB false, dB true, dB false, dB false, dB true, dB false, dB true, dB false, dB false]), .t 3 (Z37)] ⟨⟨rfl, rfl, by kernel_rfl, by kernel_rfl, .inl ⟨9, wide_88, rfl, Nat.le_of_ble_eq_true rfl⟩⟩, ⟨⟨rfl, by kernel_rfl⟩, trivial⟩⟩ [] (gc2 (show (hasM k) = ⟨false, true, false, false, true, false, true, false, false⟩ from (by (simp [hasM, okK, *]; done))) (show ((decide (okK k)) : Bool) = true from (by (simp [hasM, okK, *]; done))) (fun qq0 (q10 : Bool) => (.tup [.agg [dB (qq0.f_View), dB (qq0.f_Seq), dB (qq0.f_Client), dB (qq0.f_Digest), dB (qq0.f_Data), dB (qq0.f_Result), dB (qq0.f_Batch), dB (qq0.f_Pres), dB (qq0.f_Certs)], .one (dB q10)] : AV))) trivial
 refine cF (dF hq11) ?_
 refine T.skip ?_
 refine nB ?_
 refine nT ?_
 refine sR [] ?_
 refine T.ret ?_
 exact eX [.c 2 0 88 0 88 [dB false, dB false, dB false, dB false, dB false, dB false, dB false, dB false, dB false] (.agg [dB false, dB false, dB false, dB false, dB false, dB false, dB false, dB false, dB false]), .t 3 (.one (dB false))] ⟨⟨rfl, rfl, by kernel_rfl, by kernel_rfl, .inl ⟨9, wide_88, rfl, Nat.le_of_ble_eq_true rfl⟩⟩, ⟨⟨rfl, by kernel_rfl⟩, trivial⟩⟩ [] (gc2 (show (hasM k) = ⟨false, false, false, false, false, false, false, false, false⟩ from (by (simp [hasM, okK, *]; done))) (by exact dF (by unfold okK; omega)) (fun qq0 (q10 : Bool) => (.tup [.agg [dB (qq0.f_View), dB (qq0.f_Seq), dB (qq0.f_Client), dB (qq0.f_Digest), dB (qq0.f_Data), dB (qq0.f_Result), dB (qq0.f_Batch), dB (qq0.f_Pres), dB (qq0.f_Certs)], .one (dB q10)] : AV))) trivial
abbrev Z39 : TV := .one (dI 1)
abbrev Z3a : TV := .one (dI 0)
theorem ref12_firsts (k : Int) : Holds Tryz.prog 63 ⟨[vI k], [], .tup [.one (dI (fstV k)), .one (dI (fstS k))], []⟩ := by
 refine Holds.of Tryz.func63 rfl (N := 15) Tryz.ntmps63 rfl fun w0 B0 S0 U0 => ?_
 show T _ (mkBase 15 0 w0 S0 U0 B0) ⟨[vI k], []⟩ _ _
 refine sR [] ?_
 refine sR [] ?_
 refine T.seq ?_
 refine sR [] ?_
 refine T.block ?_
 refine sR [] ?_
 by_cases hq1 : k = 6
 ·refine cT (dT hq1) ?_
  refine sR [] ?_
  refine xK [] ?_
  refine nB ?_
  refine nT ?_
  refine sR [] ?_
  refine T.ret ?_
  exact eX [.t 2 (Z39), .t 3 (Z3a)] ⟨⟨rfl, by kernel_rfl⟩, ⟨⟨rfl, by kernel_rfl⟩, trivial⟩⟩ [] (by have e1 : (fstV k : Int) = 1 := (by (simp [fstV, fstS, *]; done)); have e2 : (fstS k : Int) = 0 := (by (simp [fstV, fstS, *]; done)); have hE := congr (congrArg (fun (q1 : Int) (q2 : Int) => (.tup [.one (dI q1), .one (dI q2)] : AV)) e1) e2; exact hE) trivial
 refine cF (dF hq1) ?_
 refine sR [] ?_
 by_cases hq2 : k = 7
 ·refine cT (dT hq2) ?_
  refine xK [] ?_
  refine nB ?_
  refine nT ?_
  refine sR [] ?_
  refine T.ret ?_
  exact eX [.t 2 (Z39), .t 3 (Z39)] ⟨⟨rfl, by kernel_rfl⟩, ⟨⟨rfl, by kernel_rfl⟩, trivial⟩⟩ [] (by have e1 : (fstV k : Int) = 1 := (by (simp [fstV, fstS, *]; done)); have e2 : (fstS k : Int) = 1 := (by (simp [fstV, fstS, *]; done)); have hE := congr (congrArg (fun (q1 : Int) (q2 : Int) => (.tup [.one (dI q1), .one (dI q2)] : AV)) e1) e2; exact hE) trivial
 refine cF (dF hq2) ?_
 refine sR [] ?_
 by_cases hq3 : k = 9
 ·refine cT (dT hq3) ?_
  refine xK [] ?_
  refine nB ?_
  refine nT ?_
  refine sR [] ?_
  refine T.ret ?_
  exact eX [.t 2 (Z3a), .t 3 (Z3a)] ⟨⟨rfl, by kernel_rfl⟩, ⟨⟨rfl, by kernel_rfl⟩, trivial⟩⟩ [] (by have e1 : (fstV k : Int) = 0 := (by (simp [fstV, fstS, *]; done)); have e2 : (fstS k : Int) = 0 := (by (simp [fstV, fstS, *]; done)); have hE := congr (congrArg (fun (q1 : Int) (q2 : Int) => (.tup [.one (dI q1), .one (dI q2)] : AV)) e1) e2; exact hE) trivial
 refine cF (dF hq3) ?_
 refine T.skip ?_
 refine nB ?_
 refine nT ?_
 refine sR [] ?_
 refine T.ret ?_
 exact eX [.t 2 (Z3a), .t 3 (Z39)] ⟨⟨rfl, by kernel_rfl⟩, ⟨⟨rfl, by kernel_rfl⟩, trivial⟩⟩ [] (by have e1 : (fstV k : Int) = 0 := (by (simp [fstV, fstS, *]; done)); have e2 : (fstS k : Int) = 1 := (by (simp [fstV, fstS, *]; done)); have hE := congr (congrArg (fun (q1 : Int) (q2 : Int) => (.tup [.one (dI q1), .one (dI q2)] : AV)) e1) e2; exact hE) trivial
theorem ref12_number (n : Int) (had : Bool) (lo : Int) : Holds Tryz.prog 64 ⟨[vI n, vB had, vI lo], [], vB (decide (numM n had lo)), []⟩ := by
 refine Holds.of Tryz.func64 rfl (N := 18) Tryz.ntmps64 rfl fun w0 B0 S0 U0 => ?_
 show T _ (mkBase 18 0 w0 S0 U0 B0) ⟨[vI n, vB had, vI lo], []⟩ _ _
 refine sR [] ?_
 refine T.seq ?_
 refine sR [] ?_
 by_cases hq1 : had = true
 ·refine cF (cn hq1) ?_
  refine T.skip (nT ?_)
  by_cases hq2 : n ≥ lo
  ·refine sR [hY 4 (dT hq2),
     hY 5 (dT hq2),
     hP 6 (dT hq2)] ?_
   refine T.ret ?_
   exact eRt 6 (.one (dB (decide (n ≤ 1099511627776)))) [] (by have e1 : ((decide (numM n had lo)) : Bool) = (decide (n ≤ 1099511627776)) := (by (simp [numM, *]; done)); have hE := cB e1; exact hE) trivial
  refine sR [hN 4 true (dF hq2),
    hN 5 true (dF hq2),
    hP 6 (dF hq2)] ?_
  refine T.ret ?_
  exact eRt 6 (.one (dB false)) [] (by have e1 : ((decide (numM n had lo)) : Bool) = false := (by (simp [numM, *]; done)); have hE := cB e1; exact hE) trivial
 replace hq1 := Bool.eq_false_iff.2 hq1
 refine cT (cn hq1) ?_
 refine sR [] ?_
 refine T.ret (rT ?_)
 exact eRt 6 (.one (dB (decide (n = 0)))) [] (by have e1 : ((decide (numM n had lo)) : Bool) = (decide (n = 0)) := (by (simp [numM, *]; done)); have hE := cB e1; exact hE) trivial
end Go.Proofs.YtalapplihdmenaaGreat.Q
