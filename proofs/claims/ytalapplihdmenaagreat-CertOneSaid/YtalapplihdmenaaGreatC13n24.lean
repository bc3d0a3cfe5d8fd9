import Derived.Test.YtalapplihdmenaaGreatC13n23
namespace Go.Proofs.YtalapplihdmenaaGreat.Q
open Go Go.RowKit
set_option linter.unusedVariables false
set_option linter.unusedSimpArgs false
set_option maxRecDepth 100000
set_option maxHeartbeats 4000000
section
variable (f : Int) (u : Int) (rows : List (authn_pair × Bool)) (te : Bool) (e : aE) (k : Int)
abbrev Zdk : List SV := [dI e.f_Signer, .d (dsl te false kU8 e.f_Body)]
abbrev Zdl : HS := .live (.box 98 [dI (3 * f + 1), dI u, .mref 1])
abbrev Zdm : List AV := [pv 0 0, .tv (.agg (Zdk te e)), vI k, aa, pv 2 0, aa, pv 3 0, vI (opE (checkE f u rows) e k), pv 4 0, vI (opE (checkE f u rows) e k), aa, aa, aa, aa, aa, aa, aa, vB (decide ((opE (checkE f u rows) e k) ≠ 0))]
abbrev Zdn : SV := .d (.val (.slice none 0 0))
abbrev Zdo := (opV (checkE f u rows) e k)
abbrev Zdp : List SV := [dI (Zdo f u rows e k).f_Kind, dI (Zdo f u rows e k).f_View, dI (Zdo f u rows e k).f_Seq, dI (Zdo f u rows e k).f_Client, dI (Zdo f u rows e k).f_Stamp, dS (Zdo f u rows e k).f_Digest, dU (Zdo f u rows e k).f_Data, dI (Zdo f u rows e k).f_Result.f_Code, dI (Zdo f u rows e k).f_Result.f_Stage, .d (dsl false false (kE false) (Zdo f u rows e k).f_Batch), .d (dsl false false (kE false) (Zdo f u rows e k).f_Pres), .d (dsl false false (kC false) (Zdo f u rows e k).f_Certs)]
abbrev Zdq : List HS := [(Zdl f u), .live (mpK f_authn_pair kBool rows), .live (.box 35 (Zdk te e)), .live (.box 46 [dI 0, dI 0, dI 0, dI 0, dI 0, dS [], Zdn, dI 0, dI 0, Zdn, Zdn, Zdn]), .live (.box 46 (Zdp f u rows e k))]
abbrev Zdr : SV := dU ([] : List UInt8)
abbrev Zds : SV := .d (dsl false false (kE false) ([] : List aE))
abbrev Zdt : SV := .d (dsl false false (kC false) ([] : List aC))
abbrev Zdu : List SV := [dI 0, dI 0, dI 0, dI 0, dI 0, dS [], Zdr, dI 0, dI 0, Zds, Zds, Zdt]
abbrev Zdv : List HS := [(Zdl f u), .live (mpK f_authn_pair kBool rows), .live (.box 35 (Zdk te e)), .live (.box 46 Zdu), .live (.box 46 (Zdp f u rows e k))]
abbrev Zdw : List AV := [pv 0 0, .tv (.agg (Zdk te e)), vI k, aa, pv 2 0, aa, pv 3 0, vI 120, pv 4 0, vI (opE (checkE f u rows) e k), aa, aa, aa, aa, aa, aa, aa, vB (decide ((opE (checkE f u rows) e k) ≠ 0)), aa, aa, aa, aa, vB (decide (k ≠ 5))]
abbrev Zdx : TV := .one (dI 0)
abbrev Zdy : List AV := [pv 0 0, .tv (.agg (Zdk te e)), vI k, aa, pv 2 0, aa, pv 3 0, vI 30, pv 4 0, vI (opE (checkE f u rows) e k), aa, aa, aa, aa, aa, aa, aa, vB (decide ((opE (checkE f u rows) e k) ≠ 0)), aa, aa, aa, aa, vB (decide (k ≠ 5)), aa, aa, aa, aa, aa, aa, aa, aa, aa, aa, aa, vB (!(decide (isReplica f e.f_Signer)))]
abbrev Zdz : List AV := [pv 0 0, .tv (.agg (Zdk te e)), vI k, aa, pv 2 0, aa, pv 3 0, vI 30, pv 4 0, vI (opE (checkE f u rows) e k), aa, aa, aa, aa, aa, aa, aa, vB (decide ((opE (checkE f u rows) e k) ≠ 0)), aa, aa, aa, aa, vB false, aa, aa, aa, aa, aa, aa, aa, aa, aa, aa, aa, vB (!(decide (isReplica f e.f_Signer)))]
end
theorem cert_Vote (f : Int) (u : Int) (rows : List (authn_pair × Bool)) (te : Bool) (e : aE) (k : Int) (hf : 0 ≤ f ∧ f ≤ 2) (hu : 0 ≤ u ∧ u ≤ 8) (hs : -9223372036854775808 ≤ e.f_Signer ∧ e.f_Signer ≤ 9223372036854775807) (hb : e.f_Body.length ≤ 100000000) : Holds Tryz.prog 75 ⟨[pv 0 0, .tv (.agg [dI e.f_Signer, .d (dsl te false kU8 e.f_Body)]), vI k], [.box 98 [dI (3 * f + 1), dI u, .mref 1], mpK f_authn_pair kBool rows], .tup [.agg [dI (vtV (checkE f u rows) f e k).f_Kind, dI (vtV (checkE f u rows) f e k).f_View, dI (vtV (checkE f u rows) f e k).f_Seq, dI (vtV (checkE f u rows) f e k).f_Client, dI (vtV (checkE f u rows) f e k).f_Stamp, dS (vtV (checkE f u rows) f e k).f_Digest, dU (vtV (checkE f u rows) f e k).f_Data, dI (vtV (checkE f u rows) f e k).f_Result.f_Code, dI (vtV (checkE f u rows) f e k).f_Result.f_Stage, .d (dsl false false (kE false) (vtV (checkE f u rows) f e k).f_Batch), .d (dsl false false (kE false) (vtV (checkE f u rows) f e k).f_Pres), .d (dsl false false (kC false) (vtV (checkE f u rows) f e k).f_Certs)], .one (dI (vtE (checkE f u rows) f e k))], [.live (.box 98 [dI (3 * f + 1), dI u, .mref 1]), .live (mpK f_authn_pair kBool rows)]⟩ := by
 refine Holds.of Tryz.func75 rfl (N := 42) Tryz.ntmps75 rfl fun w0 B0 S0 U0 => ?_
 show T _ (mkBase 42 2 w0 S0 U0 B0) ⟨[pv 0 0, .tv (.agg (Zdk te e)), vI k], [(Zdl f u), .live (mpK f_authn_pair kBool rows)]⟩ _ _
 refine sR [] ?_
 refine sR [hR 3 rfl rfl (rCa (cert_open f u rows te e k ‹_› ‹_› ‹_› ‹_›) Tryz.func50 [0, 1] [(.tmp 11, pv 0 0), (.tmp 12, .tv (.agg (Zdk te e))), (.tmp 13, vI k)] 2 2)] ?_
 refine T.seq ?_
 refine T.block ?_
 refine sR [] ?_
 by_cases hq1 : (opE (checkE f u rows) e k) ≠ 0
 ·have ho9 := hq1; have hx9 := vt_o (f := f) ho9
  refine cT (dT hq1) ?_
  refine sR [] ?_
  refine T.ret (rB (rT ?_))
  refine eN ⟨(Zdm f u rows te e k), (Zdq f u rows te e k)⟩ ?_
  refine Ends.turn (s' := ⟨(Zdm f u rows te e k), (Zdv f u rows te e k)⟩) (fun _ _ hG => Gs.less (s := ⟨(Zdm f u rows te e k), (Zdq f u rows te e k)⟩) (kk2 (kk16 trivial)) ⟨.inl rfl, (kk2 ⟨(.inr ⟨rfl, (kk2 (kk4 ⟨(.inr ⟨rfl, rfl, rfl⟩), (kk2 ⟨(.inr ⟨rfl, rfl, rfl⟩), ⟨(.inr ⟨rfl, rfl, rfl⟩), ⟨(.inr ⟨rfl, rfl, rfl⟩), trivial⟩⟩⟩)⟩))⟩), ⟨.inl rfl, trivial⟩⟩)⟩ hG) ?_
  exact eX [.c 6 3 46 0 46 [dI 0, dI 0, dI 0, dI 0, dI 0, dS [], Zdr, dI 0, dI 0, Zds, Zds, Zdt] (.agg Zdu), .t 7 (.one (dI (opE (checkE f u rows) e k)))] ⟨⟨rfl, rfl, by kernel_rfl, by kernel_rfl, .inl ⟨12, wide_46, rfl, Nat.le_of_ble_eq_true rfl⟩⟩, ⟨⟨rfl, by kernel_rfl⟩, trivial⟩⟩ [0, 1] (gc2 (hx9.1) (by exact hx9.2) (fun qq0 (q13 : Int) => (.tup [.agg [dI (qq0.f_Kind), dI (qq0.f_View), dI (qq0.f_Seq), dI (qq0.f_Client), dI (qq0.f_Stamp), dS (qq0.f_Digest), dU (qq0.f_Data), dI (qq0.f_Result.f_Code), dI (qq0.f_Result.f_Stage), .d (dsl false false (kE false) (qq0.f_Batch)), .d (dsl false false (kE false) (qq0.f_Pres)), .d (dsl false false (kC false) (qq0.f_Certs))], .one (dI q13)] : AV))) (ix (ix trivial))
 have ho9 : ¬ opE (checkE f u rows) e k ≠ 0 := hq1; have hv9 := op_val ho9; have hbo := decV_bat e.f_Body; rw [← hv9] at hbo; have hbl := okEs_le hbo
 refine cF (dF hq1) ?_
 by_cases hq2 : k ≠ 3
 ·by_cases hq3 : k ≠ 4
  ·refine sR [hY 3 (dT hq2),
     hY 4 (dT hq2),
     hP 5 (dT hq2),
     hY 7 (dT hq3),
     hY 8 (dT hq3),
     hP 9 (dT hq3)] ?_
   by_cases hq4 : k ≠ 5
   ·have hx9 := vt_k (f := f) ho9 ‹_› ‹_› hq4
    refine cT (dT hq4) ?_
    refine sR [] ?_
    refine T.ret (rB (rT ?_))
    refine eN ⟨(Zdw f u rows te e k), (Zdq f u rows te e k)⟩ ?_
    refine Ends.turn (s' := ⟨(Zdw f u rows te e k), (Zdv f u rows te e k)⟩) (fun _ _ hG => Gs.less (s := ⟨(Zdw f u rows te e k), (Zdq f u rows te e k)⟩) ⟨.inl rfl, (kk2 (kk4 (kk16 trivial)))⟩ ⟨.inl rfl, (kk2 ⟨(.inr ⟨rfl, (kk2 (kk4 ⟨(.inr ⟨rfl, rfl, rfl⟩), (kk2 ⟨(.inr ⟨rfl, rfl, rfl⟩), ⟨(.inr ⟨rfl, rfl, rfl⟩), ⟨(.inr ⟨rfl, rfl, rfl⟩), trivial⟩⟩⟩)⟩))⟩), ⟨.inl rfl, trivial⟩⟩)⟩ hG) ?_
    exact eX [.c 6 3 46 0 46 [dI 0, dI 0, dI 0, dI 0, dI 0, dS [], Zdr, dI 0, dI 0, Zds, Zds, Zdt] (.agg Zdu), .t 7 (.one (dI 120))] ⟨⟨rfl, rfl, by kernel_rfl, by kernel_rfl, .inl ⟨12, wide_46, rfl, Nat.le_of_ble_eq_true rfl⟩⟩, ⟨⟨rfl, by kernel_rfl⟩, trivial⟩⟩ [0, 1] (gc2 (hx9.1) (by exact hx9.2) (fun qq0 (q13 : Int) => (.tup [.agg [dI (qq0.f_Kind), dI (qq0.f_View), dI (qq0.f_Seq), dI (qq0.f_Client), dI (qq0.f_Stamp), dS (qq0.f_Digest), dU (qq0.f_Data), dI (qq0.f_Result.f_Code), dI (qq0.f_Result.f_Stage), .d (dsl false false (kE false) (qq0.f_Batch)), .d (dsl false false (kE false) (qq0.f_Pres)), .d (dsl false false (kC false) (qq0.f_Certs))], .one (dI q13)] : AV))) (ix (ix trivial))
   have hk3 : ¬ (k ≠ 3 ∧ k ≠ 4 ∧ k ≠ 5) := (fun q => hq4 q.2.2)
   refine cF (dF hq4) ?_
   refine sR [hR 3 rfl rfl (rCa (authn_Replica f u rows e.f_Signer ‹_› ‹_›) Tryz.func39 [0, 1] [(.tmp 35, pv 0 0), (.tmp 37, vI e.f_Signer)] 2 2)] ?_
   by_cases hq5 : isReplica f e.f_Signer
   ·have hx9 := vt_ok ho9 hk3 hq5
    refine cF (cn (dT hq5)) ?_
    refine T.skip ?_
    refine nB ?_
    refine nT ?_
    refine sR [] ?_
    refine T.ret ?_
    exact eX [.c 6 3 46 0 46 [dI (Zdo f u rows e k).f_Kind, dI (Zdo f u rows e k).f_View, dI (Zdo f u rows e k).f_Seq, dI (Zdo f u rows e k).f_Client, dI (Zdo f u rows e k).f_Stamp, dS (Zdo f u rows e k).f_Digest, dU (Zdo f u rows e k).f_Data, dI (Zdo f u rows e k).f_Result.f_Code, dI (Zdo f u rows e k).f_Result.f_Stage, .d (dsl false false (kE false) (Zdo f u rows e k).f_Batch), .d (dsl false false (kE false) (Zdo f u rows e k).f_Pres), .d (dsl false false (kC false) (Zdo f u rows e k).f_Certs)] (.agg (Zdp f u rows e k)), .t 7 (Zdx)] ⟨⟨rfl, rfl, by kernel_rfl, by kernel_rfl, .inl ⟨12, wide_46, rfl, Nat.le_of_ble_eq_true rfl⟩⟩, ⟨⟨rfl, by kernel_rfl⟩, trivial⟩⟩ [0, 1] (by have e1 : ((vtV (checkE f u rows) f e k).f_Kind : Int) = (opV (checkE f u rows) e k).f_Kind := (by (rw [hx9.1, hv9]; done)); have e2 : ((vtV (checkE f u rows) f e k).f_View : Int) = (opV (checkE f u rows) e k).f_View := (by (rw [hx9.1, hv9]; done)); have e3 : ((vtV (checkE f u rows) f e k).f_Seq : Int) = (opV (checkE f u rows) e k).f_Seq := (by (rw [hx9.1, hv9]; done)); have e4 : ((vtV (checkE f u rows) f e k).f_Client : Int) = (opV (checkE f u rows) e k).f_Client := (by (rw [hx9.1, hv9]; done)); have e5 : ((vtV (checkE f u rows) f e k).f_Stamp : Int) = (opV (checkE f u rows) e k).f_Stamp := (by (rw [hx9.1, hv9]; done)); have e6 : ((vtV (checkE f u rows) f e k).f_Digest : List UInt8) = (opV (checkE f u rows) e k).f_Digest := (by (rw [hx9.1, hv9]; done)); have e7 : ((vtV (checkE f u rows) f e k).f_Data : List UInt8) = (opV (checkE f u rows) e k).f_Data := (by (rw [hx9.1, hv9]; done)); have e8 : ((vtV (checkE f u rows) f e k).f_Result.f_Code : Int) = (opV (checkE f u rows) e k).f_Result.f_Code := (by (rw [hx9.1, hv9]; done)); have e9 : ((vtV (checkE f u rows) f e k).f_Result.f_Stage : Int) = (opV (checkE f u rows) e k).f_Result.f_Stage := (by (rw [hx9.1, hv9]; done)); have e10 : ((vtV (checkE f u rows) f e k).f_Batch : List aE) = (opV (checkE f u rows) e k).f_Batch := (by (rw [hx9.1, hv9]; done)); have e11 : ((vtV (checkE f u rows) f e k).f_Pres : List aE) = (opV (checkE f u rows) e k).f_Pres := (by (rw [hx9.1, hv9]; done)); have e12 : ((vtV (checkE f u rows) f e k).f_Certs : List aC) = (opV (checkE f u rows) e k).f_Certs := (by (rw [hx9.1, hv9]; done)); have e13 : ((vtE (checkE f u rows) f e k) : Int) = 0 := (by exact hx9.2); have hE := congr (congr (congr (congr (congr (congr (congr (congr (congr (congr (congr (congr (congrArg (fun (q1 : Int) (q2 : Int) (q3 : Int) (q4 : Int) (q5 : Int) (q6 : List UInt8) (q7 : List UInt8) (q8 : Int) (q9 : Int) (q10 : List aE) (q11 : List aE) (q12 : List aC) (q13 : Int) => (.tup [.agg [dI q1, dI q2, dI q3, dI q4, dI q5, dS q6, dU q7, dI q8, dI q9, .d (dsl false false (kE false) q10), .d (dsl false false (kE false) q11), .d (dsl false false (kC false) q12)], .one (dI q13)] : AV)) e1) e2) e3) e4) e5) e6) e7) e8) e9) e10) e11) e12) e13; exact hE) (ix (ix trivial))
   have hx9 := vt_s ho9 hk3 hq5
   refine cT (cn (dF hq5)) ?_
   refine sR [] ?_
   refine T.ret (rB (rT ?_))
   refine eN ⟨(Zdy f u rows te e k), (Zdq f u rows te e k)⟩ ?_
   refine Ends.turn (s' := ⟨(Zdy f u rows te e k), (Zdv f u rows te e k)⟩) (fun _ _ hG => Gs.less (s := ⟨(Zdy f u rows te e k), (Zdq f u rows te e k)⟩) ⟨.inl rfl, (kk2 (kk32 trivial))⟩ ⟨.inl rfl, (kk2 ⟨(.inr ⟨rfl, (kk2 (kk4 ⟨(.inr ⟨rfl, rfl, rfl⟩), (kk2 ⟨(.inr ⟨rfl, rfl, rfl⟩), ⟨(.inr ⟨rfl, rfl, rfl⟩), ⟨(.inr ⟨rfl, rfl, rfl⟩), trivial⟩⟩⟩)⟩))⟩), ⟨.inl rfl, trivial⟩⟩)⟩ hG) ?_
   exact eX [.c 6 3 46 0 46 [dI 0, dI 0, dI 0, dI 0, dI 0, dS [], Zdr, dI 0, dI 0, Zds, Zds, Zdt] (.agg Zdu), .t 7 (.one (dI 30))] ⟨⟨rfl, rfl, by kernel_rfl, by kernel_rfl, .inl ⟨12, wide_46, rfl, Nat.le_of_ble_eq_true rfl⟩⟩, ⟨⟨rfl, by kernel_rfl⟩, trivial⟩⟩ [0, 1] (gc2 (hx9.1) (by exact hx9.2) (fun qq0 (q13 : Int) => (.tup [.agg [dI (qq0.f_Kind), dI (qq0.f_View), dI (qq0.f_Seq), dI (qq0.f_Client), dI (qq0.f_Stamp), dS (qq0.f_Digest), dU (qq0.f_Data), dI (qq0.f_Result.f_Code), dI (qq0.f_Result.f_Stage), .d (dsl false false (kE false) (qq0.f_Batch)), .d (dsl false false (kE false) (qq0.f_Pres)), .d (dsl false false (kC false) (qq0.f_Certs))], .one (dI q13)] : AV))) (ix (ix trivial))
  have hk3 : ¬ (k ≠ 3 ∧ k ≠ 4 ∧ k ≠ 5) := (fun q => hq3 q.2.1)
  refine sR [hY 3 (dT hq2),
    hY 4 (dT hq2),
    hP 5 (dT hq2),
    hN 7 true (dF hq3),
    hN 8 true (dF hq3),
    hP 9 (dF hq3)] ?_
  refine cF (b := false) rfl ?_
  refine sR [hR 3 rfl rfl (rCa (authn_Replica f u rows e.f_Signer ‹_› ‹_›) Tryz.func39 [0, 1] [(.tmp 35, pv 0 0), (.tmp 37, vI e.f_Signer)] 2 2)] ?_
  by_cases hq6 : isReplica f e.f_Signer
  ·have hx9 := vt_ok ho9 hk3 hq6
   refine cF (cn (dT hq6)) ?_
   refine T.skip ?_
   refine nB ?_
   refine nT ?_
   refine sR [] ?_
   refine T.ret ?_
   exact eX [.c 6 3 46 0 46 [dI (Zdo f u rows e k).f_Kind, dI (Zdo f u rows e k).f_View, dI (Zdo f u rows e k).f_Seq, dI (Zdo f u rows e k).f_Client, dI (Zdo f u rows e k).f_Stamp, dS (Zdo f u rows e k).f_Digest, dU (Zdo f u rows e k).f_Data, dI (Zdo f u rows e k).f_Result.f_Code, dI (Zdo f u rows e k).f_Result.f_Stage, .d (dsl false false (kE false) (Zdo f u rows e k).f_Batch), .d (dsl false false (kE false) (Zdo f u rows e k).f_Pres), .d (dsl false false (kC false) (Zdo f u rows e k).f_Certs)] (.agg (Zdp f u rows e k)), .t 7 (Zdx)] ⟨⟨rfl, rfl, by kernel_rfl, by kernel_rfl, .inl ⟨12, wide_46, rfl, Nat.le_of_ble_eq_true rfl⟩⟩, ⟨⟨rfl, by kernel_rfl⟩, trivial⟩⟩ [0, 1] (by have e1 : ((vtV (checkE f u rows) f e k).f_Kind : Int) = (opV (checkE f u rows) e k).f_Kind := (by (rw [hx9.1, hv9]; done)); have e2 : ((vtV (checkE f u rows) f e k).f_View : Int) = (opV (checkE f u rows) e k).f_View := (by (rw [hx9.1, hv9]; done)); have e3 : ((vtV (checkE f u rows) f e k).f_Seq : Int) = (opV (checkE f u rows) e k).f_Seq := (by (rw [hx9.1, hv9]; done)); have e4 : ((vtV (checkE f u rows) f e k).f_Client : Int) = (opV (checkE f u rows) e k).f_Client := (by (rw [hx9.1, hv9]; done)); have e5 : ((vtV (checkE f u rows) f e k).f_Stamp : Int) = (opV (checkE f u rows) e k).f_Stamp := (by (rw [hx9.1, hv9]; done)); have e6 : ((vtV (checkE f u rows) f e k).f_Digest : List UInt8) = (opV (checkE f u rows) e k).f_Digest := (by (rw [hx9.1, hv9]; done)); have e7 : ((vtV (checkE f u rows) f e k).f_Data : List UInt8) = (opV (checkE f u rows) e k).f_Data := (by (rw [hx9.1, hv9]; done)); have e8 : ((vtV (checkE f u rows) f e k).f_Result.f_Code : Int) = (opV (checkE f u rows) e k).f_Result.f_Code := (by (rw [hx9.1, hv9]; done)); have e9 : ((vtV (checkE f u rows) f e k).f_Result.f_Stage : Int) = (opV (checkE f u rows) e k).f_Result.f_Stage := (by (rw [hx9.1, hv9]; done)); have e10 : ((vtV (checkE f u rows) f e k).f_Batch : List aE) = (opV (checkE f u rows) e k).f_Batch := (by (rw [hx9.1, hv9]; done)); have e11 : ((vtV (checkE f u rows) f e k).f_Pres : List aE) = (opV (checkE f u rows) e k).f_Pres := (by (rw [hx9.1, hv9]; done)); have e12 : ((vtV (checkE f u rows) f e k).f_Certs : List aC) = (opV (checkE f u rows) e k).f_Certs := (by (rw [hx9.1, hv9]; done)); have e13 : ((vtE (checkE f u rows) f e k) : Int) = 0 := (by exact hx9.2); have hE := congr (congr (congr (congr (congr (congr (congr (congr (congr (congr (congr (congr (congrArg (fun (q1 : Int) (q2 : Int) (q3 : Int) (q4 : Int) (q5 : Int) (q6 : List UInt8) (q7 : List UInt8) (q8 : Int) (q9 : Int) (q10 : List aE) (q11 : List aE) (q12 : List aC) (q13 : Int) => (.tup [.agg [dI q1, dI q2, dI q3, dI q4, dI q5, dS q6, dU q7, dI q8, dI q9, .d (dsl false false (kE false) q10), .d (dsl false false (kE false) q11), .d (dsl false false (kC false) q12)], .one (dI q13)] : AV)) e1) e2) e3) e4) e5) e6) e7) e8) e9) e10) e11) e12) e13; exact hE) (ix (ix trivial))
  have hx9 := vt_s ho9 hk3 hq6
  refine cT (cn (dF hq6)) ?_
  refine sR [] ?_
  refine T.ret (rB (rT ?_))
  refine eN ⟨(Zdz f u rows te e k), (Zdq f u rows te e k)⟩ ?_
  refine Ends.turn (s' := ⟨(Zdz f u rows te e k), (Zdv f u rows te e k)⟩) (fun _ _ hG => Gs.less (s := ⟨(Zdz f u rows te e k), (Zdq f u rows te e k)⟩) ⟨.inl rfl, (kk2 (kk32 trivial))⟩ ⟨.inl rfl, (kk2 ⟨(.inr ⟨rfl, (kk2 (kk4 ⟨(.inr ⟨rfl, rfl, rfl⟩), (kk2 ⟨(.inr ⟨rfl, rfl, rfl⟩), ⟨(.inr ⟨rfl, rfl, rfl⟩), ⟨(.inr ⟨rfl, rfl, rfl⟩), trivial⟩⟩⟩)⟩))⟩), ⟨.inl rfl, trivial⟩⟩)⟩ hG) ?_
  exact eX [.c 6 3 46 0 46 [dI 0, dI 0, dI 0, dI 0, dI 0, dS [], Zdr, dI 0, dI 0, Zds, Zds, Zdt] (.agg Zdu), .t 7 (.one (dI 30))] ⟨⟨rfl, rfl, by kernel_rfl, by kernel_rfl, .inl ⟨12, wide_46, rfl, Nat.le_of_ble_eq_true rfl⟩⟩, ⟨⟨rfl, by kernel_rfl⟩, trivial⟩⟩ [0, 1] (gc2 (hx9.1) (by exact hx9.2) (fun qq0 (q13 : Int) => (.tup [.agg [dI (qq0.f_Kind), dI (qq0.f_View), dI (qq0.f_Seq), dI (qq0.f_Client), dI (qq0.f_Stamp), dS (qq0.f_Digest), dU (qq0.f_Data), dI (qq0.f_Result.f_Code), dI (qq0.f_Result.f_Stage), .d (dsl false false (kE false) (qq0.f_Batch)), .d (dsl false false (kE false) (qq0.f_Pres)), .d (dsl false false (kC false) (qq0.f_Certs))], .one (dI q13)] : AV))) (ix (ix trivial))
 have hk3 : ¬ (k ≠ 3 ∧ k ≠ 4 ∧ k ≠ 5) := (fun q => hq2 q.1)
 refine sR [hN 3 true (dF hq2),
   hN 4 true (dF hq2),
   hP 5 (dF hq2),
   hN1 7,
   hN1 8,
   hP0 9] ?_
 refine cF (b := false) rfl ?_
 refine sR [hR 3 rfl rfl (rCa (authn_Replica f u rows e.f_Signer ‹_› ‹_›) Tryz.func39 [0, 1] [(.tmp 35, pv 0 0), (.tmp 37, vI e.f_Signer)] 2 2)] ?_
 by_cases hq7 : isReplica f e.f_Signer
 ·have hx9 := vt_ok ho9 hk3 hq7
  refine cF (cn (dT hq7)) ?_
  refine T.skip ?_
  refine nB ?_
  refine nT ?_
  refine sR [] ?_
  refine T.ret ?_
  exact eX [.c 6 3 46 0 46 [dI (Zdo f u rows e k).f_Kind, dI (Zdo f u rows e k).f_View, dI (Zdo f u rows e k).f_Seq, dI (Zdo f u rows e k).f_Client, dI (Zdo f u rows e k).f_Stamp, dS (Zdo f u rows e k).f_Digest, dU (Zdo f u rows e k).f_Data, dI (Zdo f u rows e k).f_Result.f_Code, dI (Zdo f u rows e k).f_Result.f_Stage, .d (dsl false false (kE false) (Zdo f u rows e k).f_Batch), .d (dsl false false (kE false) (Zdo f u rows e k).f_Pres), .d (dsl false false (kC false) (Zdo f u rows e k).f_Certs)] (.agg (Zdp f u rows e k)), .t 7 (Zdx)] ⟨⟨rfl, rfl, by kernel_rfl, by kernel_rfl, .inl ⟨12, wide_46, rfl, Nat.le_of_ble_eq_true rfl⟩⟩, ⟨⟨rfl, by kernel_rfl⟩, trivial⟩⟩ [0, 1] (by have e1 : ((vtV (checkE f u rows) f e k).f_Kind : Int) = (opV (checkE f u rows) e k).f_Kind := (by (rw [hx9.1, hv9]; done)); have e2 : ((vtV (checkE f u rows) f e k).f_View : Int) = (opV (checkE f u rows) e k).f_View := (by (rw [hx9.1, hv9]; done)); have e3 : ((vtV (checkE f u rows) f e k).f_Seq : Int) = (opV (checkE f u rows) e k).f_Seq := (by (rw [hx9.1, hv9]; done)); have e4 : ((vtV (checkE f u rows) f e k).f_Client : Int) = (opV (checkE f u rows) e k).f_Client := (by (rw [hx9.1, hv9]; done)); have e5 : ((vtV (checkE f u rows) f e k).f_Stamp : Int) = (opV (checkE f u rows) e k).f_Stamp := (by (rw [hx9.1, hv9]; done)); have e6 : ((vtV (checkE f u rows) f e k).f_Digest : List UInt8) = (opV (checkE f u rows) e k).f_Digest := (by (rw [hx9.1, hv9]; done)); have e7 : ((vtV (checkE f u rows) f e k).f_Data : List UInt8) = (opV (checkE f u rows) e k).f_Data := (by (rw [hx9.1, hv9]; done)); have e8 : ((vtV (checkE f u rows) f e k).f_Result.f_Code : Int) = (opV (checkE f u rows) e k).f_Result.f_Code := (by (rw [hx9.1, hv9]; done)); have e9 : ((vtV (checkE f u rows) f e k).f_Result.f_Stage : Int) = (opV (checkE f u rows) e k).f_Result.f_Stage := (by (rw [hx9.1, hv9]; done)); have e10 : ((vtV (checkE f u rows) f e k).f_Batch : List aE) = (opV (checkE f u rows) e k).f_Batch := (by (rw [hx9.1, hv9]; done)); have e11 : ((vtV (checkE f u rows) f e k).f_Pres : List aE) = (opV (checkE f u rows) e k).f_Pres := (by (rw [hx9.1, hv9]; done)); have e12 : ((vtV (checkE f u rows) f e k).f_Certs : List aC) = (opV (checkE f u rows) e k).f_Certs := (by (rw [hx9.1, hv9]; done)); have e13 : ((vtE (checkE f u rows) f e k) : Int) = 0 := (by exact hx9.2); have hE := congr (congr (congr (congr (congr (congr (congr (congr (congr (congr (congr (congr (congrArg (fun (q1 : Int) (q2 : Int) (q3 : Int) (q4 : Int) (q5 : Int) (q6 : List UInt8) (q7 : List UInt8) (q8 : Int) (q9 : Int) (q10 : List aE) (q11 : List aE) (q12 : List aC) (q13 : Int) => (.tup [.agg [dI q1, dI q2, dI q3, dI q4, dI q5, dS q6, dU q7, dI q8, dI q9, .d (dsl false false (kE false) q10), .d (dsl false false (kE false) q11), .d (dsl false false (kC false) q12)], .one (dI q13)] : AV)) e1) e2) e3) e4) e5) e6) e7) e8) e9) e10) e11) e12) e13; exact hE) (ix (ix trivial))
 have hx9 := vt_s ho9 hk3 hq7
 refine cT (cn (dF hq7)) ?_
 refine sR [] ?_
 refine T.ret (rB (rT ?_))
 refine eN ⟨(Zdz f u rows te e k), (Zdq f u rows te e k)⟩ ?_
 refine Ends.turn (s' := ⟨(Zdz f u rows te e k), (Zdv f u rows te e k)⟩) (fun _ _ hG => Gs.less (s := ⟨(Zdz f u rows te e k), (Zdq f u rows te e k)⟩) ⟨.inl rfl, (kk2 (kk32 trivial))⟩ ⟨.inl rfl, (kk2 ⟨(.inr ⟨rfl, (kk2 (kk4 ⟨(.inr ⟨rfl, rfl, rfl⟩), (kk2 ⟨(.inr ⟨rfl, rfl, rfl⟩), ⟨(.inr ⟨rfl, rfl, rfl⟩), ⟨(.inr ⟨rfl, rfl, rfl⟩), trivial⟩⟩⟩)⟩))⟩), ⟨.inl rfl, trivial⟩⟩)⟩ hG) ?_
 exact eX [.c 6 3 46 0 46 [dI 0, dI 0, dI 0, dI 0, dI 0, dS [], Zdr, dI 0, dI 0, Zds, Zds, Zdt] (.agg Zdu), .t 7 (.one (dI 30))] ⟨⟨rfl, rfl, by kernel_rfl, by kernel_rfl, .inl ⟨12, wide_46, rfl, Nat.le_of_ble_eq_true rfl⟩⟩, ⟨⟨rfl, by kernel_rfl⟩, trivial⟩⟩ [0, 1] (gc2 (hx9.1) (by exact hx9.2) (fun qq0 (q13 : Int) => (.tup [.agg [dI (qq0.f_Kind), dI (qq0.f_View), dI (qq0.f_Seq), dI (qq0.f_Client), dI (qq0.f_Stamp), dS (qq0.f_Digest), dU (qq0.f_Data), dI (qq0.f_Result.f_Code), dI (qq0.f_Result.f_Stage), .d (dsl false false (kE false) (qq0.f_Batch)), .d (dsl false false (kE false) (qq0.f_Pres)), .d (dsl false false (kC false) (qq0.f_Certs))], .one (dI q13)] : AV))) (ix (ix trivial))
end Go.Proofs.YtalapplihdmenaaGreat.Q
