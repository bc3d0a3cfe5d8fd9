import Derived.Test.YtalapplihdmenaaGreatC13n23
namespace Go.Proofs.YtalapplihdmenaaGreat.Q
open Go Go.RowKit
set_option linter.unusedVariables false
set_option linter.unusedSimpArgs false
set_option maxRecDepth 100000
set_option maxHeartbeats 4000000
section
variable (f : Int) (u : Int) (l : List aE) (e : aE) (k : Int)
abbrev Zdr : List SV := [dI e.f_Signer, dU e.f_Body]
abbrev Zds : HS := .live (.box 75 [dB true, dI f, dI u, .own 1 (kE false).sz 0 l.length])
abbrev Zdt : AV := vB (decide ((opR (checkL f u l) e) ≠ 0))
abbrev Zdu : List AV := [pv 0 0, .tv (.agg (Zdr e)), vI k, aa, pv 2 0, aa, pv 3 0, vI (opR (checkL f u l) e), pv 4 0, vI (opR (checkL f u l) e), aa, aa, aa, aa, aa, aa, aa, (Zdt f u l e)]
abbrev Zdv : SV := .d (.val (.slice none 0 0))
abbrev Zdw : SV := .d (dsl false false (kE false) (orV (checkL f u l) e).f_Batch)
abbrev Zdx : SV := .d (dsl false false (kE false) (orV (checkL f u l) e).f_Pres)
abbrev Zdy : SV := .d (dsl false false (kC false) (orV (checkL f u l) e).f_Certs)
abbrev Zdz : List SV := [dI (orV (checkL f u l) e).f_Kind, dI (orV (checkL f u l) e).f_View, dI (orV (checkL f u l) e).f_Seq, dI (orV (checkL f u l) e).f_Client, dI (orV (checkL f u l) e).f_Stamp, dS (orV (checkL f u l) e).f_Digest, dU (orV (checkL f u l) e).f_Data, dI (orV (checkL f u l) e).f_Result.f_Code, dI (orV (checkL f u l) e).f_Result.f_Stage, (Zdw f u l e), (Zdx f u l e), (Zdy f u l e)]
abbrev Ze0 : List HS := [(Zds f u l), .live (arrK 35 (kE false) l), .live (.box 35 (Zdr e)), .live (.box 46 [dI 0, dI 0, dI 0, dI 0, dI 0, dS [], Zdv, dI 0, dI 0, Zdv, Zdv, Zdv]), .live (.box 46 (Zdz f u l e))]
abbrev Ze1 : SV := dU ([] : List UInt8)
abbrev Ze2 : SV := .d (dsl false false (kE false) ([] : List aE))
abbrev Ze3 : SV := .d (dsl false false (kC false) ([] : List aC))
abbrev Ze4 : List SV := [dI 0, dI 0, dI 0, dI 0, dI 0, dS [], Ze1, dI 0, dI 0, Ze2, Ze2, Ze3]
abbrev Ze5 : List HS := [(Zds f u l), .live (arrK 35 (kE false) l), .live (.box 35 (Zdr e)), .live (.box 46 Ze4), .live (.box 46 (Zdz f u l e))]
abbrev Ze6 : List AV := [pv 0 0, .tv (.agg (Zdr e)), vI k, aa, pv 2 0, aa, pv 3 0, vI 120, pv 4 0, vI (opR (checkL f u l) e), aa, aa, aa, aa, aa, aa, aa, (Zdt f u l e), aa, aa, aa, aa, aa, aa, aa, aa, aa, aa, aa, aa, aa, aa, aa, aa, aa, vB true]
abbrev Ze7 : List AV := [pv 0 0, .tv (.agg (Zdr e)), vI k, aa, pv 2 0, aa, pv 3 0, vI 120, pv 4 0, vI (opR (checkL f u l) e), aa, aa, aa, aa, aa, aa, aa, (Zdt f u l e), aa, aa, aa, aa, aa, aa, aa, aa, aa, aa, aa, aa, aa, aa, aa, aa, aa, vB (decide (k ≠ 5))]
abbrev Ze8 : TV := .one (dI 0)
abbrev Ze9 : List AV := [pv 0 0, .tv (.agg (Zdr e)), vI k, aa, pv 2 0, aa, pv 3 0, vI 30, pv 4 0, vI (opR (checkL f u l) e), aa, aa, aa, aa, aa, aa, aa, (Zdt f u l e), aa, aa, aa, aa, aa, aa, aa, aa, aa, aa, aa, aa, aa, aa, aa, aa, aa, vB (decide (k ≠ 5)), aa, aa, aa, aa, aa, vB (!(decide (isReplica f e.f_Signer)))]
abbrev Zea : List AV := [pv 0 0, .tv (.agg (Zdr e)), vI k, aa, pv 2 0, aa, pv 3 0, vI 30, pv 4 0, vI (opR (checkL f u l) e), aa, aa, aa, aa, aa, aa, aa, (Zdt f u l e), aa, aa, aa, aa, aa, aa, aa, aa, aa, aa, aa, aa, aa, aa, aa, aa, aa, vB false, aa, aa, aa, aa, aa, vB (!(decide (isReplica f e.f_Signer)))]
end
theorem ref13_Vote (f : Int) (u : Int) (l : List aE) (e : aE) (k : Int) (hf : 0 ≤ f ∧ f ≤ 2) (hu : 0 ≤ u ∧ u ≤ 8) (hl : l.length ≤ 9223372036854775806) (hs : -9223372036854775808 ≤ e.f_Signer ∧ e.f_Signer ≤ 9223372036854775807) (hb : e.f_Body.length ≤ 100000000) : Holds Tryz.prog 57 ⟨[pv 0 0, .tv (.agg [dI e.f_Signer, dU e.f_Body]), vI k], [.box 75 [dB true, dI f, dI u, .own 1 (kE false).sz 0 l.length], arrK 35 (kE false) l], .tup [.agg [dI (vtV (checkL f u l) f e k).f_Kind, dI (vtV (checkL f u l) f e k).f_View, dI (vtV (checkL f u l) f e k).f_Seq, dI (vtV (checkL f u l) f e k).f_Client, dI (vtV (checkL f u l) f e k).f_Stamp, dS (vtV (checkL f u l) f e k).f_Digest, dU (vtV (checkL f u l) f e k).f_Data, dI (vtV (checkL f u l) f e k).f_Result.f_Code, dI (vtV (checkL f u l) f e k).f_Result.f_Stage, .d (dsl false false (kE false) (vtV (checkL f u l) f e k).f_Batch), .d (dsl false false (kE false) (vtV (checkL f u l) f e k).f_Pres), .d (dsl false false (kC false) (vtV (checkL f u l) f e k).f_Certs)], .one (dI (vtE (checkL f u l) f e k))], [.live (.box 75 [dB true, dI f, dI u, .own 1 (kE false).sz 0 l.length]), .live (arrK 35 (kE false) l)]⟩ := by
 refine Holds.of Tryz.func57 rfl (N := 44) Tryz.ntmps57 rfl fun w0 B0 S0 U0 => ?_
 show T _ (mkBase 44 2 w0 S0 U0 B0) ⟨[pv 0 0, .tv (.agg (Zdr e)), vI k], [(Zds f u l), .live (arrK 35 (kE false) l)]⟩ _ _
 refine sR [] ?_
 refine sR [hR 2 rfl rfl (rCa (ref13_open f u l e ‹_› ‹_› ‹_› ‹_› ‹_›) Tryz.func76 [0, 1] [(.tmp 11, pv 0 0), (.tmp 12, .tv (.agg (Zdr e)))] 2 2)] ?_
 refine T.seq ?_
 refine sR [] ?_
 by_cases hq1 : (opR (checkL f u l) e) ≠ 0
 ·have hr9 := (or_op (checkL f u l) e k).1 hq1; have hx9 := vt_o (f := f) (show opE (checkL f u l) e k ≠ 0 by rw [hr9]; exact hq1); rw [hr9] at hx9
  refine cT (dT hq1) ?_
  refine sR [] ?_
  refine T.ret (rT ?_)
  refine eN ⟨(Zdu f u l e k), (Ze0 f u l e)⟩ ?_
  refine Ends.turn (s' := ⟨(Zdu f u l e k), (Ze5 f u l e)⟩) (fun _ _ hG => Gs.less (s := ⟨(Zdu f u l e k), (Ze0 f u l e)⟩) (kk2 (kk16 trivial)) ⟨.inl rfl, (kk2 ⟨(.inr ⟨rfl, (kk2 (kk4 ⟨(.inr ⟨rfl, rfl, rfl⟩), (kk2 ⟨(.inr ⟨rfl, rfl, rfl⟩), ⟨(.inr ⟨rfl, rfl, rfl⟩), ⟨(.inr ⟨rfl, rfl, rfl⟩), trivial⟩⟩⟩)⟩))⟩), ⟨.inl rfl, trivial⟩⟩)⟩ hG) ?_
  exact eX [.c 6 3 46 0 46 [dI 0, dI 0, dI 0, dI 0, dI 0, dS [], Ze1, dI 0, dI 0, Ze2, Ze2, Ze3] (.agg Ze4), .t 7 (.one (dI (opR (checkL f u l) e)))] ⟨⟨rfl, rfl, by kernel_rfl, by kernel_rfl, .inl ⟨12, wide_46, rfl, Nat.le_of_ble_eq_true rfl⟩⟩, ⟨⟨rfl, by kernel_rfl⟩, trivial⟩⟩ [0, 1] (gc2 (hx9.1) (by exact hx9.2) (fun qq0 (q13 : Int) => (.tup [.agg [dI (qq0.f_Kind), dI (qq0.f_View), dI (qq0.f_Seq), dI (qq0.f_Client), dI (qq0.f_Stamp), dS (qq0.f_Digest), dU (qq0.f_Data), dI (qq0.f_Result.f_Code), dI (qq0.f_Result.f_Stage), .d (dsl false false (kE false) (qq0.f_Batch)), .d (dsl false false (kE false) (qq0.f_Pres)), .d (dsl false false (kC false) (qq0.f_Certs))], .one (dI q13)] : AV))) (ix (ix trivial))
 have hr9 := or_op (checkL f u l) e k; have hv9 := or_val hq1; have hbo := decV_bat e.f_Body; rw [← hv9] at hbo; have hbl := okEs_le hbo
 refine cF (dF hq1) ?_
 refine T.skip (nT (T.seq ?_))
 by_cases hq2 : (orV (checkL f u l) e).f_Kind ≠ k
 ·have hm9 := hq2; rw [hv9] at hm9; have hk9 := hr9.2.1 ‹_› hm9; have hx9 := vt_o (f := f) (show opE (checkL f u l) e k ≠ 0 by rw [hk9]; decide); rw [hk9] at hx9
  refine sR [hN 5 false (dT hq2),
    hN 6 false (dT hq2),
    hN 7 false (dT hq2),
    hU 8,
    hU 9,
    hN 10 false (dT hq2),
    hN 11 false (dT hq2),
    hU 12,
    hU 13,
    hN 14 false (dT hq2),
    hP 15 (dT hq2)] ?_
  refine cT (b := true) rfl ?_
  refine sR [] ?_
  refine T.ret (rT ?_)
  refine eN ⟨(Ze6 f u l e k), (Ze0 f u l e)⟩ ?_
  refine Ends.turn (s' := ⟨(Ze6 f u l e k), (Ze5 f u l e)⟩) (fun _ _ hG => Gs.less (s := ⟨(Ze6 f u l e k), (Ze0 f u l e)⟩) (kk4 (kk32 trivial)) ⟨.inl rfl, (kk2 ⟨(.inr ⟨rfl, (kk2 (kk4 ⟨(.inr ⟨rfl, rfl, rfl⟩), (kk2 ⟨(.inr ⟨rfl, rfl, rfl⟩), ⟨(.inr ⟨rfl, rfl, rfl⟩), ⟨(.inr ⟨rfl, rfl, rfl⟩), trivial⟩⟩⟩)⟩))⟩), ⟨.inl rfl, trivial⟩⟩)⟩ hG) ?_
  exact eX [.c 6 3 46 0 46 [dI 0, dI 0, dI 0, dI 0, dI 0, dS [], Ze1, dI 0, dI 0, Ze2, Ze2, Ze3] (.agg Ze4), .t 7 (.one (dI 120))] ⟨⟨rfl, rfl, by kernel_rfl, by kernel_rfl, .inl ⟨12, wide_46, rfl, Nat.le_of_ble_eq_true rfl⟩⟩, ⟨⟨rfl, by kernel_rfl⟩, trivial⟩⟩ [0, 1] (gc2 (hx9.1) (by exact hx9.2) (fun qq0 (q13 : Int) => (.tup [.agg [dI (qq0.f_Kind), dI (qq0.f_View), dI (qq0.f_Seq), dI (qq0.f_Client), dI (qq0.f_Stamp), dS (qq0.f_Digest), dU (qq0.f_Data), dI (qq0.f_Result.f_Code), dI (qq0.f_Result.f_Stage), .d (dsl false false (kE false) (qq0.f_Batch)), .d (dsl false false (kE false) (qq0.f_Pres)), .d (dsl false false (kC false) (qq0.f_Certs))], .one (dI q13)] : AV))) (ix (ix trivial))
 have hm9 := hq2; rw [hv9] at hm9; have ho9 : ¬ opE (checkL f u l) e k ≠ 0 := fun q => q (hr9.2.2 ‹_› hm9).1
 by_cases hq3 : k ≠ 3
 ·by_cases hq4 : k ≠ 4
  ·refine sR [hY 5 (dF hq2),
     hY 6 (dF hq2),
     hY 7 (dF hq2),
     hY 8 (dT hq3),
     hY 9 (dT hq3),
     hS 10 (oY rfl rfl rfl rfl (lt_of rfl) (dF hq2) (r_pickT (b := (decide (k ≠ 3))) (av := vB (decide (k ≠ 4))) (lt_of rfl) trivial (dT hq3))),
     hY 11 (dF hq2),
     hY 12 (dT hq4),
     hY 13 (dT hq4),
     hS 14 (oY rfl rfl rfl rfl (lt_of rfl) (dF hq2) (r_pickT (b := (decide (k ≠ 4))) (av := vB (decide (k ≠ 5))) (lt_of rfl) trivial (dT hq4))),
     hP 15 (dF hq2)] ?_
   by_cases hq5 : k ≠ 5
   ·have hx9 := vt_k (f := f) ho9 ‹_› ‹_› hq5
    refine cT (dT hq5) ?_
    refine sR [] ?_
    refine T.ret (rT ?_)
    refine eN ⟨(Ze7 f u l e k), (Ze0 f u l e)⟩ ?_
    refine Ends.turn (s' := ⟨(Ze7 f u l e k), (Ze5 f u l e)⟩) (fun _ _ hG => Gs.less (s := ⟨(Ze7 f u l e k), (Ze0 f u l e)⟩) (kk4 (kk32 trivial)) ⟨.inl rfl, (kk2 ⟨(.inr ⟨rfl, (kk2 (kk4 ⟨(.inr ⟨rfl, rfl, rfl⟩), (kk2 ⟨(.inr ⟨rfl, rfl, rfl⟩), ⟨(.inr ⟨rfl, rfl, rfl⟩), ⟨(.inr ⟨rfl, rfl, rfl⟩), trivial⟩⟩⟩)⟩))⟩), ⟨.inl rfl, trivial⟩⟩)⟩ hG) ?_
    exact eX [.c 6 3 46 0 46 [dI 0, dI 0, dI 0, dI 0, dI 0, dS [], Ze1, dI 0, dI 0, Ze2, Ze2, Ze3] (.agg Ze4), .t 7 (.one (dI 120))] ⟨⟨rfl, rfl, by kernel_rfl, by kernel_rfl, .inl ⟨12, wide_46, rfl, Nat.le_of_ble_eq_true rfl⟩⟩, ⟨⟨rfl, by kernel_rfl⟩, trivial⟩⟩ [0, 1] (gc2 (hx9.1) (by exact hx9.2) (fun qq0 (q13 : Int) => (.tup [.agg [dI (qq0.f_Kind), dI (qq0.f_View), dI (qq0.f_Seq), dI (qq0.f_Client), dI (qq0.f_Stamp), dS (qq0.f_Digest), dU (qq0.f_Data), dI (qq0.f_Result.f_Code), dI (qq0.f_Result.f_Stage), .d (dsl false false (kE false) (qq0.f_Batch)), .d (dsl false false (kE false) (qq0.f_Pres)), .d (dsl false false (kC false) (qq0.f_Certs))], .one (dI q13)] : AV))) (ix (ix trivial))
   have hk3 : ¬ (k ≠ 3 ∧ k ≠ 4 ∧ k ≠ 5) := (fun q => hq5 q.2.2)
   refine cF (dF hq5) ?_
   refine T.skip (nT (T.seq ?_))
   refine sR [hR 3 rfl rfl (rCa (ref03_Replica f u l e.f_Signer ‹_› ‹_›) Tryz.func78 [0, 1] [(.tmp 37, pv 0 0), (.tmp 39, vI e.f_Signer)] 2 2)] ?_
   by_cases hq6 : isReplica f e.f_Signer
   ·have hx9 := vt_ok ho9 hk3 hq6
    refine cF (cn (dT hq6)) ?_
    refine T.skip (nT ?_)
    refine sR [] ?_
    refine T.ret ?_
    exact eX [.c 6 3 46 0 46 [dI (orV (checkL f u l) e).f_Kind, dI (orV (checkL f u l) e).f_View, dI (orV (checkL f u l) e).f_Seq, dI (orV (checkL f u l) e).f_Client, dI (orV (checkL f u l) e).f_Stamp, dS (orV (checkL f u l) e).f_Digest, dU (orV (checkL f u l) e).f_Data, dI (orV (checkL f u l) e).f_Result.f_Code, dI (orV (checkL f u l) e).f_Result.f_Stage, (Zdw f u l e), (Zdx f u l e), (Zdy f u l e)] (.agg (Zdz f u l e)), .t 7 (Ze8)] ⟨⟨rfl, rfl, by kernel_rfl, by kernel_rfl, .inl ⟨12, wide_46, rfl, Nat.le_of_ble_eq_true rfl⟩⟩, ⟨⟨rfl, by kernel_rfl⟩, trivial⟩⟩ [0, 1] (by have e1 : ((vtV (checkL f u l) f e k).f_Kind : Int) = (orV (checkL f u l) e).f_Kind := (by (rw [hx9.1, hv9]; done)); have e2 : ((vtV (checkL f u l) f e k).f_View : Int) = (orV (checkL f u l) e).f_View := (by (rw [hx9.1, hv9]; done)); have e3 : ((vtV (checkL f u l) f e k).f_Seq : Int) = (orV (checkL f u l) e).f_Seq := (by (rw [hx9.1, hv9]; done)); have e4 : ((vtV (checkL f u l) f e k).f_Client : Int) = (orV (checkL f u l) e).f_Client := (by (rw [hx9.1, hv9]; done)); have e5 : ((vtV (checkL f u l) f e k).f_Stamp : Int) = (orV (checkL f u l) e).f_Stamp := (by (rw [hx9.1, hv9]; done)); have e6 : ((vtV (checkL f u l) f e k).f_Digest : List UInt8) = (orV (checkL f u l) e).f_Digest := (by (rw [hx9.1, hv9]; done)); have e7 : ((vtV (checkL f u l) f e k).f_Data : List UInt8) = (orV (checkL f u l) e).f_Data := (by (rw [hx9.1, hv9]; done)); have e8 : ((vtV (checkL f u l) f e k).f_Result.f_Code : Int) = (orV (checkL f u l) e).f_Result.f_Code := (by (rw [hx9.1, hv9]; done)); have e9 : ((vtV (checkL f u l) f e k).f_Result.f_Stage : Int) = (orV (checkL f u l) e).f_Result.f_Stage := (by (rw [hx9.1, hv9]; done)); have e10 : ((vtV (checkL f u l) f e k).f_Batch : List aE) = (orV (checkL f u l) e).f_Batch := (by (rw [hx9.1, hv9]; done)); have e11 : ((vtV (checkL f u l) f e k).f_Pres : List aE) = (orV (checkL f u l) e).f_Pres := (by (rw [hx9.1, hv9]; done)); have e12 : ((vtV (checkL f u l) f e k).f_Certs : List aC) = (orV (checkL f u l) e).f_Certs := (by (rw [hx9.1, hv9]; done)); have e13 : ((vtE (checkL f u l) f e k) : Int) = 0 := (by exact hx9.2); have hE := congr (congr (congr (congr (congr (congr (congr (congr (congr (congr (congr (congr (congrArg (fun (q1 : Int) (q2 : Int) (q3 : Int) (q4 : Int) (q5 : Int) (q6 : List UInt8) (q7 : List UInt8) (q8 : Int) (q9 : Int) (q10 : List aE) (q11 : List aE) (q12 : List aC) (q13 : Int) => (.tup [.agg [dI q1, dI q2, dI q3, dI q4, dI q5, dS q6, dU q7, dI q8, dI q9, .d (dsl false false (kE false) q10), .d (dsl false false (kE false) q11), .d (dsl false false (kC false) q12)], .one (dI q13)] : AV)) e1) e2) e3) e4) e5) e6) e7) e8) e9) e10) e11) e12) e13; exact hE) (ix (ix trivial))
   have hx9 := vt_s ho9 hk3 hq6
   refine cT (cn (dF hq6)) ?_
   refine sR [] ?_
   refine T.ret (rT ?_)
   refine eN ⟨(Ze9 f u l e k), (Ze0 f u l e)⟩ ?_
   refine Ends.turn (s' := ⟨(Ze9 f u l e k), (Ze5 f u l e)⟩) (fun _ _ hG => Gs.less (s := ⟨(Ze9 f u l e k), (Ze0 f u l e)⟩) (kk2 (kk8 (kk32 trivial))) ⟨.inl rfl, (kk2 ⟨(.inr ⟨rfl, (kk2 (kk4 ⟨(.inr ⟨rfl, rfl, rfl⟩), (kk2 ⟨(.inr ⟨rfl, rfl, rfl⟩), ⟨(.inr ⟨rfl, rfl, rfl⟩), ⟨(.inr ⟨rfl, rfl, rfl⟩), trivial⟩⟩⟩)⟩))⟩), ⟨.inl rfl, trivial⟩⟩)⟩ hG) ?_
   exact eX [.c 6 3 46 0 46 [dI 0, dI 0, dI 0, dI 0, dI 0, dS [], Ze1, dI 0, dI 0, Ze2, Ze2, Ze3] (.agg Ze4), .t 7 (.one (dI 30))] ⟨⟨rfl, rfl, by kernel_rfl, by kernel_rfl, .inl ⟨12, wide_46, rfl, Nat.le_of_ble_eq_true rfl⟩⟩, ⟨⟨rfl, by kernel_rfl⟩, trivial⟩⟩ [0, 1] (gc2 (hx9.1) (by exact hx9.2) (fun qq0 (q13 : Int) => (.tup [.agg [dI (qq0.f_Kind), dI (qq0.f_View), dI (qq0.f_Seq), dI (qq0.f_Client), dI (qq0.f_Stamp), dS (qq0.f_Digest), dU (qq0.f_Data), dI (qq0.f_Result.f_Code), dI (qq0.f_Result.f_Stage), .d (dsl false false (kE false) (qq0.f_Batch)), .d (dsl false false (kE false) (qq0.f_Pres)), .d (dsl false false (kC false) (qq0.f_Certs))], .one (dI q13)] : AV))) (ix (ix trivial))
  have hk3 : ¬ (k ≠ 3 ∧ k ≠ 4 ∧ k ≠ 5) := (fun q => hq4 q.2.1)
  refine sR [hY 5 (dF hq2),
    hY 6 (dF hq2),
    hY 7 (dF hq2),
    hY 8 (dT hq3),
    hY 9 (dT hq3),
    hS 10 (oY rfl rfl rfl rfl (lt_of rfl) (dF hq2) (r_pickT (b := (decide (k ≠ 3))) (av := vB (decide (k ≠ 4))) (lt_of rfl) trivial (dT hq3))),
    hY 11 (dF hq2),
    hN 12 true (dF hq4),
    hN 13 true (dF hq4),
    hS 14 (oY rfl rfl rfl rfl (lt_of rfl) (dF hq2) (r_pickF (b := (decide (k ≠ 4))) (av := vB false) (lt_of rfl) ⟨rfl, trivial⟩ (dF hq4))),
    hP 15 (dF hq2)] ?_
  refine cF (b := false) rfl ?_
  refine T.skip (nT (T.seq ?_))
  refine sR [hR 3 rfl rfl (rCa (ref03_Replica f u l e.f_Signer ‹_› ‹_›) Tryz.func78 [0, 1] [(.tmp 37, pv 0 0), (.tmp 39, vI e.f_Signer)] 2 2)] ?_
  by_cases hq7 : isReplica f e.f_Signer
  ·have hx9 := vt_ok ho9 hk3 hq7
   refine cF (cn (dT hq7)) ?_
   refine T.skip (nT ?_)
   refine sR [] ?_
   refine T.ret ?_
   exact eX [.c 6 3 46 0 46 [dI (orV (checkL f u l) e).f_Kind, dI (orV (checkL f u l) e).f_View, dI (orV (checkL f u l) e).f_Seq, dI (orV (checkL f u l) e).f_Client, dI (orV (checkL f u l) e).f_Stamp, dS (orV (checkL f u l) e).f_Digest, dU (orV (checkL f u l) e).f_Data, dI (orV (checkL f u l) e).f_Result.f_Code, dI (orV (checkL f u l) e).f_Result.f_Stage, (Zdw f u l e), (Zdx f u l e), (Zdy f u l e)] (.agg (Zdz f u l e)), .t 7 (Ze8)] ⟨⟨rfl, rfl, by kernel_rfl, by kernel_rfl, .inl ⟨12, wide_46, rfl, Nat.le_of_ble_eq_true rfl⟩⟩, ⟨⟨rfl, by kernel_rfl⟩, trivial⟩⟩ [0, 1] (by have e1 : ((vtV (checkL f u l) f e k).f_Kind : Int) = (orV (checkL f u l) e).f_Kind := (by (rw [hx9.1, hv9]; done)); have e2 : ((vtV (checkL f u l) f e k).f_View : Int) = (orV (checkL f u l) e).f_View := (by (rw [hx9.1, hv9]; done)); have e3 : ((vtV (checkL f u l) f e k).f_Seq : Int) = (orV (checkL f u l) e).f_Seq := (by (rw [hx9.1, hv9]; done)); have e4 : ((vtV (checkL f u l) f e k).f_Client : Int) = (orV (checkL f u l) e).f_Client := (by (rw [hx9.1, hv9]; done)); have e5 : ((vtV (checkL f u l) f e k).f_Stamp : Int) = (orV (checkL f u l) e).f_Stamp := (by (rw [hx9.1, hv9]; done)); have e6 : ((vtV (checkL f u l) f e k).f_Digest : List UInt8) = (orV (checkL f u l) e).f_Digest := (by (rw [hx9.1, hv9]; done)); have e7 : ((vtV (checkL f u l) f e k).f_Data : List UInt8) = (orV (checkL f u l) e).f_Data := (by (rw [hx9.1, hv9]; done)); have e8 : ((vtV (checkL f u l) f e k).f_Result.f_Code : Int) = (orV (checkL f u l) e).f_Result.f_Code := (by (rw [hx9.1, hv9]; done)); have e9 : ((vtV (checkL f u l) f e k).f_Result.f_Stage : Int) = (orV (checkL f u l) e).f_Result.f_Stage := (by (rw [hx9.1, hv9]; done)); have e10 : ((vtV (checkL f u l) f e k).f_Batch : List aE) = (orV (checkL f u l) e).f_Batch := (by (rw [hx9.1, hv9]; done)); have e11 : ((vtV (checkL f u l) f e k).f_Pres : List aE) = (orV (checkL f u l) e).f_Pres := (by (rw [hx9.1, hv9]; done)); have e12 : ((vtV (checkL f u l) f e k).f_Certs : List aC) = (orV (checkL f u l) e).f_Certs := (by (rw [hx9.1, hv9]; done)); have e13 : ((vtE (checkL f u l) f e k) : Int) = 0 := (by exact hx9.2); have hE := congr (congr (congr (congr (congr (congr (congr (congr (congr (congr (congr (congr (congrArg (fun (q1 : Int) (q2 : Int) (q3 : Int) (q4 : Int) (q5 : Int) (q6 : List UInt8) (q7 : List UInt8) (q8 : Int) (q9 : Int) (q10 : List aE) (q11 : List aE) (q12 : List aC) (q13 : Int) => (.tup [.agg [dI q1, dI q2, dI q3, dI q4, dI q5, dS q6, dU q7, dI q8, dI q9, .d (dsl false false (kE false) q10), .d (dsl false false (kE false) q11), .d (dsl false false (kC false) q12)], .one (dI q13)] : AV)) e1) e2) e3) e4) e5) e6) e7) e8) e9) e10) e11) e12) e13; exact hE) (ix (ix trivial))
  have hx9 := vt_s ho9 hk3 hq7
  refine cT (cn (dF hq7)) ?_
  refine sR [] ?_
  refine T.ret (rT ?_)
  refine eN ⟨(Zea f u l e k), (Ze0 f u l e)⟩ ?_
  refine Ends.turn (s' := ⟨(Zea f u l e k), (Ze5 f u l e)⟩) (fun _ _ hG => Gs.less (s := ⟨(Zea f u l e k), (Ze0 f u l e)⟩) (kk2 (kk8 (kk32 trivial))) ⟨.inl rfl, (kk2 ⟨(.inr ⟨rfl, (kk2 (kk4 ⟨(.inr ⟨rfl, rfl, rfl⟩), (kk2 ⟨(.inr ⟨rfl, rfl, rfl⟩), ⟨(.inr ⟨rfl, rfl, rfl⟩), ⟨(.inr ⟨rfl, rfl, rfl⟩), trivial⟩⟩⟩)⟩))⟩), ⟨.inl rfl, trivial⟩⟩)⟩ hG) ?_
  exact eX [.c 6 3 46 0 46 [dI 0, dI 0, dI 0, dI 0, dI 0, dS [], Ze1, dI 0, dI 0, Ze2, Ze2, Ze3] (.agg Ze4), .t 7 (.one (dI 30))] ⟨⟨rfl, rfl, by kernel_rfl, by kernel_rfl, .inl ⟨12, wide_46, rfl, Nat.le_of_ble_eq_true rfl⟩⟩, ⟨⟨rfl, by kernel_rfl⟩, trivial⟩⟩ [0, 1] (gc2 (hx9.1) (by exact hx9.2) (fun qq0 (q13 : Int) => (.tup [.agg [dI (qq0.f_Kind), dI (qq0.f_View), dI (qq0.f_Seq), dI (qq0.f_Client), dI (qq0.f_Stamp), dS (qq0.f_Digest), dU (qq0.f_Data), dI (qq0.f_Result.f_Code), dI (qq0.f_Result.f_Stage), .d (dsl false false (kE false) (qq0.f_Batch)), .d (dsl false false (kE false) (qq0.f_Pres)), .d (dsl false false (kC false) (qq0.f_Certs))], .one (dI q13)] : AV))) (ix (ix trivial))
 have hk3 : ¬ (k ≠ 3 ∧ k ≠ 4 ∧ k ≠ 5) := (fun q => hq3 q.1)
 refine sR [hY 5 (dF hq2),
   hY 6 (dF hq2),
   hY 7 (dF hq2),
   hN 8 true (dF hq3),
   hN 9 true (dF hq3),
   hS 10 (oY rfl rfl rfl rfl (lt_of rfl) (dF hq2) (r_pickF (b := (decide (k ≠ 3))) (av := vB false) (lt_of rfl) ⟨rfl, trivial⟩ (dF hq3))),
   hY 11 (dF hq2),
   hN1 12,
   hN1 13,
   hS 14 (oY rfl rfl rfl rfl (lt_of rfl) (dF hq2) (r_pickF (b := false) (av := vB false) (lt_of rfl) ⟨rfl, trivial⟩ rfl)),
   hP 15 (dF hq2)] ?_
 refine cF (b := false) rfl ?_
 refine T.skip (nT (T.seq ?_))
 refine sR [hR 3 rfl rfl (rCa (ref03_Replica f u l e.f_Signer ‹_› ‹_›) Tryz.func78 [0, 1] [(.tmp 37, pv 0 0), (.tmp 39, vI e.f_Signer)] 2 2)] ?_
 by_cases hq8 : isReplica f e.f_Signer
 ·have hx9 := vt_ok ho9 hk3 hq8
  refine cF (cn (dT hq8)) ?_
  refine T.skip (nT ?_)
  refine sR [] ?_
  refine T.ret ?_
  exact eX [.c 6 3 46 0 46 [dI (orV (checkL f u l) e).f_Kind, dI (orV (checkL f u l) e).f_View, dI (orV (checkL f u l) e).f_Seq, dI (orV (checkL f u l) e).f_Client, dI (orV (checkL f u l) e).f_Stamp, dS (orV (checkL f u l) e).f_Digest, dU (orV (checkL f u l) e).f_Data, dI (orV (checkL f u l) e).f_Result.f_Code, dI (orV (checkL f u l) e).f_Result.f_Stage, (Zdw f u l e), (Zdx f u l e), (Zdy f u l e)] (.agg (Zdz f u l e)), .t 7 (Ze8)] ⟨⟨rfl, rfl, by kernel_rfl, by kernel_rfl, .inl ⟨12, wide_46, rfl, Nat.le_of_ble_eq_true rfl⟩⟩, ⟨⟨rfl, by kernel_rfl⟩, trivial⟩⟩ [0, 1] (by have e1 : ((vtV (checkL f u l) f e k).f_Kind : Int) = (orV (checkL f u l) e).f_Kind := (by (rw [hx9.1, hv9]; done)); have e2 : ((vtV (checkL f u l) f e k).f_View : Int) = (orV (checkL f u l) e).f_View := (by (rw [hx9.1, hv9]; done)); have e3 : ((vtV (checkL f u l) f e k).f_Seq : Int) = (orV (checkL f u l) e).f_Seq := (by (rw [hx9.1, hv9]; done)); have e4 : ((vtV (checkL f u l) f e k).f_Client : Int) = (orV (checkL f u l) e).f_Client := (by (rw [hx9.1, hv9]; done)); have e5 : ((vtV (checkL f u l) f e k).f_Stamp : Int) = (orV (checkL f u l) e).f_Stamp := (by (rw [hx9.1, hv9]; done)); have e6 : ((vtV (checkL f u l) f e k).f_Digest : List UInt8) = (orV (checkL f u l) e).f_Digest := (by (rw [hx9.1, hv9]; done)); have e7 : ((vtV (checkL f u l) f e k).f_Data : List UInt8) = (orV (checkL f u l) e).f_Data := (by (rw [hx9.1, hv9]; done)); have e8 : ((vtV (checkL f u l) f e k).f_Result.f_Code : Int) = (orV (checkL f u l) e).f_Result.f_Code := (by (rw [hx9.1, hv9]; done)); have e9 : ((vtV (checkL f u l) f e k).f_Result.f_Stage : Int) = (orV (checkL f u l) e).f_Result.f_Stage := (by (rw [hx9.1, hv9]; done)); have e10 : ((vtV (checkL f u l) f e k).f_Batch : List aE) = (orV (checkL f u l) e).f_Batch := (by (rw [hx9.1, hv9]; done)); have e11 : ((vtV (checkL f u l) f e k).f_Pres : List aE) = (orV (checkL f u l) e).f_Pres := (by (rw [hx9.1, hv9]; done)); have e12 : ((vtV (checkL f u l) f e k).f_Certs : List aC) = (orV (checkL f u l) e).f_Certs := (by (rw [hx9.1, hv9]; done)); have e13 : ((vtE (checkL f u l) f e k) : Int) = 0 := (by exact hx9.2); have hE := congr (congr (congr (congr (congr (congr (congr (congr (congr (congr (congr (congr (congrArg (fun (q1 : Int) (q2 : Int) (q3 : Int) (q4 : Int) (q5 : Int) (q6 : List UInt8) (q7 : List UInt8) (q8 : Int) (q9 : Int) (q10 : List aE) (q11 : List aE) (q12 : List aC) (q13 : Int) => (.tup [.agg [dI q1, dI q2, dI q3, dI q4, dI q5, dS q6, dU q7, dI q8, dI q9, .d (dsl false false (kE false) q10), .d (dsl false false (kE false) q11), .d (dsl false false (kC false) q12)], .one (dI q13)] : AV)) e1) e2) e3) e4) e5) e6) e7) e8) e9) e10) e11) e12) e13; exact hE) (ix (ix trivial))
 have hx9 := vt_s ho9 hk3 hq8
 refine cT (cn (dF hq8)) ?_
 refine sR [] ?_
 refine T.ret (rT ?_)
 refine eN ⟨(Zea f u l e k), (Ze0 f u l e)⟩ ?_
 refine Ends.turn (s' := ⟨(Zea f u l e k), (Ze5 f u l e)⟩) (fun _ _ hG => Gs.less (s := ⟨(Zea f u l e k), (Ze0 f u l e)⟩) (kk2 (kk8 (kk32 trivial))) ⟨.inl rfl, (kk2 ⟨(.inr ⟨rfl, (kk2 (kk4 ⟨(.inr ⟨rfl, rfl, rfl⟩), (kk2 ⟨(.inr ⟨rfl, rfl, rfl⟩), ⟨(.inr ⟨rfl, rfl, rfl⟩), ⟨(.inr ⟨rfl, rfl, rfl⟩), trivial⟩⟩⟩)⟩))⟩), ⟨.inl rfl, trivial⟩⟩)⟩ hG) ?_
 exact eX [.c 6 3 46 0 46 [dI 0, dI 0, dI 0, dI 0, dI 0, dS [], Ze1, dI 0, dI 0, Ze2, Ze2, Ze3] (.agg Ze4), .t 7 (.one (dI 30))] ⟨⟨rfl, rfl, by kernel_rfl, by kernel_rfl, .inl ⟨12, wide_46, rfl, Nat.le_of_ble_eq_true rfl⟩⟩, ⟨⟨rfl, by kernel_rfl⟩, trivial⟩⟩ [0, 1] (gc2 (hx9.1) (by exact hx9.2) (fun qq0 (q13 : Int) => (.tup [.agg [dI (qq0.f_Kind), dI (qq0.f_View), dI (qq0.f_Seq), dI (qq0.f_Client), dI (qq0.f_Stamp), dS (qq0.f_Digest), dU (qq0.f_Data), dI (qq0.f_Result.f_Code), dI (qq0.f_Result.f_Stage), .d (dsl false false (kE false) (qq0.f_Batch)), .d (dsl false false (kE false) (qq0.f_Pres)), .d (dsl false false (kC false) (qq0.f_Certs))], .one (dI q13)] : AV))) (ix (ix trivial))
theorem cert_must (tm : Bool) (m : aM) (s : Int) (tp : Bool) (p : aM) (kind : Int) (tc : Bool) (c : aC) : Holds Tryz.prog 55 ⟨[.tv (.agg [dI m.f_Kind, dI m.f_View, dI m.f_Seq, dI m.f_Client, dI m.f_Stamp, dS m.f_Digest, .d (dsl tm false kU8 m.f_Data), dI m.f_Result.f_Code, dI m.f_Result.f_Stage, .d (dsl tm false (kE tm) m.f_Batch), .d (dsl tm false (kE tm) m.f_Pres), .d (dsl tm false (kC tm) m.f_Certs)]), vI s, pv 0 0, pv 1 0, pv 2 0], [.box 46 [dI p.f_Kind, dI p.f_View, dI p.f_Seq, dI p.f_Client, dI p.f_Stamp, dS p.f_Digest, .d (dsl tp false kU8 p.f_Data), dI p.f_Result.f_Code, dI p.f_Result.f_Stage, .d (dsl tp false (kE tp) p.f_Batch), .d (dsl tp false (kE tp) p.f_Pres), .d (dsl tp false (kC tp) p.f_Certs)], .box 3 [dI kind], .box 38 [dI c.f_Pre.f_Signer, .d (dsl tc false kU8 c.f_Pre.f_Body), .d (dsl tc false (kE tc) c.f_Votes)]], vI (musE p kind c.f_Pre.f_Signer m s), [.live (.box 46 [dI p.f_Kind, dI p.f_View, dI p.f_Seq, dI p.f_Client, dI p.f_Stamp, dS p.f_Digest, .d (dsl tp false kU8 p.f_Data), dI p.f_Result.f_Code, dI p.f_Result.f_Stage, .d (dsl tp false (kE tp) p.f_Batch), .d (dsl tp false (kE tp) p.f_Pres), .d (dsl tp false (kC tp) p.f_Certs)]), .live (.box 3 [dI kind]), .live (.box 38 [dI c.f_Pre.f_Signer, .d (dsl tc false kU8 c.f_Pre.f_Body), .d (dsl tc false (kE tc) c.f_Votes)])]⟩ := by
 refine Holds.of Tryz.func55 rfl (N := 36) Tryz.ntmps55 rfl fun w0 B0 S0 U0 => ?_
 show T _ (mkBase 36 3 w0 S0 U0 B0) ⟨[.tv (.agg [dI m.f_Kind, dI m.f_View, dI m.f_Seq, dI m.f_Client, dI m.f_Stamp, dS m.f_Digest, .d (dsl tm false kU8 m.f_Data), dI m.f_Result.f_Code, dI m.f_Result.f_Stage, .d (dsl tm false (kE tm) m.f_Batch), .d (dsl tm false (kE tm) m.f_Pres), .d (dsl tm false (kC tm) m.f_Certs)]), vI s, pv 0 0, pv 1 0, pv 2 0], [.live (.box 46 [dI p.f_Kind, dI p.f_View, dI p.f_Seq, dI p.f_Client, dI p.f_Stamp, dS p.f_Digest, .d (dsl tp false kU8 p.f_Data), dI p.f_Result.f_Code, dI p.f_Result.f_Stage, .d (dsl tp false (kE tp) p.f_Batch), .d (dsl tp false (kE tp) p.f_Pres), .d (dsl tp false (kC tp) p.f_Certs)]), .live (.box 3 [dI kind]), .live (.box 38 [dI c.f_Pre.f_Signer, .d (dsl tc false kU8 c.f_Pre.f_Body), .d (dsl tc false (kE tc) c.f_Votes)])]⟩ _ _
 refine sR [] ?_
 refine T.seq ?_
 refine T.block ?_
 refine sR [] ?_
 by_cases hq1 : m.f_View ≠ p.f_View
 ·refine cT (dT hq1) ?_
  refine sR [] ?_
  refine T.ret (rB (rT ?_))
  exact eRt 7 (.one (dI 130)) [0, 1, 2] (by have e1 : ((musE p kind c.f_Pre.f_Signer m s) : Int) = 130 := (by (simp [musE, *]; done)); have hE := cI e1; exact hE) (ix (ix (ix trivial)))
 refine cF (dF hq1) ?_
 refine sR [] ?_
 by_cases hq2 : m.f_Seq ≠ p.f_Seq
 ·refine cT (dT hq2) ?_
  refine sR [] ?_
  refine T.ret (rB (rT ?_))
  exact eRt 7 (.one (dI 131)) [0, 1, 2] (by have e1 : ((musE p kind c.f_Pre.f_Signer m s) : Int) = 131 := (by (simp [musE, *]; done)); have hE := cI e1; exact hE) (ix (ix (ix trivial)))
 refine cF (dF hq2) ?_
 refine sR [] ?_
 by_cases hq3 : m.f_Digest ≠ p.f_Digest
 ·refine cT (dT hq3) ?_
  refine sR [] ?_
  refine T.ret (rB (rT ?_))
  exact eRt 7 (.one (dI 132)) [0, 1, 2] (by have e1 : ((musE p kind c.f_Pre.f_Signer m s) : Int) = 132 := (by (simp [musE, *]; done)); have hE := cI e1; exact hE) (ix (ix (ix trivial)))
 refine cF (dF hq3) ?_
 by_cases hq4 : kind = 3
 ·refine sR [hY 3 (dT hq4),
    hY 4 (dT hq4),
    hY 5 (dT hq4),
    hY 6 (dT hq4),
    hY 7 (dT hq4),
    hP 8 (dT hq4)] ?_
  by_cases hq5 : s = c.f_Pre.f_Signer
  ·refine cT (dT hq5) ?_
   refine sR [] ?_
   refine T.ret (rB (rT ?_))
   exact eRt 7 (.one (dI 133)) [0, 1, 2] (by have e1 : ((musE p kind c.f_Pre.f_Signer m s) : Int) = 133 := (by (simp [musE, *]; done)); have hE := cI e1; exact hE) (ix (ix (ix trivial)))
  refine cF (dF hq5) ?_
  refine T.skip ?_
  refine nB ?_
  refine nT ?_
  refine sR [] ?_
  refine T.ret ?_
  exact eRt 7 (.one (dI 0)) [0, 1, 2] (by have e1 : ((musE p kind c.f_Pre.f_Signer m s) : Int) = 0 := (by (simp [musE, *]; done)); have hE := cI e1; exact hE) (ix (ix (ix trivial)))
 refine sR [hN 3 true (dF hq4),
   hN 4 true (dF hq4),
   hN 5 true (dF hq4),
   hN 6 true (dF hq4),
   hN 7 true (dF hq4),
   hP 8 (dF hq4)] ?_
 refine cF (b := false) rfl ?_
 refine T.skip ?_
 refine nB ?_
 refine nT ?_
 refine sR [] ?_
 refine T.ret ?_
 exact eRt 7 (.one (dI 0)) [0, 1, 2] (by have e1 : ((musE p kind c.f_Pre.f_Signer m s) : Int) = 0 := (by (simp [musE, *]; done)); have hE := cI e1; exact hE) (ix (ix (ix trivial)))
end Go.Proofs.YtalapplihdmenaaGreat.Q
