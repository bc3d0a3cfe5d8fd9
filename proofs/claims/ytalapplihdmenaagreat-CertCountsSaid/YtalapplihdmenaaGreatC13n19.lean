import Derived.Test.YtalapplihdmenaaGreatC13n18
namespace Go.Proofs.YtalapplihdmenaaGreat.Q
open Go Go.RowKit
set_option linter.unusedVariables false
set_option linter.unusedSimpArgs false
set_option maxRecDepth 100000
set_option maxHeartbeats 4000000
section
variable (f : Int) (u : Int) (rows : List (authn_pair × Bool)) (te : Bool) (e : aE) (k : Int)
abbrev Za8 : List SV := [dI e.f_Signer, .d (dsl te false kU8 e.f_Body)]
abbrev Za9 : HS := .live (.box 98 [dI (3 * f + 1), dI u, .mref 1])
abbrev Zaa : HS := .live (mpK f_authn_pair kBool rows)
abbrev Zab : List AV := [pv 0 0, .tv (.agg (Za8 te e)), vI k, aa, pv 2 0, aa, pv 3 0, vI (checkE f u rows e), vI (checkE f u rows e), aa, aa, aa, aa, aa, aa, vB (decide ((checkE f u rows e) ≠ 0))]
abbrev Zac : SV := .d (.val (.slice none 0 0))
abbrev Zad : HS := .live (.box 46 [dI 0, dI 0, dI 0, dI 0, dI 0, dS [], Zac, dI 0, dI 0, Zac, Zac, Zac])
abbrev Zae : SV := dU ([] : List UInt8)
abbrev Zaf : SV := .d (dsl false false (kE false) ([] : List aE))
abbrev Zag : SV := .d (dsl false false (kC false) ([] : List aC))
abbrev Zah : List SV := [dI 0, dI 0, dI 0, dI 0, dI 0, dS [], Zae, dI 0, dI 0, Zaf, Zaf, Zag]
abbrev Zai : List AV := [pv 0 0, .tv (.agg (Za8 te e)), vI k, aa, pv 2 0, aa, pv 3 0, vI 120, vI (checkE f u rows e), pv 4 0, vI (decE e.f_Body), aa, aa, aa, aa, vB (decide ((checkE f u rows e) ≠ 0)), aa, aa, aa, aa, aa, aa, aa, aa, aa, aa, aa, aa, aa, aa, aa, vB true]
abbrev Zaj : List SV := [dI (decV e.f_Body).f_Kind, dI (decV e.f_Body).f_View, dI (decV e.f_Body).f_Seq, dI (decV e.f_Body).f_Client, dI (decV e.f_Body).f_Stamp, dS (decV e.f_Body).f_Digest, dU (decV e.f_Body).f_Data, dI (decV e.f_Body).f_Result.f_Code, dI (decV e.f_Body).f_Result.f_Stage, .d (dsl false false (kE false) (decV e.f_Body).f_Batch), .d (dsl false false (kE false) (decV e.f_Body).f_Pres), .d (dsl false false (kC false) (decV e.f_Body).f_Certs)]
abbrev Zak : List HS := [(Za9 f u), (Zaa rows), .live (.box 35 (Za8 te e)), Zad, .live (.box 46 (Zaj e))]
abbrev Zal : List AV := [pv 0 0, .tv (.agg (Za8 te e)), vI k, aa, pv 2 0, aa, pv 3 0, vI 120, vI (checkE f u rows e), pv 4 0, vI (decE e.f_Body), aa, aa, aa, aa, vB (decide ((checkE f u rows e) ≠ 0)), aa, aa, aa, aa, aa, aa, aa, aa, aa, aa, aa, aa, aa, aa, aa, vB (decide ((decV e.f_Body).f_Kind ≠ k))]
end
theorem cert_open (f : Int) (u : Int) (rows : List (authn_pair × Bool)) (te : Bool) (e : aE) (k : Int) (hf : 0 ≤ f ∧ f ≤ 2) (hu : 0 ≤ u ∧ u ≤ 8) (hs : -9223372036854775808 ≤ e.f_Signer ∧ e.f_Signer ≤ 9223372036854775807) (hb : e.f_Body.length ≤ 100000000) : Holds Tryz.prog 50 ⟨[pv 0 0, .tv (.agg [dI e.f_Signer, .d (dsl te false kU8 e.f_Body)]), vI k], [.box 98 [dI (3 * f + 1), dI u, .mref 1], mpK f_authn_pair kBool rows], .tup [.agg [dI (opV (checkE f u rows) e k).f_Kind, dI (opV (checkE f u rows) e k).f_View, dI (opV (checkE f u rows) e k).f_Seq, dI (opV (checkE f u rows) e k).f_Client, dI (opV (checkE f u rows) e k).f_Stamp, dS (opV (checkE f u rows) e k).f_Digest, dU (opV (checkE f u rows) e k).f_Data, dI (opV (checkE f u rows) e k).f_Result.f_Code, dI (opV (checkE f u rows) e k).f_Result.f_Stage, .d (dsl false false (kE false) (opV (checkE f u rows) e k).f_Batch), .d (dsl false false (kE false) (opV (checkE f u rows) e k).f_Pres), .d (dsl false false (kC false) (opV (checkE f u rows) e k).f_Certs)], .one (dI (opE (checkE f u rows) e k))], [.live (.box 98 [dI (3 * f + 1), dI u, .mref 1]), .live (mpK f_authn_pair kBool rows)]⟩ := by
 refine Holds.of Tryz.func50 rfl (N := 34) Tryz.ntmps50 rfl fun w0 B0 S0 U0 => ?_
 show T _ (mkBase 34 2 w0 S0 U0 B0) ⟨[pv 0 0, .tv (.agg (Za8 te e)), vI k], [(Za9 f u), (Zaa rows)]⟩ _ _
 refine sR [] ?_
 refine T.seq ?_
 refine sR [hR 2 rfl rfl (rCa (authn_Check f u rows te e ‹_› ‹_› ‹_›) Tryz.func21 [0, 1] [(.tmp 11, pv 0 0), (.tmp 12, .tv (.agg (Za8 te e)))] 2 2)] ?_
 refine sR [] ?_
 by_cases hq1 : (checkE f u rows e) ≠ 0
 ·have hx9 := op_c (C := (checkE f u rows)) (k := k) hq1
  refine cT (dT hq1) ?_
  refine sR [] ?_
  refine T.ret (rT ?_)
  refine eN ⟨(Zab f u rows te e k), [(Za9 f u), (Zaa rows), .live (.box 35 (Za8 te e)), Zad]⟩ ?_
  refine Ends.turn (s' := ⟨(Zab f u rows te e k), [(Za9 f u), (Zaa rows), .live (.box 35 (Za8 te e)), .live (.box 46 Zah)]⟩) (fun _ _ hG => Gs.less (s := ⟨(Zab f u rows te e k), [(Za9 f u), (Zaa rows), .live (.box 35 (Za8 te e)), Zad]⟩) (kk16 trivial) ⟨.inl rfl, (kk2 ⟨(.inr ⟨rfl, (kk2 (kk4 ⟨(.inr ⟨rfl, rfl, rfl⟩), (kk2 ⟨(.inr ⟨rfl, rfl, rfl⟩), ⟨(.inr ⟨rfl, rfl, rfl⟩), ⟨(.inr ⟨rfl, rfl, rfl⟩), trivial⟩⟩⟩)⟩))⟩), trivial⟩)⟩ hG) ?_
  exact eX [.c 6 3 46 0 46 [dI 0, dI 0, dI 0, dI 0, dI 0, dS [], Zae, dI 0, dI 0, Zaf, Zaf, Zag] (.agg Zah), .t 7 (.one (dI (checkE f u rows e)))] ⟨⟨rfl, rfl, by kernel_rfl, by kernel_rfl, .inl ⟨12, wide_46, rfl, Nat.le_of_ble_eq_true rfl⟩⟩, ⟨⟨rfl, by kernel_rfl⟩, trivial⟩⟩ [0, 1] (gc2 (hx9.1) (by exact hx9.2) (fun qq0 (q13 : Int) => (.tup [.agg [dI (qq0.f_Kind), dI (qq0.f_View), dI (qq0.f_Seq), dI (qq0.f_Client), dI (qq0.f_Stamp), dS (qq0.f_Digest), dU (qq0.f_Data), dI (qq0.f_Result.f_Code), dI (qq0.f_Result.f_Stage), .d (dsl false false (kE false) (qq0.f_Batch)), .d (dsl false false (kE false) (qq0.f_Pres)), .d (dsl false false (kC false) (qq0.f_Certs))], .one (dI q13)] : AV))) (ix (ix trivial))
 refine cF (dF hq1) ?_
 refine T.skip (nT ?_)
 refine sR [hR 2 rfl rfl (rCa (msg_Decode te false e.f_Body (by omega)) Tryz.func68 [] [(.tmp 20, slV te false kU8 e.f_Body)] 0 0)] ?_
 refine T.seq ?_
 by_cases hq2 : (decE e.f_Body) ≠ 0
 ·have hx9 := op_d (C := (checkE f u rows)) (k := k) ‹_› hq2
  refine sR [hN 3 false (dT hq2),
    hN 4 false (dT hq2),
    hN 5 false (dT hq2),
    hN 6 false (dT hq2),
    hP 7 (dT hq2)] ?_
  refine cT (b := true) rfl ?_
  refine sR [] ?_
  refine T.ret (rT ?_)
  refine eN ⟨(Zai f u rows te e k), (Zak f u rows te e)⟩ ?_
  refine Ends.turn (s' := ⟨(Zai f u rows te e k), [(Za9 f u), (Zaa rows), .live (.box 35 (Za8 te e)), .live (.box 46 Zah), .live (.box 46 (Zaj e))]⟩) (fun _ _ hG => Gs.less (s := ⟨(Zai f u rows te e k), (Zak f u rows te e)⟩) (kk32 trivial) ⟨.inl rfl, (kk2 ⟨(.inr ⟨rfl, (kk2 (kk4 ⟨(.inr ⟨rfl, rfl, rfl⟩), (kk2 ⟨(.inr ⟨rfl, rfl, rfl⟩), ⟨(.inr ⟨rfl, rfl, rfl⟩), ⟨(.inr ⟨rfl, rfl, rfl⟩), trivial⟩⟩⟩)⟩))⟩), ⟨.inl rfl, trivial⟩⟩)⟩ hG) ?_
  exact eX [.c 6 3 46 0 46 [dI 0, dI 0, dI 0, dI 0, dI 0, dS [], Zae, dI 0, dI 0, Zaf, Zaf, Zag] (.agg Zah), .t 7 (.one (dI 120))] ⟨⟨rfl, rfl, by kernel_rfl, by kernel_rfl, .inl ⟨12, wide_46, rfl, Nat.le_of_ble_eq_true rfl⟩⟩, ⟨⟨rfl, by kernel_rfl⟩, trivial⟩⟩ [0, 1] (gc2 (hx9.1) (by exact hx9.2) (fun qq0 (q13 : Int) => (.tup [.agg [dI (qq0.f_Kind), dI (qq0.f_View), dI (qq0.f_Seq), dI (qq0.f_Client), dI (qq0.f_Stamp), dS (qq0.f_Digest), dU (qq0.f_Data), dI (qq0.f_Result.f_Code), dI (qq0.f_Result.f_Stage), .d (dsl false false (kE false) (qq0.f_Batch)), .d (dsl false false (kE false) (qq0.f_Pres)), .d (dsl false false (kC false) (qq0.f_Certs))], .one (dI q13)] : AV))) (ix (ix trivial))
 refine sR [hY 3 (dF hq2),
   hY 4 (dF hq2),
   hY 5 (dF hq2),
   hY 6 (dF hq2),
   hP 7 (dF hq2)] ?_
 by_cases hq3 : (decV e.f_Body).f_Kind ≠ k
 ·have hx9 := op_k (C := (checkE f u rows)) ‹_› ‹_› hq3
  refine cT (dT hq3) ?_
  refine sR [] ?_
  refine T.ret (rT ?_)
  refine eN ⟨(Zal f u rows te e k), (Zak f u rows te e)⟩ ?_
  refine Ends.turn (s' := ⟨(Zal f u rows te e k), [(Za9 f u), (Zaa rows), .live (.box 35 (Za8 te e)), .live (.box 46 Zah), .live (.box 46 (Zaj e))]⟩) (fun _ _ hG => Gs.less (s := ⟨(Zal f u rows te e k), (Zak f u rows te e)⟩) (kk32 trivial) ⟨.inl rfl, (kk2 ⟨(.inr ⟨rfl, (kk2 (kk4 ⟨(.inr ⟨rfl, rfl, rfl⟩), (kk2 ⟨(.inr ⟨rfl, rfl, rfl⟩), ⟨(.inr ⟨rfl, rfl, rfl⟩), ⟨(.inr ⟨rfl, rfl, rfl⟩), trivial⟩⟩⟩)⟩))⟩), ⟨.inl rfl, trivial⟩⟩)⟩ hG) ?_
  exact eX [.c 6 3 46 0 46 [dI 0, dI 0, dI 0, dI 0, dI 0, dS [], Zae, dI 0, dI 0, Zaf, Zaf, Zag] (.agg Zah), .t 7 (.one (dI 120))] ⟨⟨rfl, rfl, by kernel_rfl, by kernel_rfl, .inl ⟨12, wide_46, rfl, Nat.le_of_ble_eq_true rfl⟩⟩, ⟨⟨rfl, by kernel_rfl⟩, trivial⟩⟩ [0, 1] (gc2 (hx9.1) (by exact hx9.2) (fun qq0 (q13 : Int) => (.tup [.agg [dI (qq0.f_Kind), dI (qq0.f_View), dI (qq0.f_Seq), dI (qq0.f_Client), dI (qq0.f_Stamp), dS (qq0.f_Digest), dU (qq0.f_Data), dI (qq0.f_Result.f_Code), dI (qq0.f_Result.f_Stage), .d (dsl false false (kE false) (qq0.f_Batch)), .d (dsl false false (kE false) (qq0.f_Pres)), .d (dsl false false (kC false) (qq0.f_Certs))], .one (dI q13)] : AV))) (ix (ix trivial))
 have hx9 := op_ok (C := (checkE f u rows)) ‹_› ‹_› hq3
 refine cF (dF hq3) ?_
 refine T.skip (nT ?_)
 refine sR [] ?_
 refine T.ret ?_
 exact eX [.c 6 3 46 0 46 [dI (decV e.f_Body).f_Kind, dI (decV e.f_Body).f_View, dI (decV e.f_Body).f_Seq, dI (decV e.f_Body).f_Client, dI (decV e.f_Body).f_Stamp, dS (decV e.f_Body).f_Digest, dU (decV e.f_Body).f_Data, dI (decV e.f_Body).f_Result.f_Code, dI (decV e.f_Body).f_Result.f_Stage, .d (dsl false false (kE false) (decV e.f_Body).f_Batch), .d (dsl false false (kE false) (decV e.f_Body).f_Pres), .d (dsl false false (kC false) (decV e.f_Body).f_Certs)] (.agg (Zaj e)), .t 7 (.one (dI 0))] ⟨⟨rfl, rfl, by kernel_rfl, by kernel_rfl, .inl ⟨12, wide_46, rfl, Nat.le_of_ble_eq_true rfl⟩⟩, ⟨⟨rfl, by kernel_rfl⟩, trivial⟩⟩ [0, 1] (gc2 (hx9.1) (by exact hx9.2) (fun qq0 (q13 : Int) => (.tup [.agg [dI (qq0.f_Kind), dI (qq0.f_View), dI (qq0.f_Seq), dI (qq0.f_Client), dI (qq0.f_Stamp), dS (qq0.f_Digest), dU (qq0.f_Data), dI (qq0.f_Result.f_Code), dI (qq0.f_Result.f_Stage), .d (dsl false false (kE false) (qq0.f_Batch)), .d (dsl false false (kE false) (qq0.f_Pres)), .d (dsl false false (kC false) (qq0.f_Certs))], .one (dI q13)] : AV))) (ix (ix trivial))
section
variable (f : Int) (u : Int) (l : List aE) (e : aE)
abbrev Zam : List SV := [dI e.f_Signer, dU e.f_Body]
abbrev Zan : HS := .live (.box 75 [dB true, dI f, dI u, .own 1 (kE false).sz 0 l.length])
abbrev Zao : HS := .live (arrK 35 (kE false) l)
abbrev Zap : List AV := [pv 0 0, .tv (.agg (Zam e)), aa, pv 2 0, pv 3 0, vI (checkL f u l e), vI (checkL f u l e), aa, aa, aa, aa, aa, vB (decide ((checkL f u l e) ≠ 0))]
abbrev Zaq : SV := .d (.val (.slice none 0 0))
abbrev Zar : HS := .live (.box 46 [dI 0, dI 0, dI 0, dI 0, dI 0, dS [], Zaq, dI 0, dI 0, Zaq, Zaq, Zaq])
abbrev Zas : SV := dU ([] : List UInt8)
abbrev Zat : SV := .d (dsl false false (kE false) ([] : List aE))
abbrev Zau : SV := .d (dsl false false (kC false) ([] : List aC))
abbrev Zav : List SV := [dI 0, dI 0, dI 0, dI 0, dI 0, dS [], Zas, dI 0, dI 0, Zat, Zat, Zau]
abbrev Zaw : List AV := [pv 0 0, .tv (.agg (Zam e)), aa, pv 2 0, pv 3 0, vI 120, vI (decE e.f_Body), pv 4 0, aa, aa, aa, aa, vB (decide ((checkL f u l e) ≠ 0)), aa, aa, aa, aa, aa, aa, aa, aa, aa, vB (decide ((decE e.f_Body) ≠ 0))]
abbrev Zax : List SV := [dI (decV e.f_Body).f_Kind, dI (decV e.f_Body).f_View, dI (decV e.f_Body).f_Seq, dI (decV e.f_Body).f_Client, dI (decV e.f_Body).f_Stamp, dS (decV e.f_Body).f_Digest, dU (decV e.f_Body).f_Data, dI (decV e.f_Body).f_Result.f_Code, dI (decV e.f_Body).f_Result.f_Stage, .d (dsl false false (kE false) (decV e.f_Body).f_Batch), .d (dsl false false (kE false) (decV e.f_Body).f_Pres), .d (dsl false false (kC false) (decV e.f_Body).f_Certs)]
end
theorem ref13_open (f : Int) (u : Int) (l : List aE) (e : aE) (hf : 0 ≤ f ∧ f ≤ 2) (hu : 0 ≤ u ∧ u ≤ 8) (hl : l.length ≤ 9223372036854775806) (hs : -9223372036854775808 ≤ e.f_Signer ∧ e.f_Signer ≤ 9223372036854775807) (hb : e.f_Body.length ≤ 100000000) : Holds Tryz.prog 76 ⟨[pv 0 0, .tv (.agg [dI e.f_Signer, dU e.f_Body])], [.box 75 [dB true, dI f, dI u, .own 1 (kE false).sz 0 l.length], arrK 35 (kE false) l], .tup [.agg [dI (orV (checkL f u l) e).f_Kind, dI (orV (checkL f u l) e).f_View, dI (orV (checkL f u l) e).f_Seq, dI (orV (checkL f u l) e).f_Client, dI (orV (checkL f u l) e).f_Stamp, dS (orV (checkL f u l) e).f_Digest, dU (orV (checkL f u l) e).f_Data, dI (orV (checkL f u l) e).f_Result.f_Code, dI (orV (checkL f u l) e).f_Result.f_Stage, .d (dsl false false (kE false) (orV (checkL f u l) e).f_Batch), .d (dsl false false (kE false) (orV (checkL f u l) e).f_Pres), .d (dsl false false (kC false) (orV (checkL f u l) e).f_Certs)], .one (dI (opR (checkL f u l) e))], [.live (.box 75 [dB true, dI f, dI u, .own 1 (kE false).sz 0 l.length]), .live (arrK 35 (kE false) l)]⟩ := by
 refine Holds.of Tryz.func76 rfl (N := 25) Tryz.ntmps76 rfl fun w0 B0 S0 U0 => ?_
 show T _ (mkBase 25 2 w0 S0 U0 B0) ⟨[pv 0 0, .tv (.agg (Zam e))], [(Zan f u l), (Zao l)]⟩ _ _
 refine sR [] ?_
 refine sR [hR 2 rfl rfl (rCa (ref03_Check f u l false e ‹_› ‹_› ‹_› ‹_›) Tryz.func103 [0, 1] [(.tmp 8, pv 0 0), (.tmp 9, .tv (.agg (Zam e)))] 2 2)] ?_
 refine T.seq ?_
 refine sR [] ?_
 by_cases hq1 : (checkL f u l e) ≠ 0
 ·have hx9 := or_c (C := (checkL f u l)) hq1
  refine cT (dT hq1) ?_
  refine sR [] ?_
  refine T.ret (rT ?_)
  refine eN ⟨(Zap f u l e), [(Zan f u l), (Zao l), .live (.box 35 (Zam e)), Zar]⟩ ?_
  refine Ends.turn (s' := ⟨(Zap f u l e), [(Zan f u l), (Zao l), .live (.box 35 (Zam e)), .live (.box 46 Zav)]⟩) (fun _ _ hG => Gs.less (s := ⟨(Zap f u l e), [(Zan f u l), (Zao l), .live (.box 35 (Zam e)), Zar]⟩) ⟨.inl rfl, (kk4 (kk8 trivial))⟩ ⟨.inl rfl, (kk2 ⟨(.inr ⟨rfl, (kk2 (kk4 ⟨(.inr ⟨rfl, rfl, rfl⟩), (kk2 ⟨(.inr ⟨rfl, rfl, rfl⟩), ⟨(.inr ⟨rfl, rfl, rfl⟩), ⟨(.inr ⟨rfl, rfl, rfl⟩), trivial⟩⟩⟩)⟩))⟩), trivial⟩)⟩ hG) ?_
  exact eX [.c 4 3 46 0 46 [dI 0, dI 0, dI 0, dI 0, dI 0, dS [], Zas, dI 0, dI 0, Zat, Zat, Zau] (.agg Zav), .t 5 (.one (dI (checkL f u l e)))] ⟨⟨rfl, rfl, by kernel_rfl, by kernel_rfl, .inl ⟨12, wide_46, rfl, Nat.le_of_ble_eq_true rfl⟩⟩, ⟨⟨rfl, by kernel_rfl⟩, trivial⟩⟩ [0, 1] (gc2 (hx9.1) (by exact hx9.2) (fun qq0 (q13 : Int) => (.tup [.agg [dI (qq0.f_Kind), dI (qq0.f_View), dI (qq0.f_Seq), dI (qq0.f_Client), dI (qq0.f_Stamp), dS (qq0.f_Digest), dU (qq0.f_Data), dI (qq0.f_Result.f_Code), dI (qq0.f_Result.f_Stage), .d (dsl false false (kE false) (qq0.f_Batch)), .d (dsl false false (kE false) (qq0.f_Pres)), .d (dsl false false (kC false) (qq0.f_Certs))], .one (dI q13)] : AV))) (ix (ix trivial))
 refine cF (dF hq1) ?_
 refine T.skip (nT ?_)
 refine sR [hR 2 rfl rfl (rCa (ref12_Decode e.f_Body (by omega)) Tryz.func104 [] [(.tmp 17, slV false false kU8 e.f_Body)] 0 0)] ?_
 refine T.seq ?_
 refine sR [] ?_
 by_cases hq2 : (decE e.f_Body) ≠ 0
 ·have hx9 := or_d (C := (checkL f u l)) ‹_› hq2
  refine cT (dT hq2) ?_
  refine sR [] ?_
  refine T.ret (rT ?_)
  refine eN ⟨(Zaw f u l e), [(Zan f u l), (Zao l), .live (.box 35 (Zam e)), Zar, .live (.box 46 (Zax e))]⟩ ?_
  refine Ends.turn (s' := ⟨(Zaw f u l e), [(Zan f u l), (Zao l), .live (.box 35 (Zam e)), .live (.box 46 Zav), .live (.box 46 (Zax e))]⟩) (fun _ _ hG => Gs.less (s := ⟨(Zaw f u l e), [(Zan f u l), (Zao l), .live (.box 35 (Zam e)), Zar, .live (.box 46 (Zax e))]⟩) ⟨.inl rfl, (kk2 (kk4 (kk16 trivial)))⟩ ⟨.inl rfl, (kk2 ⟨(.inr ⟨rfl, (kk2 (kk4 ⟨(.inr ⟨rfl, rfl, rfl⟩), (kk2 ⟨(.inr ⟨rfl, rfl, rfl⟩), ⟨(.inr ⟨rfl, rfl, rfl⟩), ⟨(.inr ⟨rfl, rfl, rfl⟩), trivial⟩⟩⟩)⟩))⟩), ⟨.inl rfl, trivial⟩⟩)⟩ hG) ?_
  exact eX [.c 4 3 46 0 46 [dI 0, dI 0, dI 0, dI 0, dI 0, dS [], Zas, dI 0, dI 0, Zat, Zat, Zau] (.agg Zav), .t 5 (.one (dI 120))] ⟨⟨rfl, rfl, by kernel_rfl, by kernel_rfl, .inl ⟨12, wide_46, rfl, Nat.le_of_ble_eq_true rfl⟩⟩, ⟨⟨rfl, by kernel_rfl⟩, trivial⟩⟩ [0, 1] (gc2 (hx9.1) (by exact hx9.2) (fun qq0 (q13 : Int) => (.tup [.agg [dI (qq0.f_Kind), dI (qq0.f_View), dI (qq0.f_Seq), dI (qq0.f_Client), dI (qq0.f_Stamp), dS (qq0.f_Digest), dU (qq0.f_Data), dI (qq0.f_Result.f_Code), dI (qq0.f_Result.f_Stage), .d (dsl false false (kE false) (qq0.f_Batch)), .d (dsl false false (kE false) (qq0.f_Pres)), .d (dsl false false (kC false) (qq0.f_Certs))], .one (dI q13)] : AV))) (ix (ix trivial))
 have hx9 := or_ok (C := (checkL f u l)) ‹_› hq2
 refine cF (dF hq2) ?_
 refine T.skip (nT ?_)
 refine sR [] ?_
 refine T.ret ?_
 exact eX [.c 4 3 46 0 46 [dI (decV e.f_Body).f_Kind, dI (decV e.f_Body).f_View, dI (decV e.f_Body).f_Seq, dI (decV e.f_Body).f_Client, dI (decV e.f_Body).f_Stamp, dS (decV e.f_Body).f_Digest, dU (decV e.f_Body).f_Data, dI (decV e.f_Body).f_Result.f_Code, dI (decV e.f_Body).f_Result.f_Stage, .d (dsl false false (kE false) (decV e.f_Body).f_Batch), .d (dsl false false (kE false) (decV e.f_Body).f_Pres), .d (dsl false false (kC false) (decV e.f_Body).f_Certs)] (.agg (Zax e)), .t 5 (.one (dI 0))] ⟨⟨rfl, rfl, by kernel_rfl, by kernel_rfl, .inl ⟨12, wide_46, rfl, Nat.le_of_ble_eq_true rfl⟩⟩, ⟨⟨rfl, by kernel_rfl⟩, trivial⟩⟩ [0, 1] (gc2 (hx9.1) (by exact hx9.2) (fun qq0 (q13 : Int) => (.tup [.agg [dI (qq0.f_Kind), dI (qq0.f_View), dI (qq0.f_Seq), dI (qq0.f_Client), dI (qq0.f_Stamp), dS (qq0.f_Digest), dU (qq0.f_Data), dI (qq0.f_Result.f_Code), dI (qq0.f_Result.f_Stage), .d (dsl false false (kE false) (qq0.f_Batch)), .d (dsl false false (kE false) (qq0.f_Pres)), .d (dsl false false (kC false) (qq0.f_Certs))], .one (dI q13)] : AV))) (ix (ix trivial))
theorem elem_79 : Elem Tryz.prog 79 33 1 24 := ⟨Tryz.underlying79, _, _, iat_33, rfl, rfl, rfl, rfl, by decide⟩
theorem zero_33 : Zero Tryz.prog 33 [.slice none 0 0] := ⟨_, _, iat_33, rfl, rfl⟩
section
variable (tl : Bool) (nl : Bool) (sl_ : Bool) (l : List aE) (k : Nat)
abbrev Zay : AV := slV tl nl (kE sl_) l
abbrev Zaz : AV := ownV 0 (kSl false kU8) 0 (fillL [] (l.map envB) k).length
abbrev Zb0 : AV := vI ((l.length : Nat) : Int)
abbrev Zb1 : AV := vI ((k : Nat) : Int)
abbrev Zb2 : List HS := [.live (arrK 33 (kSl false kU8) (fillL [] (l.map envB) k))]
abbrev Zb4 : List SV := [dI (l.getD k zE).f_Signer, .d (dsl sl_ false kU8 (l.getD k zE).f_Body)]
abbrev Zb5 : AV := vI ((k + 1 : Nat) : Int)
abbrev Zb6 : AV := vB (decide (((k : Nat) : Int) < ((l.length : Nat) : Int)))
abbrev Zb7 : List AV := [aa, aa, aa, (Zaz l k), (Zb1 k), pv 1 0, aa, aa, aa, (Zay tl nl sl_ l), (Zb0 l), (Zb5 k), (Zb6 l k)]
abbrev Zb8 : HS := .live (arrK 33 (kSl false kU8) (((fillL [] (l.map envB) k).set k (([] : List UInt8) ++ envB (l.getD k zE))).take (fillL [] (l.map envB) k).length))
abbrev Zba : List AV := [aa, aa, aa, ownV 0 (kSl false kU8) 0 (l.map envB).length, aa, aa, aa, aa, aa, (Zay tl nl sl_ l), (Zb0 l), (Zb1 k), (Zb6 l k)]
abbrev Zbb : HS := .live (arrK 33 (kSl false kU8) (l.map envB))
end
theorem msg_Batch (tl : Bool) (nl : Bool) (sl_ : Bool) (l : List aE) (hb : (envsB l).length ≤ 1000000000) : Holds Tryz.prog 73 ⟨[slV tl nl (kE sl_) l], [], dv (strV (bchB l)), []⟩ := by
 refine Holds.of Tryz.func73 rfl (N := 24) Tryz.ntmps73 rfl fun w0 B0 S0 U0 => ?_
 show T _ (mkBase 24 0 w0 S0 U0 B0) ⟨[(Zay tl nl sl_ l)], []⟩ _ _
 have hsz := szP_envs l
 have hml : (l.map envB).length = l.length := List.length_map ..
 have hlc := list_cnt l
 have hll := list_len l
 refine sR [] ?_
 refine sR [hR 2 rfl rfl (q_makeW 0 33 24 (kSl false kU8) (fillL [] (l.map envB) 0) l.length l.length (p := ((l.length : Nat) : Int)) (q := ((l.length : Nat) : Int)) elem_79 zero_33 rfl rfl (by omega) (by omega) (by (unfold maxLen; omega)) (by intro j hj; replace hj : j < 1 := hj; rcases j with _ | j <;> first | exact .inl rfl | exact .inr ⟨rfl, rfl, rfl⟩ | omega) (by (rw [fill_0, hml]; rfl)) (lt_of rfl) trivial)] ?_
 refine T.seq ?_
 refine sR [] ?_
 refine T.block ?_
 refine T.loop (ι := Nat) (fun (k : Nat) => ⟨[aa, aa, aa, (Zaz l k), aa, aa, aa, aa, aa, (Zay tl nl sl_ l), (Zb0 l), (Zb1 k)], (Zb2 l k)⟩) (fun (k : Nat) => (k ≤ l.length)) (fun (k : Nat) => l.length - k) (0) (Nat.zero_le _) (fun _ _ hG => Gs.iI [0] (bm 12 3592) rfl rfl hG) ?_
 rintro k hk
 show T _ _ ⟨[aa, aa, aa, (Zaz l k), aa, aa, aa, aa, aa, (Zay tl nl sl_ l), (Zb0 l), (Zb1 k)], (Zb2 l k)⟩ _ _
 replace hk : k ≤ l.length := hk
 have hfk := fill_len ([] : List UInt8) (l.map envB) k
 refine sR [] ?_
 refine T.seq ?_
 by_cases hq1 : ((k : Nat) : Int) < ((l.length : Nat) : Int)
 ·have hrm := flat_room (z := zE) envB (l := l) (k := k) (by omega); have hrm2 : (l.flatMap envB).length = (envsB l).length := rfl
  refine cT (dT hq1) ?_
  refine T.skip (nT (T.seq ?_))
  refine T.block ?_
  refine sR [hR 1 rfl rfl (q_index tl nl (kE sl_) l k (k := .i64) (i := ((k : Nat) : Int)) Tryz.underlying36 iat_35 rfl rfl (by omega) (lt_of rfl) trivial)] ?_
  refine xR [hR 3 rfl rfl (rCn (msg_putEnvelope false false ([] : List UInt8) sl_ (l.getD k zE) (by (simp [maxLen, -List.getD_eq_getElem?_getD] <;> omega))) Tryz.func101 [2] [(.const (.slice none 0 0), dv (.slice none 0 0)), (.tmp 18, .tv (.agg (Zb4 sl_ l k)))] 0 1 ⟨.inr (.inr ⟨rfl, rfl, rfl⟩), ⟨⟨.inl ⟨rfl, rfl⟩, ⟨.inl ⟨rfl, rfl⟩, trivial⟩⟩, trivial⟩⟩ ⟨rfl, trivial⟩),
    hR 4 rfl rfl (r_indexO (k := .i64) (l := 0) (sz := (kSl false kU8).sz) (off := 0) (n := (fillL [] (l.map envB) k).length) (i := ((k : Nat) : Int)) (m := k) (o' := k * (kSl false kU8).sz + 0) Tryz.underlying79 iat_33 rfl rfl (by omega) (by simp) (lt_of rfl) trivial),
    hR 5 rfl rfl (ORule.frz 1 19 2 5 kU8 (([] : List UInt8) ++ envB (l.getD k zE)) (av := ownV 2 kU8 0 (([] : List UInt8) ++ envB (l.getD k zE)).length) (q_storeA 0 33 (kSl false kU8) (fillL [] (l.map envB) k) (([] : List UInt8) ++ envB (l.getD k zE)) k 0 1 [dsl false false kU8 (([] : List UInt8) ++ envB (l.getD k zE))] (tv := .one (dU (([] : List UInt8) ++ envB (l.getD k zE)))) (off := k * (kSl false kU8).sz + 0) cells_33 ⟨.inl rfl, trivial⟩ rfl rfl (by omega) (by decide) rfl (by intro j hj; replace hj : j < 1 := hj; rcases j with _ | j <;> first | rfl | omega) trivial) rfl (.inr (.inr ⟨rfl, rfl, rfl, (fun h => by cases h), rfl, rfl, Nat.le_of_eq (Nat.zero_add _), fun i j _ => by rw [Nat.zero_add]⟩)) (by intro h; cases h) rfl rfl)] (by kernel_rfl) (by kernel_rfl) ?_
  refine nB ?_
  refine nT ?_
  refine xK [hR 0 rfl rfl (r_bin (u1 := .int .i64 ((k : Nat) : Int)) (u2 := .int .i64 1) (v := .int .i64 ((k + 1 : Nat) : Int)) (b_add (by rw [IntKind.wrap_i64]; omega)) (lt_of rfl) ⟨rfl, trivial⟩)] ?_
  refine eN ⟨(Zb7 tl nl sl_ l k), [.live (arrK 33 (kSl false kU8) ((fillL [] (l.map envB) k).set k (([] : List UInt8) ++ envB (l.getD k zE)))), .live (.box 35 (Zb4 sl_ l k)), .dead]⟩ ?_
  refine Ends.turn (s' := ⟨(Zb7 tl nl sl_ l k), [(Zb8 l k), .live (.box 35 (Zb4 sl_ l k)), .dead]⟩) (fun _ _ hG => Gs.trunc 0 33 (kSl false kU8) ((fillL [] (l.map envB) k).set k (([] : List UInt8) ++ envB (l.getD k zE))) (((fillL [] (l.map envB) k).set k (([] : List UInt8) ++ envB (l.getD k zE))).take (fillL [] (l.map envB) k).length) (fillL [] (l.map envB) k).length rfl rfl hG) ?_
  refine nL (k + 1) (show (k + 1) ≤ l.length from (by omega)) (show (l.length - (k + 1) : Nat) < l.length - k from (by omega)) (fun _ _ hG => Gs.iI [0] (bm 12 3592) (t2 := [aa, aa, aa, (Zaz l k), aa, aa, aa, aa, aa, (Zay tl nl sl_ l), (Zb0 l), (Zb5 k)]) (h2 := [(Zb8 l k)]) (by have e1 : ((fillL [] (l.map envB) (k + 1)).length : Nat) = (fillL [] (l.map envB) k).length := (by (simp only [fill_len, List.length_set])); have hE := congrArg (fun (q1 : Nat) => ([aa, aa, aa, ownV 0 (kSl false kU8) 0 q1, aa, aa, aa, aa, aa, (Zay tl nl sl_ l), (Zb0 l), (Zb5 k)] : List AV)) e1; exact hE) (by have e1 : ((fillL [] (l.map envB) (k + 1)) : List (List UInt8)) = (((fillL [] (l.map envB) k).set k (([] : List UInt8) ++ envB (l.getD k zE))).take (fillL [] (l.map envB) k).length) := (by (rw [← fill_set (by rw [hml]; omega), map_get (by omega), List.take_of_length_le (by rw [List.length_set]; exact Nat.le_refl _)]; rfl)); have hE := congrArg (fun (q1 : List (List UInt8)) => ([.live (arrK 33 (kSl false kU8) q1)] : List HS)) e1; exact hE) hG)
 refine cF (dF hq1) ?_
 refine T.exit ?_
 refine xT ?_
 refine xT ?_
 refine xH ?_
 refine nT ?_
 refine tN ⟨[aa, aa, aa, (Zaz l k), aa, aa, aa, aa, aa, (Zay tl nl sl_ l), (Zb0 l), (Zb1 k), (Zb6 l k)], (Zb2 l k)⟩ ?_
 refine T.turn (s' := ⟨(Zba tl nl sl_ l k), [(Zbb l)]⟩) (fun _ _ hG => Gs.iI [0] (bm 13 7688) (t2 := [aa, aa, aa, (Zaz l k), aa, aa, aa, aa, aa, (Zay tl nl sl_ l), (Zb0 l), (Zb1 k), (Zb6 l k)]) (h2 := (Zb2 l k)) (by have e1 : ((l.map envB).length : Nat) = (fillL [] (l.map envB) k).length := (by (rw [fill_end (by omega)])); have hE := congrArg (fun (q1 : Nat) => ([aa, aa, aa, ownV 0 (kSl false kU8) 0 q1, aa, aa, aa, aa, aa, (Zay tl nl sl_ l), (Zb0 l), (Zb1 k), (Zb6 l k)] : List AV)) e1; exact hE) (by have e1 : ((l.map envB) : List (List UInt8)) = (fillL [] (l.map envB) k) := (by (rw [fill_end (by omega)])); have hE := congrArg (fun (q1 : List (List UInt8)) => ([.live (arrK 33 (kSl false kU8) q1)] : List HS)) e1; exact hE) hG) ?_
 refine sR [hR 1 rfl rfl (r_call (term_Of (8 : UInt8) true false false (l.map envB) (by omega)) Tryz.func102 rfl (by decide) [] [0] (l := [(.const (.int .u8 8), dv (.int .u8 8)), (.tmp 22, ownV 0 (kSl false kU8) 0 (l.map envB).length)]) [(0, (Zbb l))] rfl 0 0 rfl rfl rfl rfl rfl rfl rfl rfl rfl ⟨.inl ⟨rfl, rfl⟩, ⟨.inr (.inl ⟨rfl, (fun h => by cases h), rfl, rfl, by simp, 33, (l.map envB).length, elOf (kSl false kU8) (l.map envB), List.Mem.head _, (by exact Nat.le_of_eq (Nat.zero_add _)), fun i j => by rw [Nat.zero_add]⟩), trivial⟩⟩ rfl (by intro b hb; simp only [List.mem_cons, List.not_mem_nil, or_false] at hb; rcases hb with rfl; exact ⟨_, List.Mem.head _⟩) (.inr ⟨trivial, trivial⟩) (lt_of rfl) ⟨rfl, trivial⟩)] ?_
 refine T.ret ?_
 exact eRt 2 (.one (dS (ofB (8 : UInt8) (l.map envB)))) [] (congrArg (fun (q1 : List UInt8) => (dv (strV q1) : AV)) (by rfl)) trivial
section
variable (tl : Bool) (nl : Bool) (sl_ : Bool) (l : List aE) (k : Nat)
abbrev Zbc : AV := slV tl nl (kE sl_) l
abbrev Zbd : AV := ownV 0 (kSl false kU8) 0 ((l.map envB).take k).length
abbrev Zbe : AV := vI ((k : Nat) : Int)
abbrev Zbf : List HS := [.live (arrK 33 (kSl false kU8) ((l.map envB).take k))]
abbrev Zbg : AV := vI ((k + 1 : Nat) : Int)
abbrev Zbh : AV := vB (decide (((k : Nat) : Int) < ((l.length : Nat) : Int)))
abbrev Zbi : List AV := [(Zbc tl nl sl_ l), aa, aa, ownV 0 (kSl false kU8) 0 (l.map envB).length, (Zbe k), aa, aa, aa, (Zbh l k)]
abbrev Zbj : HS := .live (arrK 33 (kSl false kU8) (l.map envB))
end
theorem ref12_Batch (tl : Bool) (nl : Bool) (sl_ : Bool) (l : List aE) (hb : (envsB l).length ≤ 1000000000) : Holds Tryz.prog 15 ⟨[slV tl nl (kE sl_) l], [], dv (strV (bchB l)), []⟩ := by
 refine Holds.of Tryz.func15 rfl (N := 21) Tryz.ntmps15 rfl fun w0 B0 S0 U0 => ?_
 show T _ (mkBase 21 0 w0 S0 U0 B0) ⟨[(Zbc tl nl sl_ l)], []⟩ _ _
 have hsz := szP_envs l
 have hml : (l.map envB).length = l.length := List.length_map ..
 have hlc := list_cnt l
 have hll := list_len l
 refine sR [] ?_
 refine sR [] ?_
 refine T.seq ?_
 refine sR [] ?_
 refine T.block ?_
 refine tN ⟨[(Zbc tl nl sl_ l), aa, dv (strV []), dv (.slice none 0 0), vI 0], []⟩ ?_
 refine T.turn (s' := ⟨[(Zbc tl nl sl_ l), aa, dv (strV []), ownV 0 (kSl false kU8) 0 0, vI 0], [.live (arrK 33 (kSl false kU8) ([] : List (List UInt8)))]⟩) (fun _ _ hG => Gs.absent 0 3 33 (kSl false kU8) rfl rfl hG) ?_
 refine T.loop (ι := Nat) (fun (k : Nat) => ⟨[(Zbc tl nl sl_ l), aa, aa, (Zbd l k), (Zbe k)], (Zbf l k)⟩) (fun (k : Nat) => (k ≤ l.length)) (fun (k : Nat) => l.length - k) (0) (Nat.zero_le _) (fun _ _ hG => Gs.iI [0] (bm 5 25) (t2 := [(Zbc tl nl sl_ l), aa, aa, ownV 0 (kSl false kU8) 0 0, vI 0]) (h2 := [.live (arrK 33 (kSl false kU8) ([] : List (List UInt8)))]) (congrArg (fun (q1 : Nat) => ([(Zbc tl nl sl_ l), aa, aa, ownV 0 (kSl false kU8) 0 q1, vI 0] : List AV)) (by rfl)) (congrArg (fun (q1 : List (List UInt8)) => ([.live (arrK 33 (kSl false kU8) q1)] : List HS)) (by rfl)) hG) ?_
 rintro k hk
 show T _ _ ⟨[(Zbc tl nl sl_ l), aa, aa, (Zbd l k), (Zbe k)], (Zbf l k)⟩ _ _
 replace hk : k ≤ l.length := hk
 have htk : ((l.map envB).take k).length = k := (by rw [List.length_take]; omega)
 refine T.seq ?_
 refine sR [] ?_
 by_cases hq1 : ((k : Nat) : Int) < ((l.length : Nat) : Int)
 ·have hrm := flat_room (z := zE) envB (l := l) (k := k) (by omega); have hrm2 : (l.flatMap envB).length = (envsB l).length := rfl
  refine cT (dT hq1) ?_
  refine T.skip (nT (T.seq ?_))
  refine T.block ?_
  refine xR [hR 3 rfl rfl (q_index tl nl (kE sl_) l k (k := .i64) (i := ((k : Nat) : Int)) Tryz.underlying36 iat_35 rfl rfl (by omega) (lt_of rfl) trivial),
    hR 5 rfl rfl (rCn (ref12_Envelope false false ([] : List UInt8) sl_ (l.getD k zE) (by (simp [maxLen, -List.getD_eq_getElem?_getD] <;> omega))) Tryz.func33 [1] [(.const (.slice none 0 0), dv (.slice none 0 0)), (.tmp 15, .tv (.agg [dI (l.getD k zE).f_Signer, .d (dsl sl_ false kU8 (l.getD k zE).f_Body)]))] 0 1 ⟨.inr (.inr ⟨rfl, rfl, rfl⟩), ⟨⟨.inl ⟨rfl, rfl⟩, ⟨.inl ⟨rfl, rfl⟩, trivial⟩⟩, trivial⟩⟩ ⟨rfl, trivial⟩),
    hR 6 rfl rfl (ORule.frz 0 16 1 5 kU8 (([] : List UInt8) ++ envB (l.getD k zE)) (av := ownV 1 kU8 0 (([] : List UInt8) ++ envB (l.getD k zE)).length) (q_buildSlice 2 33 (kSl false kU8) (kSl_ok false kU8) [([] : List UInt8) ++ envB (l.getD k zE)] [⟨0, .tmp 16, .one (dU (([] : List UInt8) ++ envB (l.getD k zE))), 0⟩] (cs := [dU (([] : List UInt8) ++ envB (l.getD k zE))]) Tryz.underlying79 iat_33 rfl zero_33 rfl rfl rfl (Nat.le_of_ble_eq_true rfl) (part_cons rfl rfl (Nat.le_of_ble_eq_true rfl) part_ok) (by kernel_rfl) (wk_eq (by kernel_rfl)) (lt_of rfl) trivial) rfl (.inr (.inr ⟨rfl, rfl, rfl, (fun h => by cases h), rfl, rfl, Nat.le_of_eq (Nat.zero_add _), fun i j _ => by rw [Nat.zero_add]⟩)) (by intro h; cases h) rfl rfl),
    hR 7 rfl rfl (q_appendO 0 3 33 24 (kSl false kU8) (kSl_ok false kU8) ((l.map envB).take k) [([] : List UInt8) ++ envB (l.getD k zE)] (((l.map envB).take k) ++ [([] : List UInt8) ++ envB (l.getD k zE)]) ((l.map envB).take k).length (sy := (.own 2 (kSl false kU8).sz 0 [([] : List UInt8) ++ envB (l.getD k zE)].length)) (rhs := [(2, .live (arrK 33 (kSl false kU8) [([] : List UInt8) ++ envB (l.getD k zE)]))]) elem_79 (by omega) (src_own 2 33 (kSl false kU8) [([] : List UInt8) ++ envB (l.getD k zE)]) (by rw [List.take_length]) (by (simp [maxLen, -List.getD_eq_getElem?_getD] <;> omega)) (by (simp [maxLen, -List.getD_eq_getElem?_getD] <;> omega)) (lt_of rfl) trivial)] (by kernel_rfl) (by kernel_rfl) ?_
  refine nB ?_
  refine nT ?_
  refine xK [hR 1 rfl rfl (r_bin (u1 := .int .i64 ((k : Nat) : Int)) (u2 := .int .i64 1) (v := .int .i64 ((k + 1 : Nat) : Int)) (b_add (by rw [IntKind.wrap_i64]; omega)) (lt_of rfl) ⟨rfl, trivial⟩)] ?_
  refine nL (k + 1) (show (k + 1) ≤ l.length from (by omega)) (show (l.length - (k + 1) : Nat) < l.length - k from (by omega)) (fun _ _ hG => Gs.i2 [3] (bm 5 25) (t1 := [(Zbc tl nl sl_ l), aa, aa, ownV 3 (kSl false kU8) 0 ((l.map envB).take (k + 1)).length, (Zbg k)]) (t2 := [(Zbc tl nl sl_ l), aa, aa, ownV 3 (kSl false kU8) 0 (((l.map envB).take k) ++ [([] : List UInt8) ++ envB (l.getD k zE)]).length, (Zbg k)]) (h1 := [.live (arrK 33 (kSl false kU8) ((l.map envB).take (k + 1)))]) (h2 := [.live (arrK 33 (kSl false kU8) (((l.map envB).take k) ++ [([] : List UInt8) ++ envB (l.getD k zE)]))]) (by have e1 : (((l.map envB).take (k + 1)).length : Nat) = (((l.map envB).take k) ++ [([] : List UInt8) ++ envB (l.getD k zE)]).length := (by (rw [tk_succ (z := []) (by omega), map_get (by omega)]; rfl)); have hE := congrArg (fun (q1 : Nat) => ([(Zbc tl nl sl_ l), aa, aa, ownV 3 (kSl false kU8) 0 q1, (Zbg k)] : List AV)) e1; exact hE) (by have e1 : (((l.map envB).take (k + 1)) : List (List UInt8)) = ((l.map envB).take k) ++ [([] : List UInt8) ++ envB (l.getD k zE)] := (by (rw [tk_succ (z := []) (by omega), map_get (by omega)]; rfl)); have hE := congrArg (fun (q1 : List (List UInt8)) => ([.live (arrK 33 (kSl false kU8) q1)] : List HS)) e1; exact hE) hG)
 refine cF (dF hq1) ?_
 refine T.exit ?_
 refine xT ?_
 refine xT ?_
 refine xH ?_
 refine nT ?_
 refine tN ⟨[(Zbc tl nl sl_ l), aa, aa, (Zbd l k), (Zbe k), aa, aa, aa, (Zbh l k)], (Zbf l k)⟩ ?_
 refine T.turn (s' := ⟨(Zbi tl nl sl_ l k), [(Zbj l)]⟩) (fun _ _ hG => Gs.iI [0] (bm 9 281) (t2 := [(Zbc tl nl sl_ l), aa, aa, (Zbd l k), (Zbe k), aa, aa, aa, (Zbh l k)]) (h2 := (Zbf l k)) (by have e1 : ((l.map envB).length : Nat) = ((l.map envB).take k).length := (by (rw [List.take_of_length_le (by omega)])); have hE := congrArg (fun (q1 : Nat) => ([(Zbc tl nl sl_ l), aa, aa, ownV 0 (kSl false kU8) 0 q1, (Zbe k), aa, aa, aa, (Zbh l k)] : List AV)) e1; exact hE) (by have e1 : ((l.map envB) : List (List UInt8)) = ((l.map envB).take k) := (by (rw [List.take_of_length_le (by omega)])); have hE := congrArg (fun (q1 : List (List UInt8)) => ([.live (arrK 33 (kSl false kU8) q1)] : List HS)) e1; exact hE) hG) ?_
 refine sR [hR 1 rfl rfl (r_call (ref02_Of (8 : UInt8) true false false (l.map envB) (by omega)) Tryz.func34 rfl (by decide) [] [0] (l := [(.const (.int .u8 8), dv (.int .u8 8)), (.tmp 19, ownV 0 (kSl false kU8) 0 (l.map envB).length)]) [(0, (Zbj l))] rfl 0 0 rfl rfl rfl rfl rfl rfl rfl rfl rfl ⟨.inl ⟨rfl, rfl⟩, ⟨.inr (.inl ⟨rfl, (fun h => by cases h), rfl, rfl, by simp, 33, (l.map envB).length, elOf (kSl false kU8) (l.map envB), List.Mem.head _, (by exact Nat.le_of_eq (Nat.zero_add _)), fun i j => by rw [Nat.zero_add]⟩), trivial⟩⟩ rfl (by intro b hb; simp only [List.mem_cons, List.not_mem_nil, or_false] at hb; rcases hb with rfl; exact ⟨_, List.Mem.head _⟩) (.inr ⟨trivial, trivial⟩) (lt_of rfl) ⟨rfl, trivial⟩)] ?_
 refine T.ret ?_
 exact eRt 2 (.one (dS (ofB (8 : UInt8) (l.map envB)))) [] (congrArg (fun (q1 : List UInt8) => (dv (strV q1) : AV)) (by rfl)) trivial
end Go.Proofs.YtalapplihdmenaaGreat.Q
