import Derived.Test.YtalapplihdmenaaGreatC13n22
namespace Go.Proofs.YtalapplihdmenaaGreat.Q
open Go Go.RowKit
set_option linter.unusedVariables false
set_option linter.unusedSimpArgs false
set_option maxRecDepth 100000
set_option maxHeartbeats 4000000
section
variable (f : Int) (u : Int) (rows : List (authn_pair × Bool)) (te : Bool) (e : aE)
abbrev Zd5 : List SV := [dI e.f_Signer, .d (dsl te false kU8 e.f_Body)]
abbrev Zd6 : HS := .live (.box 98 [dI (3 * f + 1), dI u, .mref 1])
abbrev Zd7 : List AV := [pv 0 0, .tv (.agg (Zd5 te e)), aa, pv 2 0, pv 3 0, vI (opE (checkE f u rows) e 2), pv 4 0, vI (opE (checkE f u rows) e 2), aa, aa, aa, aa, aa, aa, aa, aa, aa, aa, vB (decide ((opE (checkE f u rows) e 2) ≠ 0)), aa, aa, aa, aa, aa, aa, aa, aa, aa, aa, aa, aa, aa, aa, aa, aa, aa, aa, vB (decide ((opE (checkE f u rows) e 2) ≠ 0))]
abbrev Zd8 : SV := .d (.val (.slice none 0 0))
abbrev Zd9 := (opV (checkE f u rows) e 2)
abbrev Zda : List SV := [dI (Zd9 f u rows e).f_Kind, dI (Zd9 f u rows e).f_View, dI (Zd9 f u rows e).f_Seq, dI (Zd9 f u rows e).f_Client, dI (Zd9 f u rows e).f_Stamp, dS (Zd9 f u rows e).f_Digest, dU (Zd9 f u rows e).f_Data, dI (Zd9 f u rows e).f_Result.f_Code, dI (Zd9 f u rows e).f_Result.f_Stage, .d (dsl false false (kE false) (Zd9 f u rows e).f_Batch), .d (dsl false false (kE false) (Zd9 f u rows e).f_Pres), .d (dsl false false (kC false) (Zd9 f u rows e).f_Certs)]
abbrev Zdb : List HS := [(Zd6 f u), .live (mpK f_authn_pair kBool rows), .live (.box 35 (Zd5 te e)), .live (.box 46 [dI 0, dI 0, dI 0, dI 0, dI 0, dS [], Zd8, dI 0, dI 0, Zd8, Zd8, Zd8]), .live (.box 46 (Zda f u rows e))]
abbrev Zdc : SV := dU ([] : List UInt8)
abbrev Zdd : SV := .d (dsl false false (kE false) ([] : List aE))
abbrev Zde : SV := .d (dsl false false (kC false) ([] : List aC))
abbrev Zdf : List SV := [dI 0, dI 0, dI 0, dI 0, dI 0, dS [], Zdc, dI 0, dI 0, Zdd, Zdd, Zde]
abbrev Zdg : List HS := [(Zd6 f u), .live (mpK f_authn_pair kBool rows), .live (.box 35 (Zd5 te e)), .live (.box 46 Zdf), .live (.box 46 (Zda f u rows e))]
abbrev Zdh : List AV := [pv 0 0, .tv (.agg (Zd5 te e)), aa, pv 2 0, pv 3 0, vI 133, pv 4 0, vI 133, aa, aa, aa, aa, aa, aa, aa, aa, aa, aa, vB (decide ((opE (checkE f u rows) e 2) ≠ 0)), aa, aa, vB (decide (e.f_Signer ≠ (primaryA f (Zd9 f u rows e).f_View))), aa, aa, aa, aa, aa, aa, aa, aa, aa, aa, aa, aa, aa, aa, aa, vB true]
abbrev Zdi : List AV := [pv 0 0, .tv (.agg (Zd5 te e)), aa, pv 2 0, pv 3 0, vI 132, pv 4 0, vI 132, aa, aa, aa, aa, aa, aa, aa, aa, aa, aa, vB (decide ((opE (checkE f u rows) e 2) ≠ 0)), aa, aa, vB (decide (e.f_Signer ≠ (primaryA f (Zd9 f u rows e).f_View))), aa, aa, aa, aa, aa, aa, aa, vB (decide ((Zd9 f u rows e).f_Digest ≠ (bchB (Zd9 f u rows e).f_Batch))), aa, aa, aa, aa, aa, aa, aa, vB true]
abbrev Zdj : List AV := [pv 0 0, .tv (.agg (Zd5 te e)), aa, pv 2 0, pv 3 0, vI (btE (checkE f u rows) f (Zd9 f u rows e).f_Batch), pv 4 0, vI (btE (checkE f u rows) f (Zd9 f u rows e).f_Batch), aa, aa, aa, aa, aa, aa, aa, aa, aa, aa, vB (decide ((opE (checkE f u rows) e 2) ≠ 0)), aa, aa, vB (decide (e.f_Signer ≠ (primaryA f (Zd9 f u rows e).f_View))), aa, aa, aa, aa, aa, aa, aa, vB (decide ((Zd9 f u rows e).f_Digest ≠ (bchB (Zd9 f u rows e).f_Batch))), aa, aa, aa, aa, aa, aa, aa, vB (decide ((btE (checkE f u rows) f (Zd9 f u rows e).f_Batch) ≠ 0))]
end
theorem cert_PrePrepare (f : Int) (u : Int) (rows : List (authn_pair × Bool)) (te : Bool) (e : aE) (hf : 0 ≤ f ∧ f ≤ 2) (hu : 0 ≤ u ∧ u ≤ 8) (hs : -9223372036854775808 ≤ e.f_Signer ∧ e.f_Signer ≤ 9223372036854775807) (hb : e.f_Body.length ≤ 100000000) : Holds Tryz.prog 53 ⟨[pv 0 0, .tv (.agg [dI e.f_Signer, .d (dsl te false kU8 e.f_Body)])], [.box 98 [dI (3 * f + 1), dI u, .mref 1], mpK f_authn_pair kBool rows], .tup [.agg [dI (ppV (checkE f u rows) f e).f_Kind, dI (ppV (checkE f u rows) f e).f_View, dI (ppV (checkE f u rows) f e).f_Seq, dI (ppV (checkE f u rows) f e).f_Client, dI (ppV (checkE f u rows) f e).f_Stamp, dS (ppV (checkE f u rows) f e).f_Digest, dU (ppV (checkE f u rows) f e).f_Data, dI (ppV (checkE f u rows) f e).f_Result.f_Code, dI (ppV (checkE f u rows) f e).f_Result.f_Stage, .d (dsl false false (kE false) (ppV (checkE f u rows) f e).f_Batch), .d (dsl false false (kE false) (ppV (checkE f u rows) f e).f_Pres), .d (dsl false false (kC false) (ppV (checkE f u rows) f e).f_Certs)], .one (dI (ppE (checkE f u rows) f e))], [.live (.box 98 [dI (3 * f + 1), dI u, .mref 1]), .live (mpK f_authn_pair kBool rows)]⟩ := by
 refine Holds.of Tryz.func53 rfl (N := 41) Tryz.ntmps53 rfl fun w0 B0 S0 U0 => ?_
 show T _ (mkBase 41 2 w0 S0 U0 B0) ⟨[pv 0 0, .tv (.agg (Zd5 te e))], [(Zd6 f u), .live (mpK f_authn_pair kBool rows)]⟩ _ _
 refine sR [] ?_
 refine sR [hR 2 rfl rfl (rCa (cert_open f u rows te e 2 ‹_› ‹_› ‹_› ‹_›) Tryz.func50 [0, 1] [(.tmp 9, pv 0 0), (.tmp 10, .tv (.agg (Zd5 te e))), (.const (.int .i64 2), vI 2)] 2 2)] ?_
 refine T.seq ?_
 refine T.block ?_
 refine sR [] ?_
 by_cases hq1 : (opE (checkE f u rows) e 2) ≠ 0
 ·have ho9 := hq1; have hx9 := pp_o (f := f) ho9
  refine cT (dT hq1) ?_
  refine T.skip ?_
  refine nB ?_
  refine nT (T.seq ?_)
  refine sR [] ?_
  refine cT (dT hq1) ?_
  refine sR [] ?_
  refine T.ret (rT ?_)
  refine eN ⟨(Zd7 f u rows te e), (Zdb f u rows te e)⟩ ?_
  refine Ends.turn (s' := ⟨(Zd7 f u rows te e), (Zdg f u rows te e)⟩) (fun _ _ hG => Gs.less (s := ⟨(Zd7 f u rows te e), (Zdb f u rows te e)⟩) (kk2 (kk4 (kk32 trivial))) ⟨.inl rfl, (kk2 ⟨(.inr ⟨rfl, (kk2 (kk4 ⟨(.inr ⟨rfl, rfl, rfl⟩), (kk2 ⟨(.inr ⟨rfl, rfl, rfl⟩), ⟨(.inr ⟨rfl, rfl, rfl⟩), ⟨(.inr ⟨rfl, rfl, rfl⟩), trivial⟩⟩⟩)⟩))⟩), ⟨.inl rfl, trivial⟩⟩)⟩ hG) ?_
  exact eX [.c 4 3 46 0 46 [dI 0, dI 0, dI 0, dI 0, dI 0, dS [], Zdc, dI 0, dI 0, Zdd, Zdd, Zde] (.agg Zdf), .t 5 (.one (dI (opE (checkE f u rows) e 2)))] ⟨⟨rfl, rfl, by kernel_rfl, by kernel_rfl, .inl ⟨12, wide_46, rfl, Nat.le_of_ble_eq_true rfl⟩⟩, ⟨⟨rfl, by kernel_rfl⟩, trivial⟩⟩ [0, 1] (gc2 (hx9.1) (by exact hx9.2) (fun qq0 (q13 : Int) => (.tup [.agg [dI (qq0.f_Kind), dI (qq0.f_View), dI (qq0.f_Seq), dI (qq0.f_Client), dI (qq0.f_Stamp), dS (qq0.f_Digest), dU (qq0.f_Data), dI (qq0.f_Result.f_Code), dI (qq0.f_Result.f_Stage), .d (dsl false false (kE false) (qq0.f_Batch)), .d (dsl false false (kE false) (qq0.f_Pres)), .d (dsl false false (kC false) (qq0.f_Certs))], .one (dI q13)] : AV))) (ix (ix trivial))
 have ho9 : ¬ opE (checkE f u rows) e 2 ≠ 0 := hq1; have hv9 := op_val ho9; have hbo := decV_bat e.f_Body; rw [← hv9] at hbo; have hbl := okEs_le hbo
 refine cF (dF hq1) ?_
 refine sD [[], [0], [], [], [3], [2, 3, 4], [0, 1, 2, 3, 4, 5], [0, 1, 2, 3, 4, 5, 6]] [hR 5 rfl rfl (rCa (authn_Primary f u rows (opV (checkE f u rows) e 2).f_View ‹_› ‹_›) Tryz.func72 [0, 1] [(.tmp 24, pv 0 0), (.tmp 26, vI (Zd9 f u rows e).f_View)] 2 2)] ?_
 by_cases hq2 : e.f_Signer ≠ (primaryA f (opV (checkE f u rows) e 2).f_View)
 ·have hp9 := hq2; rw [hv9] at hp9; have hx9 := pp_p ho9 hp9
  refine cT (dT hq2) ?_
  refine xK [] ?_
  refine nB ?_
  refine nT (T.seq ?_)
  refine sR [] ?_
  refine cT (b := true) rfl ?_
  refine sR [] ?_
  refine T.ret (rT ?_)
  refine eN ⟨(Zdh f u rows te e), (Zdb f u rows te e)⟩ ?_
  refine Ends.turn (s' := ⟨(Zdh f u rows te e), (Zdg f u rows te e)⟩) (fun _ _ hG => Gs.less (s := ⟨(Zdh f u rows te e), (Zdb f u rows te e)⟩) (kk2 (kk4 (kk32 trivial))) ⟨.inl rfl, (kk2 ⟨(.inr ⟨rfl, (kk2 (kk4 ⟨(.inr ⟨rfl, rfl, rfl⟩), (kk2 ⟨(.inr ⟨rfl, rfl, rfl⟩), ⟨(.inr ⟨rfl, rfl, rfl⟩), ⟨(.inr ⟨rfl, rfl, rfl⟩), trivial⟩⟩⟩)⟩))⟩), ⟨.inl rfl, trivial⟩⟩)⟩ hG) ?_
  exact eX [.c 4 3 46 0 46 [dI 0, dI 0, dI 0, dI 0, dI 0, dS [], Zdc, dI 0, dI 0, Zdd, Zdd, Zde] (.agg Zdf), .t 5 (.one (dI 133))] ⟨⟨rfl, rfl, by kernel_rfl, by kernel_rfl, .inl ⟨12, wide_46, rfl, Nat.le_of_ble_eq_true rfl⟩⟩, ⟨⟨rfl, by kernel_rfl⟩, trivial⟩⟩ [0, 1] (gc2 (hx9.1) (by exact hx9.2) (fun qq0 (q13 : Int) => (.tup [.agg [dI (qq0.f_Kind), dI (qq0.f_View), dI (qq0.f_Seq), dI (qq0.f_Client), dI (qq0.f_Stamp), dS (qq0.f_Digest), dU (qq0.f_Data), dI (qq0.f_Result.f_Code), dI (qq0.f_Result.f_Stage), .d (dsl false false (kE false) (qq0.f_Batch)), .d (dsl false false (kE false) (qq0.f_Pres)), .d (dsl false false (kC false) (qq0.f_Certs))], .one (dI q13)] : AV))) (ix (ix trivial))
 have hp9 := hq2; rw [hv9] at hp9
 refine cF (dF hq2) ?_
 refine sD [[], [0], [], [2], [2, 3], [0, 1, 2, 3, 4], [0, 1, 2, 3, 4, 5]] [hR 4 rfl rfl (rCa (msg_Batch false false false (opV (checkE f u rows) e 2).f_Batch (by omega)) Tryz.func73 [] [(.tmp 33, slV false false (kE false) (Zd9 f u rows e).f_Batch)] 0 0)] ?_
 by_cases hq3 : (opV (checkE f u rows) e 2).f_Digest ≠ (bchB (opV (checkE f u rows) e 2).f_Batch)
 ·have hd9 := hq3; rw [hv9] at hd9; have hx9 := pp_d ho9 hp9 hd9
  refine cT (dT hq3) ?_
  refine xK [] ?_
  refine nB ?_
  refine nT (T.seq ?_)
  refine sR [] ?_
  refine cT (b := true) rfl ?_
  refine sR [] ?_
  refine T.ret (rT ?_)
  refine eN ⟨(Zdi f u rows te e), (Zdb f u rows te e)⟩ ?_
  refine Ends.turn (s' := ⟨(Zdi f u rows te e), (Zdg f u rows te e)⟩) (fun _ _ hG => Gs.less (s := ⟨(Zdi f u rows te e), (Zdb f u rows te e)⟩) (kk2 (kk4 (kk32 trivial))) ⟨.inl rfl, (kk2 ⟨(.inr ⟨rfl, (kk2 (kk4 ⟨(.inr ⟨rfl, rfl, rfl⟩), (kk2 ⟨(.inr ⟨rfl, rfl, rfl⟩), ⟨(.inr ⟨rfl, rfl, rfl⟩), ⟨(.inr ⟨rfl, rfl, rfl⟩), trivial⟩⟩⟩)⟩))⟩), ⟨.inl rfl, trivial⟩⟩)⟩ hG) ?_
  exact eX [.c 4 3 46 0 46 [dI 0, dI 0, dI 0, dI 0, dI 0, dS [], Zdc, dI 0, dI 0, Zdd, Zdd, Zde] (.agg Zdf), .t 5 (.one (dI 132))] ⟨⟨rfl, rfl, by kernel_rfl, by kernel_rfl, .inl ⟨12, wide_46, rfl, Nat.le_of_ble_eq_true rfl⟩⟩, ⟨⟨rfl, by kernel_rfl⟩, trivial⟩⟩ [0, 1] (gc2 (hx9.1) (by exact hx9.2) (fun qq0 (q13 : Int) => (.tup [.agg [dI (qq0.f_Kind), dI (qq0.f_View), dI (qq0.f_Seq), dI (qq0.f_Client), dI (qq0.f_Stamp), dS (qq0.f_Digest), dU (qq0.f_Data), dI (qq0.f_Result.f_Code), dI (qq0.f_Result.f_Stage), .d (dsl false false (kE false) (qq0.f_Batch)), .d (dsl false false (kE false) (qq0.f_Pres)), .d (dsl false false (kC false) (qq0.f_Certs))], .one (dI q13)] : AV))) (ix (ix trivial))
 have hd9 := hq3; rw [hv9] at hd9
 refine cF (dF hq3) ?_
 refine xK [hR 3 rfl rfl (rCa (cert_Batch f u rows false false false (opV (checkE f u rows) e 2).f_Batch ‹_› ‹_› ‹_›) Tryz.func74 [0, 1] [(.tmp 14, pv 0 0), (.tmp 16, slV false false (kE false) (Zd9 f u rows e).f_Batch)] 2 2)] ?_
 refine nB ?_
 refine nT (T.seq ?_)
 refine sR [] ?_
 by_cases hq4 : (btE (checkE f u rows) f (opV (checkE f u rows) e 2).f_Batch) ≠ 0
 ·have hb9 := hq4; rw [hv9] at hb9; have hx9 := pp_b ho9 hp9 hd9 hb9
  refine cT (dT hq4) ?_
  refine sR [] ?_
  refine T.ret (rT ?_)
  refine eN ⟨(Zdj f u rows te e), (Zdb f u rows te e)⟩ ?_
  refine Ends.turn (s' := ⟨(Zdj f u rows te e), (Zdg f u rows te e)⟩) (fun _ _ hG => Gs.less (s := ⟨(Zdj f u rows te e), (Zdb f u rows te e)⟩) (kk2 (kk4 (kk32 trivial))) ⟨.inl rfl, (kk2 ⟨(.inr ⟨rfl, (kk2 (kk4 ⟨(.inr ⟨rfl, rfl, rfl⟩), (kk2 ⟨(.inr ⟨rfl, rfl, rfl⟩), ⟨(.inr ⟨rfl, rfl, rfl⟩), ⟨(.inr ⟨rfl, rfl, rfl⟩), trivial⟩⟩⟩)⟩))⟩), ⟨.inl rfl, trivial⟩⟩)⟩ hG) ?_
  exact eX [.c 4 3 46 0 46 [dI 0, dI 0, dI 0, dI 0, dI 0, dS [], Zdc, dI 0, dI 0, Zdd, Zdd, Zde] (.agg Zdf), .t 5 (.one (dI (btE (checkE f u rows) f (Zd9 f u rows e).f_Batch)))] ⟨⟨rfl, rfl, by kernel_rfl, by kernel_rfl, .inl ⟨12, wide_46, rfl, Nat.le_of_ble_eq_true rfl⟩⟩, ⟨⟨rfl, by kernel_rfl⟩, trivial⟩⟩ [0, 1] (gc2 (hx9.1) (show ((ppE (checkE f u rows) f e) : Int) = (btE (checkE f u rows) f (opV (checkE f u rows) e 2).f_Batch) from (by (rw [hx9.2, hv9]))) (fun qq0 (q13 : Int) => (.tup [.agg [dI (qq0.f_Kind), dI (qq0.f_View), dI (qq0.f_Seq), dI (qq0.f_Client), dI (qq0.f_Stamp), dS (qq0.f_Digest), dU (qq0.f_Data), dI (qq0.f_Result.f_Code), dI (qq0.f_Result.f_Stage), .d (dsl false false (kE false) (qq0.f_Batch)), .d (dsl false false (kE false) (qq0.f_Pres)), .d (dsl false false (kC false) (qq0.f_Certs))], .one (dI q13)] : AV))) (ix (ix trivial))
 have hb9 := hq4; rw [hv9] at hb9; have hx9 := pp_ok ho9 hp9 hd9 hb9
 refine cF (dF hq4) ?_
 refine T.skip (nT ?_)
 refine sR [] ?_
 refine T.ret ?_
 exact eX [.c 4 3 46 0 46 [dI (Zd9 f u rows e).f_Kind, dI (Zd9 f u rows e).f_View, dI (Zd9 f u rows e).f_Seq, dI (Zd9 f u rows e).f_Client, dI (Zd9 f u rows e).f_Stamp, dS (Zd9 f u rows e).f_Digest, dU (Zd9 f u rows e).f_Data, dI (Zd9 f u rows e).f_Result.f_Code, dI (Zd9 f u rows e).f_Result.f_Stage, .d (dsl false false (kE false) (Zd9 f u rows e).f_Batch), .d (dsl false false (kE false) (Zd9 f u rows e).f_Pres), .d (dsl false false (kC false) (Zd9 f u rows e).f_Certs)] (.agg (Zda f u rows e)), .t 5 (.one (dI 0))] ⟨⟨rfl, rfl, by kernel_rfl, by kernel_rfl, .inl ⟨12, wide_46, rfl, Nat.le_of_ble_eq_true rfl⟩⟩, ⟨⟨rfl, by kernel_rfl⟩, trivial⟩⟩ [0, 1] (by have e1 : ((ppV (checkE f u rows) f e).f_Kind : Int) = (opV (checkE f u rows) e 2).f_Kind := (by (rw [hx9.1, hv9]; done)); have e2 : ((ppV (checkE f u rows) f e).f_View : Int) = (opV (checkE f u rows) e 2).f_View := (by (rw [hx9.1, hv9]; done)); have e3 : ((ppV (checkE f u rows) f e).f_Seq : Int) = (opV (checkE f u rows) e 2).f_Seq := (by (rw [hx9.1, hv9]; done)); have e4 : ((ppV (checkE f u rows) f e).f_Client : Int) = (opV (checkE f u rows) e 2).f_Client := (by (rw [hx9.1, hv9]; done)); have e5 : ((ppV (checkE f u rows) f e).f_Stamp : Int) = (opV (checkE f u rows) e 2).f_Stamp := (by (rw [hx9.1, hv9]; done)); have e6 : ((ppV (checkE f u rows) f e).f_Digest : List UInt8) = (opV (checkE f u rows) e 2).f_Digest := (by (rw [hx9.1, hv9]; done)); have e7 : ((ppV (checkE f u rows) f e).f_Data : List UInt8) = (opV (checkE f u rows) e 2).f_Data := (by (rw [hx9.1, hv9]; done)); have e8 : ((ppV (checkE f u rows) f e).f_Result.f_Code : Int) = (opV (checkE f u rows) e 2).f_Result.f_Code := (by (rw [hx9.1, hv9]; done)); have e9 : ((ppV (checkE f u rows) f e).f_Result.f_Stage : Int) = (opV (checkE f u rows) e 2).f_Result.f_Stage := (by (rw [hx9.1, hv9]; done)); have e10 : ((ppV (checkE f u rows) f e).f_Batch : List aE) = (opV (checkE f u rows) e 2).f_Batch := (by (rw [hx9.1, hv9]; done)); have e11 : ((ppV (checkE f u rows) f e).f_Pres : List aE) = (opV (checkE f u rows) e 2).f_Pres := (by (rw [hx9.1, hv9]; done)); have e12 : ((ppV (checkE f u rows) f e).f_Certs : List aC) = (opV (checkE f u rows) e 2).f_Certs := (by (rw [hx9.1, hv9]; done)); have e13 : ((ppE (checkE f u rows) f e) : Int) = 0 := (by exact hx9.2); have hE := congr (congr (congr (congr (congr (congr (congr (congr (congr (congr (congr (congr (congrArg (fun (q1 : Int) (q2 : Int) (q3 : Int) (q4 : Int) (q5 : Int) (q6 : List UInt8) (q7 : List UInt8) (q8 : Int) (q9 : Int) (q10 : List aE) (q11 : List aE) (q12 : List aC) (q13 : Int) => (.tup [.agg [dI q1, dI q2, dI q3, dI q4, dI q5, dS q6, dU q7, dI q8, dI q9, .d (dsl false false (kE false) q10), .d (dsl false false (kE false) q11), .d (dsl false false (kC false) q12)], .one (dI q13)] : AV)) e1) e2) e3) e4) e5) e6) e7) e8) e9) e10) e11) e12) e13; exact hE) (ix (ix trivial))
end Go.Proofs.YtalapplihdmenaaGreat.Q
