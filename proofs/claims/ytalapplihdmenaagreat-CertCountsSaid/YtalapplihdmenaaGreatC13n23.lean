import Derived.Test.YtalapplihdmenaaGreatC13n22
namespace Go.Proofs.YtalapplihdmenaaGreat.Q
open Go Go.RowKit
set_option linter.unusedVariables false
set_option linter.unusedSimpArgs false
set_option maxRecDepth 100000
set_option maxHeartbeats 4000000
section
variable (f : Int) (u : Int) (l : List aE) (e : aE)
abbrev Zda : List SV := [dI e.f_Signer, dU e.f_Body]
abbrev Zdb : HS := .live (.box 75 [dB true, dI f, dI u, .own 1 (kE false).sz 0 l.length])
abbrev Zdc : AV := vB (decide ((opR (checkL f u l) e) ≠ 0))
abbrev Zdd : List AV := [pv 0 0, .tv (.agg (Zda e)), aa, pv 2 0, pv 3 0, vI (opR (checkL f u l) e), pv 4 0, vI (opR (checkL f u l) e), aa, aa, aa, aa, aa, aa, aa, (Zdc f u l e)]
abbrev Zde : SV := .d (.val (.slice none 0 0))
abbrev Zdf : List SV := [dI (orV (checkL f u l) e).f_Kind, dI (orV (checkL f u l) e).f_View, dI (orV (checkL f u l) e).f_Seq, dI (orV (checkL f u l) e).f_Client, dI (orV (checkL f u l) e).f_Stamp, dS (orV (checkL f u l) e).f_Digest, dU (orV (checkL f u l) e).f_Data, dI (orV (checkL f u l) e).f_Result.f_Code, dI (orV (checkL f u l) e).f_Result.f_Stage, .d (dsl false false (kE false) (orV (checkL f u l) e).f_Batch), .d (dsl false false (kE false) (orV (checkL f u l) e).f_Pres), .d (dsl false false (kC false) (orV (checkL f u l) e).f_Certs)]
abbrev Zdg : List HS := [(Zdb f u l), .live (arrK 35 (kE false) l), .live (.box 35 (Zda e)), .live (.box 46 [dI 0, dI 0, dI 0, dI 0, dI 0, dS [], Zde, dI 0, dI 0, Zde, Zde, Zde]), .live (.box 46 (Zdf f u l e))]
abbrev Zdh : SV := dU ([] : List UInt8)
abbrev Zdi : SV := .d (dsl false false (kE false) ([] : List aE))
abbrev Zdj : SV := .d (dsl false false (kC false) ([] : List aC))
abbrev Zdk : List SV := [dI 0, dI 0, dI 0, dI 0, dI 0, dS [], Zdh, dI 0, dI 0, Zdi, Zdi, Zdj]
abbrev Zdl : List HS := [(Zdb f u l), .live (arrK 35 (kE false) l), .live (.box 35 (Zda e)), .live (.box 46 Zdk), .live (.box 46 (Zdf f u l e))]
abbrev Zdm : AV := vB (decide ((orV (checkL f u l) e).f_Kind ≠ 2))
abbrev Zdn : List AV := [pv 0 0, .tv (.agg (Zda e)), aa, pv 2 0, pv 3 0, vI 120, pv 4 0, vI (opR (checkL f u l) e), aa, aa, aa, aa, aa, aa, aa, (Zdc f u l e), aa, aa, aa, aa, (Zdm f u l e)]
abbrev Zdo : List AV := [pv 0 0, .tv (.agg (Zda e)), aa, pv 2 0, pv 3 0, vI 133, pv 4 0, vI (opR (checkL f u l) e), aa, aa, aa, aa, aa, aa, aa, (Zdc f u l e), aa, aa, aa, aa, (Zdm f u l e), aa, aa, aa, aa, aa, aa, aa, vB (decide (e.f_Signer ≠ (primaryA f (orV (checkL f u l) e).f_View)))]
abbrev Zdp : List AV := [pv 0 0, .tv (.agg (Zda e)), aa, pv 2 0, pv 3 0, vI 132, pv 4 0, vI (opR (checkL f u l) e), aa, aa, aa, aa, aa, aa, aa, (Zdc f u l e), aa, aa, aa, aa, (Zdm f u l e), aa, aa, aa, aa, aa, aa, aa, vB (decide (e.f_Signer ≠ (primaryA f (orV (checkL f u l) e).f_View))), aa, aa, aa, aa, aa, aa, vB (decide ((orV (checkL f u l) e).f_Digest ≠ (bchB (orV (checkL f u l) e).f_Batch)))]
abbrev Zdq : List AV := [pv 0 0, .tv (.agg (Zda e)), aa, pv 2 0, pv 3 0, vI (btE (checkL f u l) f (orV (checkL f u l) e).f_Batch), pv 4 0, vI (btE (checkL f u l) f (orV (checkL f u l) e).f_Batch), aa, aa, aa, aa, aa, aa, aa, (Zdc f u l e), aa, aa, aa, aa, (Zdm f u l e), aa, aa, aa, aa, aa, aa, aa, vB (decide (e.f_Signer ≠ (primaryA f (orV (checkL f u l) e).f_View))), aa, aa, aa, aa, aa, aa, vB (decide ((orV (checkL f u l) e).f_Digest ≠ (bchB (orV (checkL f u l) e).f_Batch))), aa, aa, aa, aa, aa, aa, vB (decide ((btE (checkL f u l) f (orV (checkL f u l) e).f_Batch) ≠ 0))]
end
theorem ref13_PrePrepare (f : Int) (u : Int) (l : List aE) (e : aE) (hf : 0 ≤ f ∧ f ≤ 2) (hu : 0 ≤ u ∧ u ≤ 8) (hl : l.length ≤ 9223372036854775806) (hs : -9223372036854775808 ≤ e.f_Signer ∧ e.f_Signer ≤ 9223372036854775807) (hb : e.f_Body.length ≤ 100000000) : Holds Tryz.prog 56 ⟨[pv 0 0, .tv (.agg [dI e.f_Signer, dU e.f_Body])], [.box 75 [dB true, dI f, dI u, .own 1 (kE false).sz 0 l.length], arrK 35 (kE false) l], .tup [.agg [dI (ppV (checkL f u l) f e).f_Kind, dI (ppV (checkL f u l) f e).f_View, dI (ppV (checkL f u l) f e).f_Seq, dI (ppV (checkL f u l) f e).f_Client, dI (ppV (checkL f u l) f e).f_Stamp, dS (ppV (checkL f u l) f e).f_Digest, dU (ppV (checkL f u l) f e).f_Data, dI (ppV (checkL f u l) f e).f_Result.f_Code, dI (ppV (checkL f u l) f e).f_Result.f_Stage, .d (dsl false false (kE false) (ppV (checkL f u l) f e).f_Batch), .d (dsl false false (kE false) (ppV (checkL f u l) f e).f_Pres), .d (dsl false false (kC false) (ppV (checkL f u l) f e).f_Certs)], .one (dI (ppE (checkL f u l) f e))], [.live (.box 75 [dB true, dI f, dI u, .own 1 (kE false).sz 0 l.length]), .live (arrK 35 (kE false) l)]⟩ := by
 refine Holds.of Tryz.func56 rfl (N := 46) Tryz.ntmps56 rfl fun w0 B0 S0 U0 => ?_
 show T _ (mkBase 46 2 w0 S0 U0 B0) ⟨[pv 0 0, .tv (.agg (Zda e))], [(Zdb f u l), .live (arrK 35 (kE false) l)]⟩ _ _
 refine sR [] ?_
 refine sR [hR 2 rfl rfl (rCa (ref13_open f u l e ‹_› ‹_› ‹_› ‹_› ‹_›) Tryz.func76 [0, 1] [(.tmp 9, pv 0 0), (.tmp 10, .tv (.agg (Zda e)))] 2 2)] ?_
 refine T.seq ?_
 refine sR [] ?_
 by_cases hq1 : (opR (checkL f u l) e) ≠ 0
 ·have hr9 := (or_op (checkL f u l) e 2).1 hq1; have hx9 := pp_o (f := f) (show opE (checkL f u l) e 2 ≠ 0 by rw [hr9]; exact hq1); rw [hr9] at hx9
  refine cT (dT hq1) ?_
  refine sR [] ?_
  refine T.ret (rT ?_)
  refine eN ⟨(Zdd f u l e), (Zdg f u l e)⟩ ?_
  refine Ends.turn (s' := ⟨(Zdd f u l e), (Zdl f u l e)⟩) (fun _ _ hG => Gs.less (s := ⟨(Zdd f u l e), (Zdg f u l e)⟩) (kk16 trivial) ⟨.inl rfl, (kk2 ⟨(.inr ⟨rfl, (kk2 (kk4 ⟨(.inr ⟨rfl, rfl, rfl⟩), (kk2 ⟨(.inr ⟨rfl, rfl, rfl⟩), ⟨(.inr ⟨rfl, rfl, rfl⟩), ⟨(.inr ⟨rfl, rfl, rfl⟩), trivial⟩⟩⟩)⟩))⟩), ⟨.inl rfl, trivial⟩⟩)⟩ hG) ?_
  exact eX [.c 4 3 46 0 46 [dI 0, dI 0, dI 0, dI 0, dI 0, dS [], Zdh, dI 0, dI 0, Zdi, Zdi, Zdj] (.agg Zdk), .t 5 (.one (dI (opR (checkL f u l) e)))] ⟨⟨rfl, rfl, by kernel_rfl, by kernel_rfl, .inl ⟨12, wide_46, rfl, Nat.le_of_ble_eq_true rfl⟩⟩, ⟨⟨rfl, by kernel_rfl⟩, trivial⟩⟩ [0, 1] (gc2 (hx9.1) (by exact hx9.2) (fun qq0 (q13 : Int) => (.tup [.agg [dI (qq0.f_Kind), dI (qq0.f_View), dI (qq0.f_Seq), dI (qq0.f_Client), dI (qq0.f_Stamp), dS (qq0.f_Digest), dU (qq0.f_Data), dI (qq0.f_Result.f_Code), dI (qq0.f_Result.f_Stage), .d (dsl false false (kE false) (qq0.f_Batch)), .d (dsl false false (kE false) (qq0.f_Pres)), .d (dsl false false (kC false) (qq0.f_Certs))], .one (dI q13)] : AV))) (ix (ix trivial))
 have hr9 := or_op (checkL f u l) e 2; have hv9 := or_val hq1; have hbo := decV_bat e.f_Body; rw [← hv9] at hbo; have hbl := okEs_le hbo
 refine cF (dF hq1) ?_
 refine T.skip (nT (T.seq ?_))
 refine sR [] ?_
 by_cases hq2 : (orV (checkL f u l) e).f_Kind ≠ 2
 ·have hm9 := hq2; rw [hv9] at hm9; have hk9 := hr9.2.1 ‹_› hm9; have hx9 := pp_o (f := f) (show opE (checkL f u l) e 2 ≠ 0 by rw [hk9]; decide); rw [hk9] at hx9
  refine cT (dT hq2) ?_
  refine sR [] ?_
  refine T.ret (rT ?_)
  refine eN ⟨(Zdn f u l e), (Zdg f u l e)⟩ ?_
  refine Ends.turn (s' := ⟨(Zdn f u l e), (Zdl f u l e)⟩) (fun _ _ hG => Gs.less (s := ⟨(Zdn f u l e), (Zdg f u l e)⟩) ⟨.inl rfl, (kk4 (kk16 trivial))⟩ ⟨.inl rfl, (kk2 ⟨(.inr ⟨rfl, (kk2 (kk4 ⟨(.inr ⟨rfl, rfl, rfl⟩), (kk2 ⟨(.inr ⟨rfl, rfl, rfl⟩), ⟨(.inr ⟨rfl, rfl, rfl⟩), ⟨(.inr ⟨rfl, rfl, rfl⟩), trivial⟩⟩⟩)⟩))⟩), ⟨.inl rfl, trivial⟩⟩)⟩ hG) ?_
  exact eX [.c 4 3 46 0 46 [dI 0, dI 0, dI 0, dI 0, dI 0, dS [], Zdh, dI 0, dI 0, Zdi, Zdi, Zdj] (.agg Zdk), .t 5 (.one (dI 120))] ⟨⟨rfl, rfl, by kernel_rfl, by kernel_rfl, .inl ⟨12, wide_46, rfl, Nat.le_of_ble_eq_true rfl⟩⟩, ⟨⟨rfl, by kernel_rfl⟩, trivial⟩⟩ [0, 1] (gc2 (hx9.1) (by exact hx9.2) (fun qq0 (q13 : Int) => (.tup [.agg [dI (qq0.f_Kind), dI (qq0.f_View), dI (qq0.f_Seq), dI (qq0.f_Client), dI (qq0.f_Stamp), dS (qq0.f_Digest), dU (qq0.f_Data), dI (qq0.f_Result.f_Code), dI (qq0.f_Result.f_Stage), .d (dsl false false (kE false) (qq0.f_Batch)), .d (dsl false false (kE false) (qq0.f_Pres)), .d (dsl false false (kC false) (qq0.f_Certs))], .one (dI q13)] : AV))) (ix (ix trivial))
 have hm9 := hq2; rw [hv9] at hm9; have ho9 : ¬ opE (checkL f u l) e 2 ≠ 0 := fun q => q (hr9.2.2 ‹_› hm9).1
 refine cF (dF hq2) ?_
 refine T.skip (nT (T.seq ?_))
 refine sD [[], [0], [], [], [3], [2, 3, 4], [0, 1, 2, 3, 4, 5]] [hR 5 rfl rfl (rCa (ref03_Primary f u l (orV (checkL f u l) e).f_View ‹_› ‹_›) Tryz.func17 [0, 1] [(.tmp 24, pv 0 0), (.tmp 26, vI (orV (checkL f u l) e).f_View)] 2 2)] ?_
 by_cases hq3 : e.f_Signer ≠ (primaryA f (orV (checkL f u l) e).f_View)
 ·have hp9 := hq3; rw [hv9] at hp9; have hx9 := pp_p ho9 hp9
  refine cT (dT hq3) ?_
  refine sR [] ?_
  refine T.ret (rT ?_)
  refine eN ⟨(Zdo f u l e), (Zdg f u l e)⟩ ?_
  refine Ends.turn (s' := ⟨(Zdo f u l e), (Zdl f u l e)⟩) (fun _ _ hG => Gs.less (s := ⟨(Zdo f u l e), (Zdg f u l e)⟩) ⟨.inl rfl, (kk4 (kk8 (kk16 trivial)))⟩ ⟨.inl rfl, (kk2 ⟨(.inr ⟨rfl, (kk2 (kk4 ⟨(.inr ⟨rfl, rfl, rfl⟩), (kk2 ⟨(.inr ⟨rfl, rfl, rfl⟩), ⟨(.inr ⟨rfl, rfl, rfl⟩), ⟨(.inr ⟨rfl, rfl, rfl⟩), trivial⟩⟩⟩)⟩))⟩), ⟨.inl rfl, trivial⟩⟩)⟩ hG) ?_
  exact eX [.c 4 3 46 0 46 [dI 0, dI 0, dI 0, dI 0, dI 0, dS [], Zdh, dI 0, dI 0, Zdi, Zdi, Zdj] (.agg Zdk), .t 5 (.one (dI 133))] ⟨⟨rfl, rfl, by kernel_rfl, by kernel_rfl, .inl ⟨12, wide_46, rfl, Nat.le_of_ble_eq_true rfl⟩⟩, ⟨⟨rfl, by kernel_rfl⟩, trivial⟩⟩ [0, 1] (gc2 (hx9.1) (by exact hx9.2) (fun qq0 (q13 : Int) => (.tup [.agg [dI (qq0.f_Kind), dI (qq0.f_View), dI (qq0.f_Seq), dI (qq0.f_Client), dI (qq0.f_Stamp), dS (qq0.f_Digest), dU (qq0.f_Data), dI (qq0.f_Result.f_Code), dI (qq0.f_Result.f_Stage), .d (dsl false false (kE false) (qq0.f_Batch)), .d (dsl false false (kE false) (qq0.f_Pres)), .d (dsl false false (kC false) (qq0.f_Certs))], .one (dI q13)] : AV))) (ix (ix trivial))
 have hp9 := hq3; rw [hv9] at hp9
 refine cF (dF hq3) ?_
 refine T.skip (nT (T.seq ?_))
 refine sD [[], [0], [], [2], [2, 3], [0, 1, 2, 3, 4]] [hR 4 rfl rfl (rCa (ref12_Batch false false false (orV (checkL f u l) e).f_Batch (by omega)) Tryz.func15 [] [(.tmp 33, slV false false (kE false) (orV (checkL f u l) e).f_Batch)] 0 0)] ?_
 by_cases hq4 : (orV (checkL f u l) e).f_Digest ≠ (bchB (orV (checkL f u l) e).f_Batch)
 ·have hd9 := hq4; rw [hv9] at hd9; have hx9 := pp_d ho9 hp9 hd9
  refine cT (dT hq4) ?_
  refine sR [] ?_
  refine T.ret (rT ?_)
  refine eN ⟨(Zdp f u l e), (Zdg f u l e)⟩ ?_
  refine Ends.turn (s' := ⟨(Zdp f u l e), (Zdl f u l e)⟩) (fun _ _ hG => Gs.less (s := ⟨(Zdp f u l e), (Zdg f u l e)⟩) (kk4 (kk32 trivial)) ⟨.inl rfl, (kk2 ⟨(.inr ⟨rfl, (kk2 (kk4 ⟨(.inr ⟨rfl, rfl, rfl⟩), (kk2 ⟨(.inr ⟨rfl, rfl, rfl⟩), ⟨(.inr ⟨rfl, rfl, rfl⟩), ⟨(.inr ⟨rfl, rfl, rfl⟩), trivial⟩⟩⟩)⟩))⟩), ⟨.inl rfl, trivial⟩⟩)⟩ hG) ?_
  exact eX [.c 4 3 46 0 46 [dI 0, dI 0, dI 0, dI 0, dI 0, dS [], Zdh, dI 0, dI 0, Zdi, Zdi, Zdj] (.agg Zdk), .t 5 (.one (dI 132))] ⟨⟨rfl, rfl, by kernel_rfl, by kernel_rfl, .inl ⟨12, wide_46, rfl, Nat.le_of_ble_eq_true rfl⟩⟩, ⟨⟨rfl, by kernel_rfl⟩, trivial⟩⟩ [0, 1] (gc2 (hx9.1) (by exact hx9.2) (fun qq0 (q13 : Int) => (.tup [.agg [dI (qq0.f_Kind), dI (qq0.f_View), dI (qq0.f_Seq), dI (qq0.f_Client), dI (qq0.f_Stamp), dS (qq0.f_Digest), dU (qq0.f_Data), dI (qq0.f_Result.f_Code), dI (qq0.f_Result.f_Stage), .d (dsl false false (kE false) (qq0.f_Batch)), .d (dsl false false (kE false) (qq0.f_Pres)), .d (dsl false false (kC false) (qq0.f_Certs))], .one (dI q13)] : AV))) (ix (ix trivial))
 have hd9 := hq4; rw [hv9] at hd9
 refine cF (dF hq4) ?_
 refine T.skip (nT ?_)
 refine sR [hR 3 rfl rfl (rCa (ref13_Batch f u l (orV (checkL f u l) e).f_Batch ‹_› ‹_› ‹_› ‹_›) Tryz.func77 [0, 1] [(.tmp 37, pv 0 0), (.tmp 39, slV false false (kE false) (orV (checkL f u l) e).f_Batch)] 2 2)] ?_
 refine T.seq ?_
 refine sR [] ?_
 by_cases hq5 : (btE (checkL f u l) f (orV (checkL f u l) e).f_Batch) ≠ 0
 ·have hb9 := hq5; rw [hv9] at hb9; have hx9 := pp_b ho9 hp9 hd9 hb9
  refine cT (dT hq5) ?_
  refine sR [] ?_
  refine T.ret (rT ?_)
  refine eN ⟨(Zdq f u l e), (Zdg f u l e)⟩ ?_
  refine Ends.turn (s' := ⟨(Zdq f u l e), (Zdl f u l e)⟩) (fun _ _ hG => Gs.less (s := ⟨(Zdq f u l e), (Zdg f u l e)⟩) ⟨.inl rfl, (kk2 (kk8 (kk32 trivial)))⟩ ⟨.inl rfl, (kk2 ⟨(.inr ⟨rfl, (kk2 (kk4 ⟨(.inr ⟨rfl, rfl, rfl⟩), (kk2 ⟨(.inr ⟨rfl, rfl, rfl⟩), ⟨(.inr ⟨rfl, rfl, rfl⟩), ⟨(.inr ⟨rfl, rfl, rfl⟩), trivial⟩⟩⟩)⟩))⟩), ⟨.inl rfl, trivial⟩⟩)⟩ hG) ?_
  exact eX [.c 4 3 46 0 46 [dI 0, dI 0, dI 0, dI 0, dI 0, dS [], Zdh, dI 0, dI 0, Zdi, Zdi, Zdj] (.agg Zdk), .t 5 (.one (dI (btE (checkL f u l) f (orV (checkL f u l) e).f_Batch)))] ⟨⟨rfl, rfl, by kernel_rfl, by kernel_rfl, .inl ⟨12, wide_46, rfl, Nat.le_of_ble_eq_true rfl⟩⟩, ⟨⟨rfl, by kernel_rfl⟩, trivial⟩⟩ [0, 1] (gc2 (hx9.1) (show ((ppE (checkL f u l) f e) : Int) = (btE (checkL f u l) f (orV (checkL f u l) e).f_Batch) from (by (rw [hx9.2, hv9]))) (fun qq0 (q13 : Int) => (.tup [.agg [dI (qq0.f_Kind), dI (qq0.f_View), dI (qq0.f_Seq), dI (qq0.f_Client), dI (qq0.f_Stamp), dS (qq0.f_Digest), dU (qq0.f_Data), dI (qq0.f_Result.f_Code), dI (qq0.f_Result.f_Stage), .d (dsl false false (kE false) (qq0.f_Batch)), .d (dsl false false (kE false) (qq0.f_Pres)), .d (dsl false false (kC false) (qq0.f_Certs))], .one (dI q13)] : AV))) (ix (ix trivial))
 have hb9 := hq5; rw [hv9] at hb9; have hx9 := pp_ok ho9 hp9 hd9 hb9
 refine cF (dF hq5) ?_
 refine T.skip (nT ?_)
 refine sR [] ?_
 refine T.ret ?_
 exact eX [.c 4 3 46 0 46 [dI (orV (checkL f u l) e).f_Kind, dI (orV (checkL f u l) e).f_View, dI (orV (checkL f u l) e).f_Seq, dI (orV (checkL f u l) e).f_Client, dI (orV (checkL f u l) e).f_Stamp, dS (orV (checkL f u l) e).f_Digest, dU (orV (checkL f u l) e).f_Data, dI (orV (checkL f u l) e).f_Result.f_Code, dI (orV (checkL f u l) e).f_Result.f_Stage, .d (dsl false false (kE false) (orV (checkL f u l) e).f_Batch), .d (dsl false false (kE false) (orV (checkL f u l) e).f_Pres), .d (dsl false false (kC false) (orV (checkL f u l) e).f_Certs)] (.agg (Zdf f u l e)), .t 5 (.one (dI 0))] ⟨⟨rfl, rfl, by kernel_rfl, by kernel_rfl, .inl ⟨12, wide_46, rfl, Nat.le_of_ble_eq_true rfl⟩⟩, ⟨⟨rfl, by kernel_rfl⟩, trivial⟩⟩ [0, 1] (by have e1 : ((ppV (checkL f u l) f e).f_Kind : Int) = (orV (checkL f u l) e).f_Kind := (by (rw [hx9.1, hv9]; done)); have e2 : ((ppV (checkL f u l) f e).f_View : Int) = (orV (checkL f u l) e).f_View := (by (rw [hx9.1, hv9]; done)); have e3 : ((ppV (checkL f u l) f e).f_Seq : Int) = (orV (checkL f u l) e).f_Seq := (by (rw [hx9.1, hv9]; done)); have e4 : ((ppV (checkL f u l) f e).f_Client : Int) = (orV (checkL f u l) e).f_Client := (by (rw [hx9.1, hv9]; done)); have e5 : ((ppV (checkL f u l) f e).f_Stamp : Int) = (orV (checkL f u l) e).f_Stamp := (by (rw [hx9.1, hv9]; done)); have e6 : ((ppV (checkL f u l) f e).f_Digest : List UInt8) = (orV (checkL f u l) e).f_Digest := (by (rw [hx9.1, hv9]; done)); have e7 : ((ppV (checkL f u l) f e).f_Data : List UInt8) = (orV (checkL f u l) e).f_Data := (by (rw [hx9.1, hv9]; done)); have e8 : ((ppV (checkL f u l) f e).f_Result.f_Code : Int) = (orV (checkL f u l) e).f_Result.f_Code := (by (rw [hx9.1, hv9]; done)); have e9 : ((ppV (checkL f u l) f e).f_Result.f_Stage : Int) = (orV (checkL f u l) e).f_Result.f_Stage := (by (rw [hx9.1, hv9]; done)); have e10 : ((ppV (checkL f u l) f e).f_Batch : List aE) = (orV (checkL f u l) e).f_Batch := (by (rw [hx9.1, hv9]; done)); have e11 : ((ppV (checkL f u l) f e).f_Pres : List aE) = (orV (checkL f u l) e).f_Pres := (by (rw [hx9.1, hv9]; done)); have e12 : ((ppV (checkL f u l) f e).f_Certs : List aC) = (orV (checkL f u l) e).f_Certs := (by (rw [hx9.1, hv9]; done)); have e13 : ((ppE (checkL f u l) f e) : Int) = 0 := (by exact hx9.2); have hE := congr (congr (congr (congr (congr (congr (congr (congr (congr (congr (congr (congr (congrArg (fun (q1 : Int) (q2 : Int) (q3 : Int) (q4 : Int) (q5 : Int) (q6 : List UInt8) (q7 : List UInt8) (q8 : Int) (q9 : Int) (q10 : List aE) (q11 : List aE) (q12 : List aC) (q13 : Int) => (.tup [.agg [dI q1, dI q2, dI q3, dI q4, dI q5, dS q6, dU q7, dI q8, dI q9, .d (dsl false false (kE false) q10), .d (dsl false false (kE false) q11), .d (dsl false false (kC false) q12)], .one (dI q13)] : AV)) e1) e2) e3) e4) e5) e6) e7) e8) e9) e10) e11) e12) e13; exact hE) (ix (ix trivial))
end Go.Proofs.YtalapplihdmenaaGreat.Q
