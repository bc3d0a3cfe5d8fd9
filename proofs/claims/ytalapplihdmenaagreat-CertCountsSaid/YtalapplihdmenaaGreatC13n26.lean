import Derived.Test.YtalapplihdmenaaGreatC13n25
namespace Go.Proofs.YtalapplihdmenaaGreat.Q
open Go Go.RowKit
set_option linter.unusedVariables false
set_option linter.unusedSimpArgs false
set_option maxRecDepth 100000
set_option maxHeartbeats 4000000
section
variable (f : Int) (u : Int) (l : List aE) (c : aC) (kind : Int) (need : Int) (k : Nat)
abbrev Zf3 : List SV := [dI c.f_Pre.f_Signer, dU c.f_Pre.f_Body, .d (dsl false false (kE false) c.f_Votes)]
abbrev Zf4 : AV := .tv (.agg (Zf3 c))
abbrev Zf5 : HS := .live (.box 75 [dB true, dI f, dI u, .own 1 (kE false).sz 0 l.length])
abbrev Zf6 : HS := .live (arrK 35 (kE false) l)
abbrev Zf7 : List AV := [pv 0 0, (Zf4 c), vI kind, vI need, aa, pv 2 0, aa, aa, pv 3 0, vI (ppE (checkL f u l) f c.f_Pre), pv 4 0, vI (ppE (checkL f u l) f c.f_Pre), aa, aa, aa, aa, aa, aa, aa, aa, aa, aa, aa, vB (decide ((ppE (checkL f u l) f c.f_Pre) ≠ 0))]
abbrev Zf8 : SV := .d (.val (.slice none 0 0))
abbrev Zf9 : HS := .live (.box 46 [dI 0, dI 0, dI 0, dI 0, dI 0, dS [], Zf8, dI 0, dI 0, Zf8, Zf8, Zf8])
abbrev Zfa := (ppV (checkL f u l) f c.f_Pre)
abbrev Zfb : List SV := [dI (Zfa f u l c).f_Kind, dI (Zfa f u l c).f_View, dI (Zfa f u l c).f_Seq, dI (Zfa f u l c).f_Client, dI (Zfa f u l c).f_Stamp, dS (Zfa f u l c).f_Digest, dU (Zfa f u l c).f_Data, dI (Zfa f u l c).f_Result.f_Code, dI (Zfa f u l c).f_Result.f_Stage, .d (dsl false false (kE false) (Zfa f u l c).f_Batch), .d (dsl false false (kE false) (Zfa f u l c).f_Pres), .d (dsl false false (kC false) (Zfa f u l c).f_Certs)]
abbrev Zfc : List HS := [(Zf5 f u l), (Zf6 l), .live (.box 38 (Zf3 c)), Zf9, .live (.box 46 (Zfb f u l c))]
abbrev Zfd : SV := dU ([] : List UInt8)
abbrev Zfe : SV := .d (dsl false false (kE false) ([] : List aE))
abbrev Zff : SV := .d (dsl false false (kC false) ([] : List aC))
abbrev Zfg : List SV := [dI 0, dI 0, dI 0, dI 0, dI 0, dS [], Zfd, dI 0, dI 0, Zfe, Zfe, Zff]
abbrev Zfh : TV := .agg Zfg
abbrev Zfi : AV := vI ((k : Nat) : Int)
abbrev Zfk : AV := vI (vtE (checkL f u l) f (c.f_Votes.getD k zE) kind)
abbrev Zfl : AV := vB (decide (((k : Nat) : Int) < ((c.f_Votes.length : Nat) : Int)))
abbrev Zfm : AV := vB (decide ((vtE (checkL f u l) f (c.f_Votes.getD k zE) kind) ≠ 0))
abbrev Zfn : List AV := [pv 0 0, (Zf4 c), vI kind, vI need, aa, pv 2 0, aa, aa, pv 3 0, (Zfk f u l c kind k), pv 4 0, aa, (Zfi k), pv 5 0, (Zfk f u l c kind k), aa, aa, aa, aa, aa, aa, aa, aa, aa, aa, aa, aa, aa, aa, aa, (Zfl c k), aa, aa, aa, aa, aa, aa, aa, aa, aa, aa, aa, aa, aa, (Zfm f u l c kind k)]
abbrev Zfo := (vtV (checkL f u l) f (c.f_Votes.getD k zE) kind)
abbrev Zfp : HS := .live (.box 46 [dI (Zfo f u l c kind k).f_Kind, dI (Zfo f u l c kind k).f_View, dI (Zfo f u l c kind k).f_Seq, dI (Zfo f u l c kind k).f_Client, dI (Zfo f u l c kind k).f_Stamp, dS (Zfo f u l c kind k).f_Digest, dU (Zfo f u l c kind k).f_Data, dI (Zfo f u l c kind k).f_Result.f_Code, dI (Zfo f u l c kind k).f_Result.f_Stage, .d (dsl false false (kE false) (Zfo f u l c kind k).f_Batch), .d (dsl false false (kE false) (Zfo f u l c kind k).f_Pres), .d (dsl false false (kC false) (Zfo f u l c kind k).f_Certs)])
abbrev Zfq : List HS := [(Zf5 f u l), (Zf6 l), .live (.box 38 (Zf3 c)), Zf9, .live (.box 46 (Zfb f u l c)), (Zfp f u l c kind k)]
abbrev Zfr : List HS := [(Zf5 f u l), (Zf6 l), .live (.box 38 (Zf3 c)), .live (.box 46 Zfg), .live (.box 46 (Zfb f u l c)), (Zfp f u l c kind k)]
abbrev Zfs : AV := vB (decide ((Zfo f u l c kind k).f_View ≠ (Zfa f u l c).f_View))
abbrev Zft : List AV := [pv 0 0, (Zf4 c), vI kind, vI need, aa, pv 2 0, aa, aa, pv 3 0, vI 130, pv 4 0, aa, (Zfi k), pv 5 0, (Zfk f u l c kind k), aa, aa, aa, aa, aa, aa, aa, aa, aa, aa, aa, aa, aa, aa, aa, (Zfl c k), aa, aa, aa, aa, aa, aa, aa, aa, aa, aa, aa, aa, aa, (Zfm f u l c kind k), aa, aa, aa, aa, (Zfs f u l c kind k)]
abbrev Zfu : AV := vB (decide ((Zfo f u l c kind k).f_Seq ≠ (Zfa f u l c).f_Seq))
abbrev Zfv : List AV := [pv 0 0, (Zf4 c), vI kind, vI need, aa, pv 2 0, aa, aa, pv 3 0, vI 131, pv 4 0, aa, (Zfi k), pv 5 0, (Zfk f u l c kind k), aa, aa, aa, aa, aa, aa, aa, aa, aa, aa, aa, aa, aa, aa, aa, (Zfl c k), aa, aa, aa, aa, aa, aa, aa, aa, aa, aa, aa, aa, aa, (Zfm f u l c kind k), aa, aa, aa, aa, (Zfs f u l c kind k), aa, aa, aa, aa, aa, aa, (Zfu f u l c kind k)]
abbrev Zfw : AV := vB (decide ((Zfo f u l c kind k).f_Digest ≠ (Zfa f u l c).f_Digest))
abbrev Zfx : List AV := [pv 0 0, (Zf4 c), vI kind, vI need, aa, pv 2 0, aa, aa, pv 3 0, vI 132, pv 4 0, aa, (Zfi k), pv 5 0, (Zfk f u l c kind k), aa, aa, aa, aa, aa, aa, aa, aa, aa, aa, aa, aa, aa, aa, aa, (Zfl c k), aa, aa, aa, aa, aa, aa, aa, aa, aa, aa, aa, aa, aa, (Zfm f u l c kind k), aa, aa, aa, aa, (Zfs f u l c kind k), aa, aa, aa, aa, aa, aa, (Zfu f u l c kind k), aa, aa, aa, aa, aa, aa, (Zfw f u l c kind k)]
abbrev Zfy : List AV := [pv 0 0, (Zf4 c), vI kind, vI need, aa, pv 2 0, aa, aa, pv 3 0, vI 133, pv 4 0, aa, (Zfi k), pv 5 0, (Zfk f u l c kind k), aa, aa, aa, aa, aa, aa, aa, aa, aa, aa, aa, aa, aa, aa, aa, (Zfl c k), aa, aa, aa, aa, aa, aa, aa, aa, aa, aa, aa, aa, aa, (Zfm f u l c kind k), aa, aa, aa, aa, (Zfs f u l c kind k), aa, aa, aa, aa, aa, aa, (Zfu f u l c kind k), aa, aa, aa, aa, aa, aa, (Zfw f u l c kind k), aa, aa, aa, aa, aa, aa, vB (decide ((c.f_Votes.getD k zE).f_Signer = (primaryA f (Zfa f u l c).f_View)))]
abbrev Zfz : List AV := [pv 0 0, (Zf4 c), vI kind, vI need, aa, pv 2 0, aa, aa, pv 3 0, vI 33, pv 4 0, aa, (Zfi k), pv 5 0, (Zfk f u l c kind k), aa, aa, aa, aa, aa, aa, aa, aa, aa, aa, aa, aa, aa, aa, aa, (Zfl c k), aa, aa, aa, aa, aa, aa, aa, aa, aa, aa, aa, aa, aa, (Zfm f u l c kind k), aa, aa, aa, aa, (Zfs f u l c kind k), aa, aa, aa, aa, aa, aa, (Zfu f u l c kind k), aa, aa, aa, aa, aa, aa, (Zfw f u l c kind k), aa, aa, aa, aa, aa, aa, vB (decide ((c.f_Votes.getD k zE).f_Signer = (primaryA f (Zfa f u l c).f_View))), aa, aa, aa, aa, aa, aa, aa, aa, aa, aa, aa, aa, aa, aa, aa, aa, vB (decide (twiceL c.f_Votes k))]
abbrev Zg1 : List AV := [pv 0 0, (Zf4 c), vI kind, vI need, aa, pv 2 0, aa, aa, pv 3 0, vI 33, pv 4 0, aa, (Zfi k), pv 5 0, (Zfk f u l c kind k), aa, aa, aa, aa, aa, aa, aa, aa, aa, aa, aa, aa, aa, aa, aa, (Zfl c k), aa, aa, aa, aa, aa, aa, aa, aa, aa, aa, aa, aa, aa, (Zfm f u l c kind k), aa, aa, aa, aa, (Zfs f u l c kind k), aa, aa, aa, aa, aa, aa, (Zfu f u l c kind k), aa, aa, aa, aa, aa, aa, (Zfw f u l c kind k), aa, aa, aa, aa, aa, aa, vB false, aa, aa, aa, aa, aa, aa, aa, aa, aa, aa, aa, aa, aa, aa, aa, aa, vB (decide (twiceL c.f_Votes k))]
abbrev Zg2 : List AV := [pv 0 0, (Zf4 c), vI kind, vI need, aa, pv 2 0, aa, aa, pv 3 0, vI 32, pv 4 0, aa, (Zfi k), aa, aa, aa, aa, aa, aa, aa, aa, aa, aa, aa, aa, aa, aa, aa, aa, aa, (Zfl c k), aa, aa, aa, aa, aa, aa, aa, aa, aa, aa, aa, aa, aa, aa, aa, aa, aa, aa, aa, aa, aa, aa, aa, aa, aa, aa, aa, aa, aa, aa, aa, aa, aa, aa, aa, aa, aa, aa, aa, aa, aa, aa, aa, aa, aa, aa, aa, aa, aa, aa, aa, aa, aa, aa, aa, aa, aa, aa, aa, aa, aa, aa, aa, aa, aa, aa, vB (decide (((c.f_Votes.length : Nat) : Int) < need))]
end
theorem ref13_cert (f : Int) (u : Int) (l : List aE) (c : aC) (kind : Int) (need : Int) (hf : 0 ≤ f ∧ f ≤ 2) (hu : 0 ≤ u ∧ u ≤ 8) (hl : l.length ≤ 9223372036854775806) (hs : -9223372036854775808 ≤ c.f_Pre.f_Signer ∧ c.f_Pre.f_Signer ≤ 9223372036854775807) (hb9 : c.f_Pre.f_Body.length ≤ 100000000) (hx : okEs c.f_Votes) : Holds Tryz.prog 28 ⟨[pv 0 0, .tv (.agg [dI c.f_Pre.f_Signer, dU c.f_Pre.f_Body, .d (dsl false false (kE false) c.f_Votes)]), vI kind, vI need], [.box 75 [dB true, dI f, dI u, .own 1 (kE false).sz 0 l.length], arrK 35 (kE false) l], .tup [.agg [dI (ceV (checkL f u l) f c kind need).f_Kind, dI (ceV (checkL f u l) f c kind need).f_View, dI (ceV (checkL f u l) f c kind need).f_Seq, dI (ceV (checkL f u l) f c kind need).f_Client, dI (ceV (checkL f u l) f c kind need).f_Stamp, dS (ceV (checkL f u l) f c kind need).f_Digest, dU (ceV (checkL f u l) f c kind need).f_Data, dI (ceV (checkL f u l) f c kind need).f_Result.f_Code, dI (ceV (checkL f u l) f c kind need).f_Result.f_Stage, .d (dsl false false (kE false) (ceV (checkL f u l) f c kind need).f_Batch), .d (dsl false false (kE false) (ceV (checkL f u l) f c kind need).f_Pres), .d (dsl false false (kC false) (ceV (checkL f u l) f c kind need).f_Certs)], .one (dI (ceE (checkL f u l) f c kind need))], [.live (.box 75 [dB true, dI f, dI u, .own 1 (kE false).sz 0 l.length]), .live (arrK 35 (kE false) l)]⟩ := by
 refine Holds.of Tryz.func28 rfl (N := 100) Tryz.ntmps28 rfl fun w0 B0 S0 U0 => ?_
 show T _ (mkBase 100 2 w0 S0 U0 B0) ⟨[pv 0 0, (Zf4 c), vI kind, vI need], [(Zf5 f u l), (Zf6 l)]⟩ _ _
 have hx1 := hx.1
 refine sR [] ?_
 refine sR [hR 3 rfl rfl (rCa (ref13_PrePrepare f u l c.f_Pre ‹_› ‹_› ‹_› ‹_› ‹_›) Tryz.func56 [0, 1] [(.tmp 16, pv 0 0), (.tmp 18, .tv (.agg [dI c.f_Pre.f_Signer, dU c.f_Pre.f_Body]))] 2 2)] ?_
 refine T.seq ?_
 refine sR [] ?_
 by_cases hq1 : (ppE (checkL f u l) f c.f_Pre) ≠ 0
 ·have hx9 := ce_p (kind := kind) (need := need) hq1
  refine cT (dT hq1) ?_
  refine sR [] ?_
  refine T.ret (rT ?_)
  refine eN ⟨(Zf7 f u l c kind need), (Zfc f u l c)⟩ ?_
  refine Ends.turn (s' := ⟨(Zf7 f u l c kind need), [(Zf5 f u l), (Zf6 l), .live (.box 38 (Zf3 c)), .live (.box 46 Zfg), .live (.box 46 (Zfb f u l c))]⟩) (fun _ _ hG => Gs.less (s := ⟨(Zf7 f u l c kind need), (Zfc f u l c)⟩) (kk8 (kk16 trivial)) ⟨.inl rfl, (kk2 ⟨(.inr ⟨rfl, (kk2 (kk4 ⟨(.inr ⟨rfl, rfl, rfl⟩), (kk2 ⟨(.inr ⟨rfl, rfl, rfl⟩), ⟨(.inr ⟨rfl, rfl, rfl⟩), ⟨(.inr ⟨rfl, rfl, rfl⟩), trivial⟩⟩⟩)⟩))⟩), ⟨.inl rfl, trivial⟩⟩)⟩ hG) ?_
  exact eX [.c 8 3 46 0 46 [dI 0, dI 0, dI 0, dI 0, dI 0, dS [], Zfd, dI 0, dI 0, Zfe, Zfe, Zff] (Zfh), .t 9 (.one (dI (ppE (checkL f u l) f c.f_Pre)))] ⟨⟨rfl, rfl, by kernel_rfl, by kernel_rfl, .inl ⟨12, wide_46, rfl, Nat.le_of_ble_eq_true rfl⟩⟩, ⟨⟨rfl, by kernel_rfl⟩, trivial⟩⟩ [0, 1] (gc2 (hx9.1) (by exact hx9.2) (fun qq0 (q13 : Int) => (.tup [.agg [dI (qq0.f_Kind), dI (qq0.f_View), dI (qq0.f_Seq), dI (qq0.f_Client), dI (qq0.f_Stamp), dS (qq0.f_Digest), dU (qq0.f_Data), dI (qq0.f_Result.f_Code), dI (qq0.f_Result.f_Stage), .d (dsl false false (kE false) (qq0.f_Batch)), .d (dsl false false (kE false) (qq0.f_Pres)), .d (dsl false false (kC false) (qq0.f_Certs))], .one (dI q13)] : AV))) (ix (ix trivial))
 have hp9 := hq1; have hpr := pp_prim hp9
 refine cF (dF hq1) ?_
 refine T.skip (nT (T.seq ?_))
 refine sR [] ?_
 refine T.block ?_
 refine T.loop (ι := Nat) (fun (k : Nat) => ⟨[pv 0 0, (Zf4 c), vI kind, vI need, aa, pv 2 0, aa, aa, pv 3 0, vI 0, pv 4 0, aa, (Zfi k)], (Zfc f u l c)⟩) (fun (k : Nat) => (k ≤ c.f_Votes.length) ∧ (∀ i, i < k → votN (gC (checkL f u l) f (ppV (checkL f u l) f c.f_Pre) kind c.f_Pre.f_Signer) c.f_Votes i = 0)) (fun (k : Nat) => c.f_Votes.length - k) (0) ⟨(Nat.zero_le _), (fun j hj => absurd hj (Nat.not_lt_zero _))⟩ (fun _ _ hG => Gs.iI [0, 1, 2, 3, 4] (bm 13 5935) rfl rfl hG) ?_
 rintro k ⟨hk, hb⟩
 show T _ _ ⟨[pv 0 0, (Zf4 c), vI kind, vI need, aa, pv 2 0, aa, aa, pv 3 0, vI 0, pv 4 0, aa, (Zfi k)], (Zfc f u l c)⟩ _ _
 replace hk : k ≤ c.f_Votes.length := hk
 replace hb : ∀ i, i < k → votN (gC (checkL f u l) f (ppV (checkL f u l) f c.f_Pre) kind c.f_Pre.f_Signer) c.f_Votes i = 0 := hb
 refine T.seq ?_
 refine sR [] ?_
 by_cases hq2 : ((k : Nat) : Int) < ((c.f_Votes.length : Nat) : Int)
 ·have hgk := okEs_get hx (k := k) (by omega); have hgk1 := hgk.1.1; have hgk2 := hgk.1.2; have hgk3 := hgk.2
  refine cT (dT hq2) ?_
  refine T.skip (nT (T.seq ?_))
  refine T.block ?_
  refine sR [hR 4 rfl rfl (q_index false false (kE false) c.f_Votes k (k := .i64) (i := ((k : Nat) : Int)) Tryz.underlying36 iat_35 rfl rfl (by omega) (lt_of rfl) trivial),
    hR 7 rfl rfl (rCa (ref13_Vote f u l (c.f_Votes.getD k zE) kind ‹_› ‹_› ‹_› (by omega) (by omega)) Tryz.func57 [0, 1] [(.tmp 34, pv 0 0), (.tmp 39, .tv (.agg [dI (c.f_Votes.getD k zE).f_Signer, dU (c.f_Votes.getD k zE).f_Body])), (.tmp 40, vI kind)] 2 2)] ?_
  refine T.block ?_
  refine sR [] ?_
  by_cases hq3 : (vtE (checkL f u l) f (c.f_Votes.getD k zE) kind) ≠ 0
  ·have hg9 := gC_1 (p := (ppV (checkL f u l) f c.f_Pre)) (pre := c.f_Pre.f_Signer) hq3; have hz9 := tly_at (g := gC (checkL f u l) f (ppV (checkL f u l) f c.f_Pre) kind c.f_Pre.f_Signer) need hb ((vot_1 (by rw [hg9]; exact hq3)).trans hg9) hq3 (by omega); have hx9 := ce_t hp9 (by rw [hz9]; exact hq3); rw [hz9] at hx9
   refine cT (dT hq3) ?_
   refine sR [] ?_
   refine T.ret (rB (rB (rT (rT (rB (rT ?_))))))
   refine eN ⟨(Zfn f u l c kind need k), (Zfq f u l c kind k)⟩ ?_
   refine Ends.turn (s' := ⟨(Zfn f u l c kind need k), (Zfr f u l c kind k)⟩) (fun _ _ hG => Gs.less (s := ⟨(Zfn f u l c kind need k), (Zfq f u l c kind k)⟩) ⟨.inl rfl, (kk4 (kk8 (kk32 trivial)))⟩ ⟨.inl rfl, (kk2 ⟨(.inr ⟨rfl, (kk2 (kk4 ⟨(.inr ⟨rfl, rfl, rfl⟩), (kk2 ⟨(.inr ⟨rfl, rfl, rfl⟩), ⟨(.inr ⟨rfl, rfl, rfl⟩), ⟨(.inr ⟨rfl, rfl, rfl⟩), trivial⟩⟩⟩)⟩))⟩), (kk2 trivial)⟩)⟩ hG) ?_
   exact eX [.c 8 3 46 0 46 [dI 0, dI 0, dI 0, dI 0, dI 0, dS [], Zfd, dI 0, dI 0, Zfe, Zfe, Zff] (Zfh), .t 9 (.one (dI (vtE (checkL f u l) f (c.f_Votes.getD k zE) kind)))] ⟨⟨rfl, rfl, by kernel_rfl, by kernel_rfl, .inl ⟨12, wide_46, rfl, Nat.le_of_ble_eq_true rfl⟩⟩, ⟨⟨rfl, by kernel_rfl⟩, trivial⟩⟩ [0, 1] (gc2 (hx9.1) (by exact hx9.2) (fun qq0 (q13 : Int) => (.tup [.agg [dI (qq0.f_Kind), dI (qq0.f_View), dI (qq0.f_Seq), dI (qq0.f_Client), dI (qq0.f_Stamp), dS (qq0.f_Digest), dU (qq0.f_Data), dI (qq0.f_Result.f_Code), dI (qq0.f_Result.f_Stage), .d (dsl false false (kE false) (qq0.f_Batch)), .d (dsl false false (kE false) (qq0.f_Pres)), .d (dsl false false (kC false) (qq0.f_Certs))], .one (dI q13)] : AV))) (ix (ix trivial))
  have hg9 := gC_2 (p := (ppV (checkL f u l) f c.f_Pre)) (pre := c.f_Pre.f_Signer) hq3
  refine cF (dF hq3) ?_
  refine sR [] ?_
  by_cases hq4 : (vtV (checkL f u l) f (c.f_Votes.getD k zE) kind).f_View ≠ (ppV (checkL f u l) f c.f_Pre).f_View
  ·have he9 := hg9.trans (mus_v hq4); have hz9 := tly_at (g := gC (checkL f u l) f (ppV (checkL f u l) f c.f_Pre) kind c.f_Pre.f_Signer) need hb ((vot_1 (by rw [he9]; decide)).trans he9) (by decide) (by omega); have hx9 := ce_t hp9 (by rw [hz9]; exact (by decide)); rw [hz9] at hx9
   refine cT (dT hq4) ?_
   refine sR [] ?_
   refine T.ret (rB (rB (rT (rT (rB (rT ?_))))))
   refine eN ⟨(Zft f u l c kind need k), (Zfq f u l c kind k)⟩ ?_
   refine Ends.turn (s' := ⟨(Zft f u l c kind need k), (Zfr f u l c kind k)⟩) (fun _ _ hG => Gs.less (s := ⟨(Zft f u l c kind need k), (Zfq f u l c kind k)⟩) (kk2 (kk16 (kk32 trivial))) ⟨.inl rfl, (kk2 ⟨(.inr ⟨rfl, (kk2 (kk4 ⟨(.inr ⟨rfl, rfl, rfl⟩), (kk2 ⟨(.inr ⟨rfl, rfl, rfl⟩), ⟨(.inr ⟨rfl, rfl, rfl⟩), ⟨(.inr ⟨rfl, rfl, rfl⟩), trivial⟩⟩⟩)⟩))⟩), (kk2 trivial)⟩)⟩ hG) ?_
   exact eX [.c 8 3 46 0 46 [dI 0, dI 0, dI 0, dI 0, dI 0, dS [], Zfd, dI 0, dI 0, Zfe, Zfe, Zff] (Zfh), .t 9 (.one (dI 130))] ⟨⟨rfl, rfl, by kernel_rfl, by kernel_rfl, .inl ⟨12, wide_46, rfl, Nat.le_of_ble_eq_true rfl⟩⟩, ⟨⟨rfl, by kernel_rfl⟩, trivial⟩⟩ [0, 1] (gc2 (hx9.1) (by exact hx9.2) (fun qq0 (q13 : Int) => (.tup [.agg [dI (qq0.f_Kind), dI (qq0.f_View), dI (qq0.f_Seq), dI (qq0.f_Client), dI (qq0.f_Stamp), dS (qq0.f_Digest), dU (qq0.f_Data), dI (qq0.f_Result.f_Code), dI (qq0.f_Result.f_Stage), .d (dsl false false (kE false) (qq0.f_Batch)), .d (dsl false false (kE false) (qq0.f_Pres)), .d (dsl false false (kC false) (qq0.f_Certs))], .one (dI q13)] : AV))) (ix (ix trivial))
  have hm1 := hq4
  refine cF (dF hq4) ?_
  refine sR [] ?_
  by_cases hq5 : (vtV (checkL f u l) f (c.f_Votes.getD k zE) kind).f_Seq ≠ (ppV (checkL f u l) f c.f_Pre).f_Seq
  ·have he9 := hg9.trans (mus_s hm1 hq5); have hz9 := tly_at (g := gC (checkL f u l) f (ppV (checkL f u l) f c.f_Pre) kind c.f_Pre.f_Signer) need hb ((vot_1 (by rw [he9]; decide)).trans he9) (by decide) (by omega); have hx9 := ce_t hp9 (by rw [hz9]; exact (by decide)); rw [hz9] at hx9
   refine cT (dT hq5) ?_
   refine sR [] ?_
   refine T.ret (rB (rB (rT (rT (rB (rT ?_))))))
   refine eN ⟨(Zfv f u l c kind need k), (Zfq f u l c kind k)⟩ ?_
   refine Ends.turn (s' := ⟨(Zfv f u l c kind need k), (Zfr f u l c kind k)⟩) (fun _ _ hG => Gs.less (s := ⟨(Zfv f u l c kind need k), (Zfq f u l c kind k)⟩) ⟨.inl rfl, (kk8 (kk16 (kk32 trivial)))⟩ ⟨.inl rfl, (kk2 ⟨(.inr ⟨rfl, (kk2 (kk4 ⟨(.inr ⟨rfl, rfl, rfl⟩), (kk2 ⟨(.inr ⟨rfl, rfl, rfl⟩), ⟨(.inr ⟨rfl, rfl, rfl⟩), ⟨(.inr ⟨rfl, rfl, rfl⟩), trivial⟩⟩⟩)⟩))⟩), (kk2 trivial)⟩)⟩ hG) ?_
   exact eX [.c 8 3 46 0 46 [dI 0, dI 0, dI 0, dI 0, dI 0, dS [], Zfd, dI 0, dI 0, Zfe, Zfe, Zff] (Zfh), .t 9 (.one (dI 131))] ⟨⟨rfl, rfl, by kernel_rfl, by kernel_rfl, .inl ⟨12, wide_46, rfl, Nat.le_of_ble_eq_true rfl⟩⟩, ⟨⟨rfl, by kernel_rfl⟩, trivial⟩⟩ [0, 1] (gc2 (hx9.1) (by exact hx9.2) (fun qq0 (q13 : Int) => (.tup [.agg [dI (qq0.f_Kind), dI (qq0.f_View), dI (qq0.f_Seq), dI (qq0.f_Client), dI (qq0.f_Stamp), dS (qq0.f_Digest), dU (qq0.f_Data), dI (qq0.f_Result.f_Code), dI (qq0.f_Result.f_Stage), .d (dsl false false (kE false) (qq0.f_Batch)), .d (dsl false false (kE false) (qq0.f_Pres)), .d (dsl false false (kC false) (qq0.f_Certs))], .one (dI q13)] : AV))) (ix (ix trivial))
  have hm2 := hq5
  refine cF (dF hq5) ?_
  refine sR [] ?_
  by_cases hq6 : (vtV (checkL f u l) f (c.f_Votes.getD k zE) kind).f_Digest ≠ (ppV (checkL f u l) f c.f_Pre).f_Digest
  ·have he9 := hg9.trans (mus_d hm1 hm2 hq6); have hz9 := tly_at (g := gC (checkL f u l) f (ppV (checkL f u l) f c.f_Pre) kind c.f_Pre.f_Signer) need hb ((vot_1 (by rw [he9]; decide)).trans he9) (by decide) (by omega); have hx9 := ce_t hp9 (by rw [hz9]; exact (by decide)); rw [hz9] at hx9
   refine cT (dT hq6) ?_
   refine sR [] ?_
   refine T.ret (rB (rB (rT (rT (rB (rT ?_))))))
   refine eN ⟨(Zfx f u l c kind need k), (Zfq f u l c kind k)⟩ ?_
   refine Ends.turn (s' := ⟨(Zfx f u l c kind need k), (Zfr f u l c kind k)⟩) (fun _ _ hG => Gs.less (s := ⟨(Zfx f u l c kind need k), (Zfq f u l c kind k)⟩) (kk32 (kk32 trivial)) ⟨.inl rfl, (kk2 ⟨(.inr ⟨rfl, (kk2 (kk4 ⟨(.inr ⟨rfl, rfl, rfl⟩), (kk2 ⟨(.inr ⟨rfl, rfl, rfl⟩), ⟨(.inr ⟨rfl, rfl, rfl⟩), ⟨(.inr ⟨rfl, rfl, rfl⟩), trivial⟩⟩⟩)⟩))⟩), (kk2 trivial)⟩)⟩ hG) ?_
   exact eX [.c 8 3 46 0 46 [dI 0, dI 0, dI 0, dI 0, dI 0, dS [], Zfd, dI 0, dI 0, Zfe, Zfe, Zff] (Zfh), .t 9 (.one (dI 132))] ⟨⟨rfl, rfl, by kernel_rfl, by kernel_rfl, .inl ⟨12, wide_46, rfl, Nat.le_of_ble_eq_true rfl⟩⟩, ⟨⟨rfl, by kernel_rfl⟩, trivial⟩⟩ [0, 1] (gc2 (hx9.1) (by exact hx9.2) (fun qq0 (q13 : Int) => (.tup [.agg [dI (qq0.f_Kind), dI (qq0.f_View), dI (qq0.f_Seq), dI (qq0.f_Client), dI (qq0.f_Stamp), dS (qq0.f_Digest), dU (qq0.f_Data), dI (qq0.f_Result.f_Code), dI (qq0.f_Result.f_Stage), .d (dsl false false (kE false) (qq0.f_Batch)), .d (dsl false false (kE false) (qq0.f_Pres)), .d (dsl false false (kC false) (qq0.f_Certs))], .one (dI q13)] : AV))) (ix (ix trivial))
  have hm3 := hq6
  refine cF (dF hq6) ?_
  by_cases hq7 : kind = 3
  ·have hk3 := hq7
   refine sD [[], [0], [0, 1], [0, 1, 2], [0, 1, 2, 3], [0, 1, 2], [0, 1, 2, 3, 4, 5], [0, 1, 2, 3, 4, 5, 6], [0, 1, 2, 3, 4, 5, 6, 7], [0, 1, 2], [0, 1, 2], [0, 1, 2, 10], [0, 1, 2, 9, 10, 11], [0, 1, 2, 3, 4, 5, 6, 7, 8, 9, 10, 11, 12], [0, 1, 2, 3, 4, 5, 6, 7, 8, 9, 10, 11, 12, 13], [0, 1, 2, 3, 4, 5, 6, 7, 8, 9, 10, 11, 12, 13, 14]] [hY 3 (dT hq7),
     hY 4 (dT hq7),
     hY 5 (dT hq7),
     hS 6 (oY rfl rfl rfl rfl (lt_of rfl) (dT hq7) (q_index false false (kE false) c.f_Votes k (k := .i64) (i := ((k : Nat) : Int)) Tryz.underlying36 iat_35 rfl rfl (by omega) (lt_of rfl) (by exact trivial))),
     hY 7 (dT hq7),
     hY 8 (dT hq7),
     hY 9 (dT hq7),
     hY 10 (dT hq7),
     hY 11 (dT hq7),
     hS 12 (oY rfl rfl rfl rfl (lt_of rfl) (dT hq7) (rCa (ref03_Primary f u l (ppV (checkL f u l) f c.f_Pre).f_View ‹_› ‹_›) Tryz.func17 [0, 1] [(.tmp 80, pv 0 0), (.tmp 82, vI (Zfa f u l c).f_View)] 2 2)),
     hY 13 (dT hq7),
     hP 14 (dT hq7)] ?_
   by_cases hq8 : (c.f_Votes.getD k zE).f_Signer = (primaryA f (ppV (checkL f u l) f c.f_Pre).f_View)
   ·have he9 := hg9.trans (mus_p hm1 hm2 hm3 hk3 (hq8.trans hpr.symm)); have hz9 := tly_at (g := gC (checkL f u l) f (ppV (checkL f u l) f c.f_Pre) kind c.f_Pre.f_Signer) need hb ((vot_1 (by rw [he9]; decide)).trans he9) (by decide) (by omega); have hx9 := ce_t hp9 (by rw [hz9]; exact (by decide)); rw [hz9] at hx9
    refine cT (dT hq8) ?_
    refine sR [] ?_
    refine T.ret (rB (rB (rT (rT (rB (rT ?_))))))
    refine eN ⟨(Zfy f u l c kind need k), (Zfq f u l c kind k)⟩ ?_
    refine Ends.turn (s' := ⟨(Zfy f u l c kind need k), (Zfr f u l c kind k)⟩) (fun _ _ hG => Gs.less (s := ⟨(Zfy f u l c kind need k), (Zfq f u l c kind k)⟩) ⟨.inl rfl, (kk2 (kk4 (kk32 (kk32 trivial))))⟩ ⟨.inl rfl, (kk2 ⟨(.inr ⟨rfl, (kk2 (kk4 ⟨(.inr ⟨rfl, rfl, rfl⟩), (kk2 ⟨(.inr ⟨rfl, rfl, rfl⟩), ⟨(.inr ⟨rfl, rfl, rfl⟩), ⟨(.inr ⟨rfl, rfl, rfl⟩), trivial⟩⟩⟩)⟩))⟩), (kk2 trivial)⟩)⟩ hG) ?_
    exact eX [.c 8 3 46 0 46 [dI 0, dI 0, dI 0, dI 0, dI 0, dS [], Zfd, dI 0, dI 0, Zfe, Zfe, Zff] (Zfh), .t 9 (.one (dI 133))] ⟨⟨rfl, rfl, by kernel_rfl, by kernel_rfl, .inl ⟨12, wide_46, rfl, Nat.le_of_ble_eq_true rfl⟩⟩, ⟨⟨rfl, by kernel_rfl⟩, trivial⟩⟩ [0, 1] (gc2 (hx9.1) (by exact hx9.2) (fun qq0 (q13 : Int) => (.tup [.agg [dI (qq0.f_Kind), dI (qq0.f_View), dI (qq0.f_Seq), dI (qq0.f_Client), dI (qq0.f_Stamp), dS (qq0.f_Digest), dU (qq0.f_Data), dI (qq0.f_Result.f_Code), dI (qq0.f_Result.f_Stage), .d (dsl false false (kE false) (qq0.f_Batch)), .d (dsl false false (kE false) (qq0.f_Pres)), .d (dsl false false (kC false) (qq0.f_Certs))], .one (dI q13)] : AV))) (ix (ix trivial))
   have he9 := hg9.trans (mus_0 hm1 hm2 hm3 (fun w => hq8 (w.2.trans hpr))); have hn9 : ¬ (gC (checkL f u l) f (ppV (checkL f u l) f c.f_Pre) kind c.f_Pre.f_Signer) (c.f_Votes.getD k zE) ≠ 0 := (by rw [he9]; simp)
   refine cF (dF hq8) ?_
   refine sR [hR 3 rfl rfl (rCa (ref13_twice c.f_Votes k (by omega) (by omega)) Tryz.func58 [] [(.tmp 89, slV false false (kE false) c.f_Votes), (.tmp 90, (Zfi k))] 0 0)] ?_
   by_cases hq9 : twiceL c.f_Votes k
   ·have hz9 := tly_at (g := gC (checkL f u l) f (ppV (checkL f u l) f c.f_Pre) kind c.f_Pre.f_Signer) need hb (vot_2 hn9 hq9) (by decide) (by omega); have hx9 := ce_t hp9 (by rw [hz9]; exact (by decide)); rw [hz9] at hx9
    refine cT (dT hq9) ?_
    refine sR [] ?_
    refine T.ret (rB (rB (rT (rT (rB (rT ?_))))))
    refine eN ⟨(Zfz f u l c kind need k), (Zfq f u l c kind k)⟩ ?_
    refine Ends.turn (s' := ⟨(Zfz f u l c kind need k), (Zfr f u l c kind k)⟩) (fun _ _ hG => Gs.less (s := ⟨(Zfz f u l c kind need k), (Zfq f u l c kind k)⟩) (kk8 (kk16 (kk32 (kk32 trivial)))) ⟨.inl rfl, (kk2 ⟨(.inr ⟨rfl, (kk2 (kk4 ⟨(.inr ⟨rfl, rfl, rfl⟩), (kk2 ⟨(.inr ⟨rfl, rfl, rfl⟩), ⟨(.inr ⟨rfl, rfl, rfl⟩), ⟨(.inr ⟨rfl, rfl, rfl⟩), trivial⟩⟩⟩)⟩))⟩), (kk2 trivial)⟩)⟩ hG) ?_
    exact eX [.c 8 3 46 0 46 [dI 0, dI 0, dI 0, dI 0, dI 0, dS [], Zfd, dI 0, dI 0, Zfe, Zfe, Zff] (Zfh), .t 9 (.one (dI 33))] ⟨⟨rfl, rfl, by kernel_rfl, by kernel_rfl, .inl ⟨12, wide_46, rfl, Nat.le_of_ble_eq_true rfl⟩⟩, ⟨⟨rfl, by kernel_rfl⟩, trivial⟩⟩ [0, 1] (gc2 (hx9.1) (by exact hx9.2) (fun qq0 (q13 : Int) => (.tup [.agg [dI (qq0.f_Kind), dI (qq0.f_View), dI (qq0.f_Seq), dI (qq0.f_Client), dI (qq0.f_Stamp), dS (qq0.f_Digest), dU (qq0.f_Data), dI (qq0.f_Result.f_Code), dI (qq0.f_Result.f_Stage), .d (dsl false false (kE false) (qq0.f_Batch)), .d (dsl false false (kE false) (qq0.f_Pres)), .d (dsl false false (kC false) (qq0.f_Certs))], .one (dI q13)] : AV))) (ix (ix trivial))
   have ht9 := hq9
   refine cF (dF hq9) ?_
   refine T.skip ?_
   refine nB ?_
   refine nB ?_
   refine nT ?_
   refine xK [hR 1 rfl rfl (r_bin (u1 := .int .i64 ((k : Nat) : Int)) (u2 := .int .i64 1) (v := .int .i64 ((k + 1 : Nat) : Int)) (b_add (by rw [IntKind.wrap_i64]; omega)) (lt_of rfl) ⟨rfl, trivial⟩)] ?_
   refine nL (k + 1) ⟨(show (k + 1) ≤ c.f_Votes.length from (by omega)), (show ∀ i, i < (k + 1) → votN (gC (checkL f u l) f (ppV (checkL f u l) f c.f_Pre) kind c.f_Pre.f_Signer) c.f_Votes i = 0 from (all_succ hb (vot_3 hn9 ht9)))⟩ (show (c.f_Votes.length - (k + 1) : Nat) < c.f_Votes.length - k from (by omega)) (fun _ _ hG => Gs.iI [0, 1, 2, 3, 4] (bm 13 5935) rfl rfl hG)
  have he9 := hg9.trans (mus_0 hm1 hm2 hm3 (fun w => hq7 w.1)); have hn9 : ¬ (gC (checkL f u l) f (ppV (checkL f u l) f c.f_Pre) kind c.f_Pre.f_Signer) (c.f_Votes.getD k zE) ≠ 0 := (by rw [he9]; simp)
  refine sD [[], [0], [0, 1], [0, 1, 2], [0, 1, 2, 3], [0, 1, 2], [0, 1, 2, 3, 4, 5], [0, 1, 2, 3, 4, 5, 6], [0, 1, 2, 3, 4, 5, 6, 7], [0, 1, 2], [0, 1, 2], [0, 1, 2, 10], [0, 1, 2, 9, 10, 11], [0, 1, 2, 3, 4, 5, 6, 7, 8, 9, 10, 11, 12], [0, 1, 2, 3, 4, 5, 6, 7, 8, 9, 10, 11, 12, 13], [0, 1, 2, 3, 4, 5, 6, 7, 8, 9, 10, 11, 12, 13, 14]] [hN 3 true (dF hq7),
    hN 4 true (dF hq7),
    hN 5 true (dF hq7),
    hN 6 true (dF hq7),
    hN 7 true (dF hq7),
    hN 8 true (dF hq7),
    hN 9 true (dF hq7),
    hN 10 true (dF hq7),
    hN 11 true (dF hq7),
    hN 12 true (dF hq7),
    hN 13 true (dF hq7),
    hP 14 (dF hq7)] ?_
  refine cF (b := false) rfl ?_
  refine sR [hR 3 rfl rfl (rCa (ref13_twice c.f_Votes k (by omega) (by omega)) Tryz.func58 [] [(.tmp 89, slV false false (kE false) c.f_Votes), (.tmp 90, (Zfi k))] 0 0)] ?_
  by_cases hq10 : twiceL c.f_Votes k
  ·have hz9 := tly_at (g := gC (checkL f u l) f (ppV (checkL f u l) f c.f_Pre) kind c.f_Pre.f_Signer) need hb (vot_2 hn9 hq10) (by decide) (by omega); have hx9 := ce_t hp9 (by rw [hz9]; exact (by decide)); rw [hz9] at hx9
   refine cT (dT hq10) ?_
   refine sR [] ?_
   refine T.ret (rB (rB (rT (rT (rB (rT ?_))))))
   refine eN ⟨(Zg1 f u l c kind need k), (Zfq f u l c kind k)⟩ ?_
   refine Ends.turn (s' := ⟨(Zg1 f u l c kind need k), (Zfr f u l c kind k)⟩) (fun _ _ hG => Gs.less (s := ⟨(Zg1 f u l c kind need k), (Zfq f u l c kind k)⟩) (kk8 (kk16 (kk32 (kk32 trivial)))) ⟨.inl rfl, (kk2 ⟨(.inr ⟨rfl, (kk2 (kk4 ⟨(.inr ⟨rfl, rfl, rfl⟩), (kk2 ⟨(.inr ⟨rfl, rfl, rfl⟩), ⟨(.inr ⟨rfl, rfl, rfl⟩), ⟨(.inr ⟨rfl, rfl, rfl⟩), trivial⟩⟩⟩)⟩))⟩), (kk2 trivial)⟩)⟩ hG) ?_
   exact eX [.c 8 3 46 0 46 [dI 0, dI 0, dI 0, dI 0, dI 0, dS [], Zfd, dI 0, dI 0, Zfe, Zfe, Zff] (Zfh), .t 9 (.one (dI 33))] ⟨⟨rfl, rfl, by kernel_rfl, by kernel_rfl, .inl ⟨12, wide_46, rfl, Nat.le_of_ble_eq_true rfl⟩⟩, ⟨⟨rfl, by kernel_rfl⟩, trivial⟩⟩ [0, 1] (gc2 (hx9.1) (by exact hx9.2) (fun qq0 (q13 : Int) => (.tup [.agg [dI (qq0.f_Kind), dI (qq0.f_View), dI (qq0.f_Seq), dI (qq0.f_Client), dI (qq0.f_Stamp), dS (qq0.f_Digest), dU (qq0.f_Data), dI (qq0.f_Result.f_Code), dI (qq0.f_Result.f_Stage), .d (dsl false false (kE false) (qq0.f_Batch)), .d (dsl false false (kE false) (qq0.f_Pres)), .d (dsl false false (kC false) (qq0.f_Certs))], .one (dI q13)] : AV))) (ix (ix trivial))
  have ht9 := hq10
  refine cF (dF hq10) ?_
  refine T.skip ?_
  refine nB ?_
  refine nB ?_
  refine nT ?_
  refine xK [hR 1 rfl rfl (r_bin (u1 := .int .i64 ((k : Nat) : Int)) (u2 := .int .i64 1) (v := .int .i64 ((k + 1 : Nat) : Int)) (b_add (by rw [IntKind.wrap_i64]; omega)) (lt_of rfl) ⟨rfl, trivial⟩)] ?_
  refine nL (k + 1) ⟨(show (k + 1) ≤ c.f_Votes.length from (by omega)), (show ∀ i, i < (k + 1) → votN (gC (checkL f u l) f (ppV (checkL f u l) f c.f_Pre) kind c.f_Pre.f_Signer) c.f_Votes i = 0 from (all_succ hb (vot_3 hn9 ht9)))⟩ (show (c.f_Votes.length - (k + 1) : Nat) < c.f_Votes.length - k from (by omega)) (fun _ _ hG => Gs.iI [0, 1, 2, 3, 4] (bm 13 5935) rfl rfl hG)
 have hz0 := tly_0 (g := gC (checkL f u l) f (ppV (checkL f u l) f c.f_Pre) kind c.f_Pre.f_Signer) need hb (by omega)
 refine cF (dF hq2) ?_
 refine T.exit ?_
 refine xT ?_
 refine xT ?_
 refine xH ?_
 refine nT (T.seq ?_)
 refine sR [] ?_
 by_cases hq11 : ((c.f_Votes.length : Nat) : Int) < need
 ·have hx9 := ce_t hp9 (by rw [hz0, if_pos hq11]; decide); rw [hz0, if_pos hq11] at hx9
  refine cT (dT hq11) ?_
  refine sR [] ?_
  refine T.ret (rT ?_)
  refine eN ⟨(Zg2 c kind need k), (Zfc f u l c)⟩ ?_
  refine Ends.turn (s' := ⟨(Zg2 c kind need k), [(Zf5 f u l), (Zf6 l), .live (.box 38 (Zf3 c)), .live (.box 46 Zfg), .live (.box 46 (Zfb f u l c))]⟩) (fun _ _ hG => Gs.less (s := ⟨(Zg2 c kind need k), (Zfc f u l c)⟩) (kk2 (kk32 (kk32 (kk32 trivial)))) ⟨.inl rfl, (kk2 ⟨(.inr ⟨rfl, (kk2 (kk4 ⟨(.inr ⟨rfl, rfl, rfl⟩), (kk2 ⟨(.inr ⟨rfl, rfl, rfl⟩), ⟨(.inr ⟨rfl, rfl, rfl⟩), ⟨(.inr ⟨rfl, rfl, rfl⟩), trivial⟩⟩⟩)⟩))⟩), ⟨.inl rfl, trivial⟩⟩)⟩ hG) ?_
  exact eX [.c 8 3 46 0 46 [dI 0, dI 0, dI 0, dI 0, dI 0, dS [], Zfd, dI 0, dI 0, Zfe, Zfe, Zff] (Zfh), .t 9 (.one (dI 32))] ⟨⟨rfl, rfl, by kernel_rfl, by kernel_rfl, .inl ⟨12, wide_46, rfl, Nat.le_of_ble_eq_true rfl⟩⟩, ⟨⟨rfl, by kernel_rfl⟩, trivial⟩⟩ [0, 1] (gc2 (hx9.1) (by exact hx9.2) (fun qq0 (q13 : Int) => (.tup [.agg [dI (qq0.f_Kind), dI (qq0.f_View), dI (qq0.f_Seq), dI (qq0.f_Client), dI (qq0.f_Stamp), dS (qq0.f_Digest), dU (qq0.f_Data), dI (qq0.f_Result.f_Code), dI (qq0.f_Result.f_Stage), .d (dsl false false (kE false) (qq0.f_Batch)), .d (dsl false false (kE false) (qq0.f_Pres)), .d (dsl false false (kC false) (qq0.f_Certs))], .one (dI q13)] : AV))) (ix (ix trivial))
 have hx9 := ce_ok hp9 (by rw [hz0, if_neg hq11]; simp)
 refine cF (dF hq11) ?_
 refine T.skip (nT ?_)
 refine sR [] ?_
 refine T.ret ?_
 exact eX [.c 8 3 46 0 46 [dI (Zfa f u l c).f_Kind, dI (Zfa f u l c).f_View, dI (Zfa f u l c).f_Seq, dI (Zfa f u l c).f_Client, dI (Zfa f u l c).f_Stamp, dS (Zfa f u l c).f_Digest, dU (Zfa f u l c).f_Data, dI (Zfa f u l c).f_Result.f_Code, dI (Zfa f u l c).f_Result.f_Stage, .d (dsl false false (kE false) (Zfa f u l c).f_Batch), .d (dsl false false (kE false) (Zfa f u l c).f_Pres), .d (dsl false false (kC false) (Zfa f u l c).f_Certs)] (.agg (Zfb f u l c)), .t 9 (.one (dI 0))] ⟨⟨rfl, rfl, by kernel_rfl, by kernel_rfl, .inl ⟨12, wide_46, rfl, Nat.le_of_ble_eq_true rfl⟩⟩, ⟨⟨rfl, by kernel_rfl⟩, trivial⟩⟩ [0, 1] (gc2 (hx9.1) (by exact hx9.2) (fun qq0 (q13 : Int) => (.tup [.agg [dI (qq0.f_Kind), dI (qq0.f_View), dI (qq0.f_Seq), dI (qq0.f_Client), dI (qq0.f_Stamp), dS (qq0.f_Digest), dU (qq0.f_Data), dI (qq0.f_Result.f_Code), dI (qq0.f_Result.f_Stage), .d (dsl false false (kE false) (qq0.f_Batch)), .d (dsl false false (kE false) (qq0.f_Pres)), .d (dsl false false (kC false) (qq0.f_Certs))], .one (dI q13)] : AV))) (ix (ix trivial))
end Go.Proofs.YtalapplihdmenaaGreat.Q
