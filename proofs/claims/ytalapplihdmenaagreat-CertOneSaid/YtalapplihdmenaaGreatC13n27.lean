import Derived.Test.YtalapplihdmenaaGreatC13n26
namespace Go.Proofs.YtalapplihdmenaaGreat.Q
open Go Go.RowKit
set_option linter.unusedVariables false
set_option linter.unusedSimpArgs false
set_option maxRecDepth 100000
set_option maxHeartbeats 4000000
section
variable (f : Int) (u : Int) (rows : List (authn_pair × Bool)) (tp : Bool) (p : aM) (tc : Bool) (c : aC) (tx : Bool) (nx : Bool) (sx : Bool) (x : List aE) (need : Int) (kind : Int) (k : Nat)
abbrev Zf1 : HS := .live (.box 98 [dI (3 * f + 1), dI u, .mref 1])
abbrev Zf2 : HS := .live (mpK f_authn_pair kBool rows)
abbrev Zf3 : HS := .live (.box 46 [dI p.f_Kind, dI p.f_View, dI p.f_Seq, dI p.f_Client, dI p.f_Stamp, dS p.f_Digest, .d (dsl tp false kU8 p.f_Data), dI p.f_Result.f_Code, dI p.f_Result.f_Stage, .d (dsl tp false (kE tp) p.f_Batch), .d (dsl tp false (kE tp) p.f_Pres), .d (dsl tp false (kC tp) p.f_Certs)])
abbrev Zf4 : HS := .live (.box 3 [dI kind])
abbrev Zf5 : HS := .live (.box 38 [dI c.f_Pre.f_Signer, .d (dsl tc false kU8 c.f_Pre.f_Body), .d (dsl tc false (kE tc) c.f_Votes)])
abbrev Zf6 : List AV := [pv 0 0, slV tx nx (kE sx) x, vI kind, vI need, sv (.clo 55 [2, 3, 4]), aa, aa, aa, aa, aa, aa, sv (.mref 5), aa, aa, aa, aa, aa, slV tx nx (kE sx) x, vI ((x.length : Nat) : Int), vI ((k : Nat) : Int)]
abbrev Zf8 := (vtV (checkE f u rows) f (x.getD k zE) kind)
abbrev Zf9 : AV := vI (x.getD k zE).f_Signer
end
theorem cert_tally (f : Int) (u : Int) (rows : List (authn_pair × Bool)) (tx : Bool) (nx : Bool) (sx : Bool) (x : List aE) (need : Int) (tp : Bool) (p : aM) (kind : Int) (tc : Bool) (c : aC) (hf : 0 ≤ f ∧ f ≤ 2) (hu : 0 ≤ u ∧ u ≤ 8) (hx : okEs x) : Holds Tryz.prog 54 ⟨[pv 0 0, slV tx nx (kE sx) x, vI kind, vI need, sv (.clo 55 [2, 3, 4])], [.box 98 [dI (3 * f + 1), dI u, .mref 1], mpK f_authn_pair kBool rows, .box 46 [dI p.f_Kind, dI p.f_View, dI p.f_Seq, dI p.f_Client, dI p.f_Stamp, dS p.f_Digest, .d (dsl tp false kU8 p.f_Data), dI p.f_Result.f_Code, dI p.f_Result.f_Stage, .d (dsl tp false (kE tp) p.f_Batch), .d (dsl tp false (kE tp) p.f_Pres), .d (dsl tp false (kC tp) p.f_Certs)], .box 3 [dI kind], .box 38 [dI c.f_Pre.f_Signer, .d (dsl tc false kU8 c.f_Pre.f_Body), .d (dsl tc false (kE tc) c.f_Votes)]], vI (tlyE (gC (checkE f u rows) f p kind c.f_Pre.f_Signer) x need), [.live (.box 98 [dI (3 * f + 1), dI u, .mref 1]), .live (mpK f_authn_pair kBool rows), .live (.box 46 [dI p.f_Kind, dI p.f_View, dI p.f_Seq, dI p.f_Client, dI p.f_Stamp, dS p.f_Digest, .d (dsl tp false kU8 p.f_Data), dI p.f_Result.f_Code, dI p.f_Result.f_Stage, .d (dsl tp false (kE tp) p.f_Batch), .d (dsl tp false (kE tp) p.f_Pres), .d (dsl tp false (kC tp) p.f_Certs)]), .live (.box 3 [dI kind]), .live (.box 38 [dI c.f_Pre.f_Signer, .d (dsl tc false kU8 c.f_Pre.f_Body), .d (dsl tc false (kE tc) c.f_Votes)])]⟩ := by
 refine Holds.of Tryz.func54 rfl (N := 56) Tryz.ntmps54 rfl fun w0 B0 S0 U0 => ?_
 show T _ (mkBase 56 5 w0 S0 U0 B0) ⟨[pv 0 0, slV tx nx (kE sx) x, vI kind, vI need, sv (.clo 55 [2, 3, 4])], [(Zf1 f u), (Zf2 rows), (Zf3 tp p), (Zf4 kind), (Zf5 tc c)]⟩ _ _
 have hx1 := hx.1
 refine sR [] ?_
 refine sR [hR 0 rfl rfl (r_makeMap 5 (fInt .i64) kBool (lt_of rfl))] ?_
 refine T.seq ?_
 refine sR [] ?_
 refine T.block ?_
 refine T.loop (ι := Nat) (fun (k : Nat) => ⟨(Zf6 tx nx sx x need kind k), [(Zf1 f u), (Zf2 rows), (Zf3 tp p), (Zf4 kind), (Zf5 tc c), .live (mpK (fInt .i64) kBool (seenT x k))]⟩) (fun (k : Nat) => (k ≤ x.length) ∧ (∀ i, i < k → votN (gC (checkE f u rows) f p kind c.f_Pre.f_Signer) x i = 0)) (fun (k : Nat) => x.length - k) (0) ⟨(Nat.zero_le _), (fun j hj => absurd hj (Nat.not_lt_zero _))⟩ (fun _ _ hG => Gs.iI [0, 1, 2, 3, 4, 5] (bm 20 919583) (h2 := [(Zf1 f u), (Zf2 rows), (Zf3 tp p), (Zf4 kind), (Zf5 tc c), .live (mpK (fInt .i64) kBool ([] : List (Int × Bool)))]) rfl (congrArg (fun (q1 : List (Int × Bool)) => ([(Zf1 f u), (Zf2 rows), (Zf3 tp p), (Zf4 kind), (Zf5 tc c), .live (mpK (fInt .i64) kBool q1)] : List HS)) (by rfl)) hG) ?_
 rintro k ⟨hk, hb⟩
 show T _ _ ⟨(Zf6 tx nx sx x need kind k), [(Zf1 f u), (Zf2 rows), (Zf3 tp p), (Zf4 kind), (Zf5 tc c), .live (mpK (fInt .i64) kBool (seenT x k))]⟩ _ _
 replace hk : k ≤ x.length := hk
 replace hb : ∀ i, i < k → votN (gC (checkE f u rows) f p kind c.f_Pre.f_Signer) x i = 0 := hb
 refine sR [] ?_
 refine T.seq ?_
 by_cases hq1 : ((k : Nat) : Int) < ((x.length : Nat) : Int)
 ·have hgk := okEs_get hx (k := k) (by omega); have hgk1 := hgk.1.1; have hgk2 := hgk.1.2; have hgk3 := hgk.2
  refine cT (dT hq1) ?_
  refine T.skip (nT (T.seq ?_))
  refine T.block ?_
  refine sR [hR 0 rfl rfl (q_index tx nx (kE sx) x k (k := .i64) (i := ((k : Nat) : Int)) Tryz.underlying36 iat_35 rfl rfl (by omega) (lt_of rfl) trivial)] ?_
  refine sR [hR 3 rfl rfl (rCa (cert_Vote f u rows sx (x.getD k zE) kind ‹_› ‹_› (by omega) (by omega)) Tryz.func75 [0, 1] [(.tmp 24, pv 0 0), (.tmp 25, .tv (.agg [dI (x.getD k zE).f_Signer, .d (dsl sx false kU8 (x.getD k zE).f_Body)])), (.tmp 26, vI kind)] 2 2)] ?_
  refine T.seq ?_
  refine sR [] ?_
  by_cases hq2 : (vtE (checkE f u rows) f (x.getD k zE) kind) = 0
  ·have hv9 : ¬ vtE (checkE f u rows) f (x.getD k zE) kind ≠ 0 := (fun q => q hq2); have hg9 := gC_2 (p := p) (pre := c.f_Pre.f_Signer) hv9
   refine cT (dT hq2) ?_
   refine xK [hR 4 rfl rfl (r_callC (ls := [2, 3, 4]) (cert_must false (vtV (checkE f u rows) f (x.getD k zE) kind) (x.getD k zE).f_Signer tp p kind tc c ) Tryz.func55 rfl (by decide) [2, 3, 4] [] (l := [(.tmp 33, .tv (.agg [dI (Zf8 f u rows x kind k).f_Kind, dI (Zf8 f u rows x kind k).f_View, dI (Zf8 f u rows x kind k).f_Seq, dI (Zf8 f u rows x kind k).f_Client, dI (Zf8 f u rows x kind k).f_Stamp, dS (Zf8 f u rows x kind k).f_Digest, dU (Zf8 f u rows x kind k).f_Data, dI (Zf8 f u rows x kind k).f_Result.f_Code, dI (Zf8 f u rows x kind k).f_Result.f_Stage, .d (dsl false false (kE false) (Zf8 f u rows x kind k).f_Batch), .d (dsl false false (kE false) (Zf8 f u rows x kind k).f_Pres), .d (dsl false false (kC false) (Zf8 f u rows x kind k).f_Certs)])), (.tmp 35, (Zf9 x k))]) [] rfl 3 3 rfl rfl rfl rfl rfl rfl rfl rfl rfl ⟨⟨.inl ⟨rfl, rfl⟩, ⟨.inl ⟨rfl, rfl⟩, ⟨.inl ⟨rfl, rfl⟩, ⟨.inl ⟨rfl, rfl⟩, ⟨.inl ⟨rfl, rfl⟩, ⟨.inl ⟨rfl, rfl⟩, ⟨.inl ⟨rfl, rfl⟩, ⟨.inl ⟨rfl, rfl⟩, ⟨.inl ⟨rfl, rfl⟩, ⟨.inl ⟨rfl, rfl⟩, ⟨.inl ⟨rfl, rfl⟩, ⟨.inl ⟨rfl, rfl⟩, trivial⟩⟩⟩⟩⟩⟩⟩⟩⟩⟩⟩⟩, ⟨.inl ⟨rfl, rfl⟩, ⟨.inl ⟨rfl, rfl⟩, ⟨.inl ⟨rfl, rfl⟩, ⟨.inl ⟨rfl, rfl⟩, trivial⟩⟩⟩⟩⟩ rfl (fun b hb => by cases hb) (.inl rfl) (lt_of rfl) trivial)] ?_
   refine nT (T.seq ?_)
   by_cases hq3 : (musE p kind c.f_Pre.f_Signer (vtV (checkE f u rows) f (x.getD k zE) kind) (x.getD k zE).f_Signer) = 0
   ·have hn9 : ¬ (gC (checkE f u rows) f p kind c.f_Pre.f_Signer) (x.getD k zE) ≠ 0 := (by rw [hg9]; exact fun q => q hq3)
    refine sR [hY 3 (dT hq3),
      hY 4 (dT hq3),
      hY 5 (dT hq3),
      hS 6 (oY rfl rfl rfl rfl (lt_of rfl) (dT hq3) (r_lookup 5 (seenT x k) (x.getD k zE).f_Signer (.one (dB (mget (seenT x k) (x.getD k zE).f_Signer false))) (ak := (Zf9 x k)) (kd := kBool) Tryz.underlying125 (mkey_int Tryz.underlying3) rfl zerom_4 ⟨.inl rfl, trivial⟩ rfl (lt_of rfl) (by exact trivial))),
      hP 7 (dT hq3)] ?_
    by_cases hq4 : (mget (seenT x k) (x.getD k zE).f_Signer false) = true
    ·have ht9 := (seen_twice (l := x) (k := k) (by omega)).1 hq4; have hz9 := tly_at (g := gC (checkE f u rows) f p kind c.f_Pre.f_Signer) need hb (vot_2 hn9 ht9) (by decide) (by omega)
     refine cT hq4 ?_
     refine xK [] ?_
     refine nT (T.seq ?_)
     refine sR [] ?_
     refine cT (b := true) rfl ?_
     refine sR [] ?_
     refine T.ret (rT (rB (rT (rT (rB (rT ?_))))))
     exact eRt 10 (.one (dI 33)) [0, 1, 2, 3, 4] (cI (by exact hz9)) (ix (ix (ix (ix (ix trivial)))))
    have ht9 : ¬ twiceL x k := (fun q => absurd ((seen_twice (by omega)).2 q) ‹_›)
    replace hq4 := Bool.eq_false_iff.2 hq4
    refine cF hq4 ?_
    refine T.skip (nT (T.seq ?_))
    refine sR [] ?_
    by_cases hq5 : (musE p kind c.f_Pre.f_Signer (vtV (checkE f u rows) f (x.getD k zE) kind) (x.getD k zE).f_Signer) ≠ 0
    ·exact absurd hq3 hq5
    refine cF (dF hq5) ?_
    refine T.skip (nT ?_)
    refine xK [hR 3 rfl rfl (r_mapUpdate 5 (seenT x k) (x.getD k zE).f_Signer true (kd := kBool) (ak := (Zf9 x k)) (tv := .one (dB true)) Tryz.underlying125 (mkey_int Tryz.underlying3) rfl rfl ⟨.inl rfl, trivial⟩ ⟨rfl, trivial⟩)] ?_
    refine nB ?_
    refine nT ?_
    refine xK [hR 0 rfl rfl (r_bin (u1 := .int .i64 ((k : Nat) : Int)) (u2 := .int .i64 1) (v := .int .i64 ((k + 1 : Nat) : Int)) (b_add (by rw [IntKind.wrap_i64]; omega)) (lt_of rfl) ⟨rfl, trivial⟩)] ?_
    refine nL (k + 1) ⟨(show (k + 1) ≤ x.length from (by omega)), (show ∀ i, i < (k + 1) → votN (gC (checkE f u rows) f p kind c.f_Pre.f_Signer) x i = 0 from (all_succ hb (vot_3 hn9 ht9)))⟩ (show (x.length - (k + 1) : Nat) < x.length - k from (by omega)) (fun _ _ hG => Gs.iI [0, 1, 2, 3, 4, 5] (bm 20 919583) (h2 := [(Zf1 f u), (Zf2 rows), (Zf3 tp p), (Zf4 kind), (Zf5 tc c), .live (mpK (fInt .i64) kBool (mput (seenT x k) (x.getD k zE).f_Signer true))]) rfl (by have e1 : ((seenT x (k + 1)) : List (Int × Bool)) = (mput (seenT x k) (x.getD k zE).f_Signer true) := (by (rw [seen_succ (by omega)])); have hE := congrArg (fun (q1 : List (Int × Bool)) => ([(Zf1 f u), (Zf2 rows), (Zf3 tp p), (Zf4 kind), (Zf5 tc c), .live (mpK (fInt .i64) kBool q1)] : List HS)) e1; exact hE) hG)
   refine sR [hN 3 true (dF hq3),
     hN 4 true (dF hq3),
     hN 5 true (dF hq3),
     hN 6 true (dF hq3),
     hP 7 (dF hq3)] ?_
   refine cF (b := false) rfl ?_
   refine T.skip (nT (T.seq ?_))
   refine sR [] ?_
   by_cases hq6 : (musE p kind c.f_Pre.f_Signer (vtV (checkE f u rows) f (x.getD k zE) kind) (x.getD k zE).f_Signer) ≠ 0
   ·have hz9 := tly_at (g := gC (checkE f u rows) f p kind c.f_Pre.f_Signer) need hb ((vot_1 (by rw [hg9]; exact hq6)).trans hg9) hq6 (by omega)
    refine cT (dT hq6) ?_
    refine sR [] ?_
    refine T.ret (rT (rB (rT (rT (rB (rT ?_))))))
    exact eRt 10 (.one (dI (musE p kind c.f_Pre.f_Signer (Zf8 f u rows x kind k) (x.getD k zE).f_Signer))) [0, 1, 2, 3, 4] (cI (by exact hz9)) (ix (ix (ix (ix (ix trivial)))))
   exact absurd hq3 hq6
  have hg9 := gC_1 (p := p) (pre := c.f_Pre.f_Signer) hq2
  refine cF (dF hq2) ?_
  refine T.skip (nT (T.seq ?_))
  refine sR [hN 3 true (dF hq2),
    hN 4 true (dF hq2),
    hN 5 true (dF hq2),
    hN 6 true (dF hq2),
    hP 7 (dF hq2)] ?_
  refine cF (b := false) rfl ?_
  refine T.skip (nT (T.seq ?_))
  refine sR [] ?_
  by_cases hq7 : (vtE (checkE f u rows) f (x.getD k zE) kind) ≠ 0
  ·have hz9 := tly_at (g := gC (checkE f u rows) f p kind c.f_Pre.f_Signer) need hb ((vot_1 (by rw [hg9]; exact hq7)).trans hg9) hq7 (by omega)
   refine cT (dT hq7) ?_
   refine sR [] ?_
   refine T.ret (rT (rB (rT (rT (rB (rT ?_))))))
   exact eRt 10 (.one (dI (vtE (checkE f u rows) f (x.getD k zE) kind))) [0, 1, 2, 3, 4] (cI (by exact hz9)) (ix (ix (ix (ix (ix trivial)))))
  exact absurd hq2 hq7
 have hz9 := tly_0 (g := gC (checkE f u rows) f p kind c.f_Pre.f_Signer) need hb (by omega)
 refine cF (dF hq1) ?_
 refine T.exit ?_
 refine xT ?_
 refine xT ?_
 refine xH ?_
 refine nT (T.seq ?_)
 refine sR [] ?_
 by_cases hq8 : ((x.length : Nat) : Int) < need
 ·refine cT (dT hq8) ?_
  refine sR [] ?_
  refine T.ret (rT ?_)
  exact eRt 10 (.one (dI 32)) [0, 1, 2, 3, 4] (by have e1 : ((tlyE (gC (checkE f u rows) f p kind c.f_Pre.f_Signer) x need) : Int) = 32 := (by (rw [hz9, if_pos ‹_›])); have hE := cI e1; exact hE) (ix (ix (ix (ix (ix trivial)))))
 refine cF (dF hq8) ?_
 refine T.skip (nT ?_)
 refine sR [] ?_
 refine T.ret ?_
 exact eRt 10 (.one (dI 0)) [0, 1, 2, 3, 4] (by have e1 : ((tlyE (gC (checkE f u rows) f p kind c.f_Pre.f_Signer) x need) : Int) = 0 := (by (rw [hz9, if_neg ‹_›])); have hE := cI e1; exact hE) (ix (ix (ix (ix (ix trivial)))))
section
variable (f : Int) (u : Int) (rows : List (authn_pair × Bool)) (tc : Bool) (c : aC) (kind : Int) (need : Int)
abbrev Zfb : List SV := [dI c.f_Pre.f_Signer, .d (dsl tc false kU8 c.f_Pre.f_Body), .d (dsl tc false (kE tc) c.f_Votes)]
abbrev Zfc : HS := .live (.box 98 [dI (3 * f + 1), dI u, .mref 1])
abbrev Zfd : List AV := [pv 0 0, .tv (.agg (Zfb tc c)), vI kind, vI need, aa, pv 2 0, pv 3 0, aa, pv 4 0, vI (ppE (checkE f u rows) f c.f_Pre), pv 5 0, vI (ppE (checkE f u rows) f c.f_Pre), aa, aa, aa, aa, aa, aa, aa, aa, vB (decide ((ppE (checkE f u rows) f c.f_Pre) ≠ 0))]
abbrev Zfe : SV := .d (.val (.slice none 0 0))
abbrev Zff := (ppV (checkE f u rows) f c.f_Pre)
abbrev Zfg : List SV := [dI (Zff f u rows c).f_Kind, dI (Zff f u rows c).f_View, dI (Zff f u rows c).f_Seq, dI (Zff f u rows c).f_Client, dI (Zff f u rows c).f_Stamp, dS (Zff f u rows c).f_Digest, dU (Zff f u rows c).f_Data, dI (Zff f u rows c).f_Result.f_Code, dI (Zff f u rows c).f_Result.f_Stage, .d (dsl false false (kE false) (Zff f u rows c).f_Batch), .d (dsl false false (kE false) (Zff f u rows c).f_Pres), .d (dsl false false (kC false) (Zff f u rows c).f_Certs)]
abbrev Zfh : List HS := [(Zfc f u), .live (mpK f_authn_pair kBool rows), .live (.box 38 (Zfb tc c)), .live (.box 3 [dI kind]), .live (.box 46 [dI 0, dI 0, dI 0, dI 0, dI 0, dS [], Zfe, dI 0, dI 0, Zfe, Zfe, Zfe]), .live (.box 46 (Zfg f u rows c))]
abbrev Zfi : SV := dU ([] : List UInt8)
abbrev Zfj : SV := .d (dsl false false (kE false) ([] : List aE))
abbrev Zfk : SV := .d (dsl false false (kC false) ([] : List aC))
abbrev Zfl : List SV := [dI 0, dI 0, dI 0, dI 0, dI 0, dS [], Zfi, dI 0, dI 0, Zfj, Zfj, Zfk]
abbrev Zfm : List AV := [pv 0 0, .tv (.agg (Zfb tc c)), vI kind, vI need, aa, pv 2 0, pv 3 0, aa, pv 4 0, vI (tlyE (gC (checkE f u rows) f (Zff f u rows c) kind c.f_Pre.f_Signer) c.f_Votes need), pv 5 0, vI (tlyE (gC (checkE f u rows) f (Zff f u rows c) kind c.f_Pre.f_Signer) c.f_Votes need), aa, aa, aa, aa, aa, aa, aa, aa, vB (decide ((ppE (checkE f u rows) f c.f_Pre) ≠ 0)), aa, aa, aa, aa, aa, aa, aa, aa, aa, aa, vB (decide ((tlyE (gC (checkE f u rows) f (Zff f u rows c) kind c.f_Pre.f_Signer) c.f_Votes need) ≠ 0))]
end
theorem cert_certified (f : Int) (u : Int) (rows : List (authn_pair × Bool)) (tc : Bool) (c : aC) (kind : Int) (need : Int) (hf : 0 ≤ f ∧ f ≤ 2) (hu : 0 ≤ u ∧ u ≤ 8) (hs : -9223372036854775808 ≤ c.f_Pre.f_Signer ∧ c.f_Pre.f_Signer ≤ 9223372036854775807) (hb : c.f_Pre.f_Body.length ≤ 100000000) (hx : okEs c.f_Votes) : Holds Tryz.prog 27 ⟨[pv 0 0, .tv (.agg [dI c.f_Pre.f_Signer, .d (dsl tc false kU8 c.f_Pre.f_Body), .d (dsl tc false (kE tc) c.f_Votes)]), vI kind, vI need], [.box 98 [dI (3 * f + 1), dI u, .mref 1], mpK f_authn_pair kBool rows], .tup [.agg [dI (ceV (checkE f u rows) f c kind need).f_Kind, dI (ceV (checkE f u rows) f c kind need).f_View, dI (ceV (checkE f u rows) f c kind need).f_Seq, dI (ceV (checkE f u rows) f c kind need).f_Client, dI (ceV (checkE f u rows) f c kind need).f_Stamp, dS (ceV (checkE f u rows) f c kind need).f_Digest, dU (ceV (checkE f u rows) f c kind need).f_Data, dI (ceV (checkE f u rows) f c kind need).f_Result.f_Code, dI (ceV (checkE f u rows) f c kind need).f_Result.f_Stage, .d (dsl false false (kE false) (ceV (checkE f u rows) f c kind need).f_Batch), .d (dsl false false (kE false) (ceV (checkE f u rows) f c kind need).f_Pres), .d (dsl false false (kC false) (ceV (checkE f u rows) f c kind need).f_Certs)], .one (dI (ceE (checkE f u rows) f c kind need))], [.live (.box 98 [dI (3 * f + 1), dI u, .mref 1]), .live (mpK f_authn_pair kBool rows)]⟩ := by
 refine Holds.of Tryz.func27 rfl (N := 35) Tryz.ntmps27 rfl fun w0 B0 S0 U0 => ?_
 show T _ (mkBase 35 2 w0 S0 U0 B0) ⟨[pv 0 0, .tv (.agg (Zfb tc c)), vI kind, vI need], [(Zfc f u), .live (mpK f_authn_pair kBool rows)]⟩ _ _
 refine sR [] ?_
 refine sR [hR 3 rfl rfl (rCa (cert_PrePrepare f u rows tc c.f_Pre ‹_› ‹_› ‹_› ‹_›) Tryz.func53 [0, 1] [(.tmp 13, pv 0 0), (.tmp 15, .tv (.agg [dI c.f_Pre.f_Signer, .d (dsl tc false kU8 c.f_Pre.f_Body)]))] 2 2)] ?_
 refine T.seq ?_
 refine sR [] ?_
 by_cases hq1 : (ppE (checkE f u rows) f c.f_Pre) ≠ 0
 ·have hx9 := ce_p (kind := kind) (need := need) hq1
  refine cT (dT hq1) ?_
  refine sR [] ?_
  refine T.ret (rT ?_)
  refine eN ⟨(Zfd f u rows tc c kind need), (Zfh f u rows tc c kind)⟩ ?_
  refine Ends.turn (s' := ⟨(Zfd f u rows tc c kind need), [(Zfc f u), .live (mpK f_authn_pair kBool rows), .live (.box 38 (Zfb tc c)), .live (.box 3 [dI kind]), .live (.box 46 Zfl), .live (.box 46 (Zfg f u rows c))]⟩) (fun _ _ hG => Gs.less (s := ⟨(Zfd f u rows tc c kind need), (Zfh f u rows tc c kind)⟩) ⟨.inl rfl, (kk4 (kk16 trivial))⟩ (kk4 ⟨(.inr ⟨rfl, (kk2 (kk4 ⟨(.inr ⟨rfl, rfl, rfl⟩), (kk2 ⟨(.inr ⟨rfl, rfl, rfl⟩), ⟨(.inr ⟨rfl, rfl, rfl⟩), ⟨(.inr ⟨rfl, rfl, rfl⟩), trivial⟩⟩⟩)⟩))⟩), ⟨.inl rfl, trivial⟩⟩) hG) ?_
  exact eX [.c 8 4 46 0 46 [dI 0, dI 0, dI 0, dI 0, dI 0, dS [], Zfi, dI 0, dI 0, Zfj, Zfj, Zfk] (.agg Zfl), .t 9 (.one (dI (ppE (checkE f u rows) f c.f_Pre)))] ⟨⟨rfl, rfl, by kernel_rfl, by kernel_rfl, .inl ⟨12, wide_46, rfl, Nat.le_of_ble_eq_true rfl⟩⟩, ⟨⟨rfl, by kernel_rfl⟩, trivial⟩⟩ [0, 1] (gc2 (hx9.1) (by exact hx9.2) (fun qq0 (q13 : Int) => (.tup [.agg [dI (qq0.f_Kind), dI (qq0.f_View), dI (qq0.f_Seq), dI (qq0.f_Client), dI (qq0.f_Stamp), dS (qq0.f_Digest), dU (qq0.f_Data), dI (qq0.f_Result.f_Code), dI (qq0.f_Result.f_Stage), .d (dsl false false (kE false) (qq0.f_Batch)), .d (dsl false false (kE false) (qq0.f_Pres)), .d (dsl false false (kC false) (qq0.f_Certs))], .one (dI q13)] : AV))) (ix (ix trivial))
 have hp9 := hq1
 refine cF (dF hq1) ?_
 refine T.skip (nT ?_)
 refine sR [hR 5 rfl rfl (r_makeClo (f := 55) (ls := [(.tmp 10, 5), (.tmp 6, 3), (.tmp 5, 2)]) rfl (lt_of rfl) trivial),
   hR 6 rfl rfl (rCa (cert_tally f u rows tc false tc c.f_Votes need false (ppV (checkE f u rows) f c.f_Pre) kind tc c ‹_› ‹_› ‹_›) Tryz.func54 [0, 1, 5, 3, 2] [(.tmp 23, pv 0 0), (.tmp 25, slV tc false (kE tc) c.f_Votes), (.tmp 26, vI kind), (.tmp 27, vI need), (.tmp 28, sv (.clo 55 [5, 3, 2]))] 5 5)] ?_
 refine T.seq ?_
 refine sR [] ?_
 by_cases hq2 : (tlyE (gC (checkE f u rows) f (ppV (checkE f u rows) f c.f_Pre) kind c.f_Pre.f_Signer) c.f_Votes need) ≠ 0
 ·have hx9 := ce_t hp9 hq2
  refine cT (dT hq2) ?_
  refine sR [] ?_
  refine T.ret (rT ?_)
  refine eN ⟨(Zfm f u rows tc c kind need), (Zfh f u rows tc c kind)⟩ ?_
  refine Ends.turn (s' := ⟨(Zfm f u rows tc c kind need), [(Zfc f u), .live (mpK f_authn_pair kBool rows), .live (.box 38 (Zfb tc c)), .live (.box 3 [dI kind]), .live (.box 46 Zfl), .live (.box 46 (Zfg f u rows c))]⟩) (fun _ _ hG => Gs.less (s := ⟨(Zfm f u rows tc c kind need), (Zfh f u rows tc c kind)⟩) (kk32 trivial) (kk4 ⟨(.inr ⟨rfl, (kk2 (kk4 ⟨(.inr ⟨rfl, rfl, rfl⟩), (kk2 ⟨(.inr ⟨rfl, rfl, rfl⟩), ⟨(.inr ⟨rfl, rfl, rfl⟩), ⟨(.inr ⟨rfl, rfl, rfl⟩), trivial⟩⟩⟩)⟩))⟩), ⟨.inl rfl, trivial⟩⟩) hG) ?_
  exact eX [.c 8 4 46 0 46 [dI 0, dI 0, dI 0, dI 0, dI 0, dS [], Zfi, dI 0, dI 0, Zfj, Zfj, Zfk] (.agg Zfl), .t 9 (.one (dI (tlyE (gC (checkE f u rows) f (Zff f u rows c) kind c.f_Pre.f_Signer) c.f_Votes need)))] ⟨⟨rfl, rfl, by kernel_rfl, by kernel_rfl, .inl ⟨12, wide_46, rfl, Nat.le_of_ble_eq_true rfl⟩⟩, ⟨⟨rfl, by kernel_rfl⟩, trivial⟩⟩ [0, 1] (gc2 (hx9.1) (by exact hx9.2) (fun qq0 (q13 : Int) => (.tup [.agg [dI (qq0.f_Kind), dI (qq0.f_View), dI (qq0.f_Seq), dI (qq0.f_Client), dI (qq0.f_Stamp), dS (qq0.f_Digest), dU (qq0.f_Data), dI (qq0.f_Result.f_Code), dI (qq0.f_Result.f_Stage), .d (dsl false false (kE false) (qq0.f_Batch)), .d (dsl false false (kE false) (qq0.f_Pres)), .d (dsl false false (kC false) (qq0.f_Certs))], .one (dI q13)] : AV))) (ix (ix trivial))
 have hx9 := ce_ok hp9 hq2
 refine cF (dF hq2) ?_
 refine T.skip (nT ?_)
 refine sR [] ?_
 refine T.ret ?_
 exact eX [.c 8 4 46 0 46 [dI (Zff f u rows c).f_Kind, dI (Zff f u rows c).f_View, dI (Zff f u rows c).f_Seq, dI (Zff f u rows c).f_Client, dI (Zff f u rows c).f_Stamp, dS (Zff f u rows c).f_Digest, dU (Zff f u rows c).f_Data, dI (Zff f u rows c).f_Result.f_Code, dI (Zff f u rows c).f_Result.f_Stage, .d (dsl false false (kE false) (Zff f u rows c).f_Batch), .d (dsl false false (kE false) (Zff f u rows c).f_Pres), .d (dsl false false (kC false) (Zff f u rows c).f_Certs)] (.agg (Zfg f u rows c)), .t 9 (.one (dI 0))] ⟨⟨rfl, rfl, by kernel_rfl, by kernel_rfl, .inl ⟨12, wide_46, rfl, Nat.le_of_ble_eq_true rfl⟩⟩, ⟨⟨rfl, by kernel_rfl⟩, trivial⟩⟩ [0, 1] (gc2 (hx9.1) (by exact hx9.2) (fun qq0 (q13 : Int) => (.tup [.agg [dI (qq0.f_Kind), dI (qq0.f_View), dI (qq0.f_Seq), dI (qq0.f_Client), dI (qq0.f_Stamp), dS (qq0.f_Digest), dU (qq0.f_Data), dI (qq0.f_Result.f_Code), dI (qq0.f_Result.f_Stage), .d (dsl false false (kE false) (qq0.f_Batch)), .d (dsl false false (kE false) (qq0.f_Pres)), .d (dsl false false (kC false) (qq0.f_Certs))], .one (dI q13)] : AV))) (ix (ix trivial))
abbrev Zfn (tc : Bool) (c : aC) : AV := .tv (.agg [dI c.f_Pre.f_Signer, .d (dsl tc false kU8 c.f_Pre.f_Body), .d (dsl tc false (kE tc) c.f_Votes)])
abbrev Zfo (f : Int) (u : Int) (rows : List (authn_pair × Bool)) (c : aC) := (ceV (checkE f u rows) f c 3 (2 * f))
theorem cert_Prepared (f : Int) (u : Int) (rows : List (authn_pair × Bool)) (tc : Bool) (c : aC) (hf : 0 ≤ f ∧ f ≤ 2) (hu : 0 ≤ u ∧ u ≤ 8) (hs : -9223372036854775808 ≤ c.f_Pre.f_Signer ∧ c.f_Pre.f_Signer ≤ 9223372036854775807) (hb : c.f_Pre.f_Body.length ≤ 100000000) (hx : okEs c.f_Votes) : Holds Tryz.prog 10 ⟨[pv 0 0, .tv (.agg [dI c.f_Pre.f_Signer, .d (dsl tc false kU8 c.f_Pre.f_Body), .d (dsl tc false (kE tc) c.f_Votes)])], [.box 98 [dI (3 * f + 1), dI u, .mref 1], mpK f_authn_pair kBool rows], .tup [.agg [dI (ceV (checkE f u rows) f c 3 (2 * f)).f_Kind, dI (ceV (checkE f u rows) f c 3 (2 * f)).f_View, dI (ceV (checkE f u rows) f c 3 (2 * f)).f_Seq, dI (ceV (checkE f u rows) f c 3 (2 * f)).f_Client, dI (ceV (checkE f u rows) f c 3 (2 * f)).f_Stamp, dS (ceV (checkE f u rows) f c 3 (2 * f)).f_Digest, dU (ceV (checkE f u rows) f c 3 (2 * f)).f_Data, dI (ceV (checkE f u rows) f c 3 (2 * f)).f_Result.f_Code, dI (ceV (checkE f u rows) f c 3 (2 * f)).f_Result.f_Stage, .d (dsl false false (kE false) (ceV (checkE f u rows) f c 3 (2 * f)).f_Batch), .d (dsl false false (kE false) (ceV (checkE f u rows) f c 3 (2 * f)).f_Pres), .d (dsl false false (kC false) (ceV (checkE f u rows) f c 3 (2 * f)).f_Certs)], .one (dI (ceE (checkE f u rows) f c 3 (2 * f)))], [.live (.box 98 [dI (3 * f + 1), dI u, .mref 1]), .live (mpK f_authn_pair kBool rows)]⟩ := by
 refine Holds.of Tryz.func10 rfl (N := 14) Tryz.ntmps10 rfl fun w0 B0 S0 U0 => ?_
 show T _ (mkBase 14 2 w0 S0 U0 B0) ⟨[pv 0 0, (Zfn tc c)], [.live (.box 98 [dI (3 * f + 1), dI u, .mref 1]), .live (mpK f_authn_pair kBool rows)]⟩ _ _
 refine sR [] ?_
 refine sD [[], [], [], [2], [2, 3], [0, 1, 2, 3, 4], [0, 1, 2, 3, 4, 5], [0, 1, 2, 3, 4, 5], [0, 1, 2, 3, 4, 5, 6, 7], [0, 1, 2, 3, 4, 5, 6, 7, 8]] [hR 3 rfl rfl (rCa (authn_F f u rows ‹_› ‹_›) Tryz.func19 [0, 1] [(.tmp 8, pv 0 0)] 2 2),
   hR 4 rfl rfl (r_bin (u1 := .int .i64 2) (u2 := .int .i64 f) (v := .int .i64 (2 * f)) (b_mul (by rw [IntKind.wrap_i64]; omega)) (lt_of rfl) ⟨rfl, trivial⟩),
   hR 5 rfl rfl (rCa (cert_certified f u rows tc c 3 (2 * f) ‹_› ‹_› ‹_› ‹_› ‹_›) Tryz.func27 [0, 1] [(.tmp 6, pv 0 0), (.tmp 7, (Zfn tc c)), (.const (.int .i64 3), vI 3), (.tmp 10, vI (2 * f))] 2 2)] ?_
 refine T.ret ?_
 exact eX [.c 4 3 46 0 46 [dI (Zfo f u rows c).f_Kind, dI (Zfo f u rows c).f_View, dI (Zfo f u rows c).f_Seq, dI (Zfo f u rows c).f_Client, dI (Zfo f u rows c).f_Stamp, dS (Zfo f u rows c).f_Digest, dU (Zfo f u rows c).f_Data, dI (Zfo f u rows c).f_Result.f_Code, dI (Zfo f u rows c).f_Result.f_Stage, .d (dsl false false (kE false) (Zfo f u rows c).f_Batch), .d (dsl false false (kE false) (Zfo f u rows c).f_Pres), .d (dsl false false (kC false) (Zfo f u rows c).f_Certs)] (.agg [dI (Zfo f u rows c).f_Kind, dI (Zfo f u rows c).f_View, dI (Zfo f u rows c).f_Seq, dI (Zfo f u rows c).f_Client, dI (Zfo f u rows c).f_Stamp, dS (Zfo f u rows c).f_Digest, dU (Zfo f u rows c).f_Data, dI (Zfo f u rows c).f_Result.f_Code, dI (Zfo f u rows c).f_Result.f_Stage, .d (dsl false false (kE false) (Zfo f u rows c).f_Batch), .d (dsl false false (kE false) (Zfo f u rows c).f_Pres), .d (dsl false false (kC false) (Zfo f u rows c).f_Certs)]), .t 5 (.one (dI (ceE (checkE f u rows) f c 3 (2 * f))))] ⟨⟨rfl, rfl, by kernel_rfl, by kernel_rfl, .inl ⟨12, wide_46, rfl, Nat.le_of_ble_eq_true rfl⟩⟩, ⟨⟨rfl, by kernel_rfl⟩, trivial⟩⟩ [0, 1] rfl (ix (ix trivial))
end Go.Proofs.YtalapplihdmenaaGreat.Q
namespace Go.Proofs.YtalapplihdmenaaGreat.Q
open Go Go.RowKit
set_option linter.unusedVariables false
theorem pp_prim {C : aE → Int} {f : Int} {e : aE} (h : ¬ ppE C f e ≠ 0) : e.f_Signer = primaryA f (ppV C f e).f_View := by
  rw [pp_val h]
  refine Classical.not_not.1 fun q => ?_
  by_cases h1 : opE C e 2 ≠ 0
  · exact h (by rw [(pp_o (f := f) h1).2]; exact h1)
  · exact h (by rw [(pp_p h1 q).2]; decide)
end Go.Proofs.YtalapplihdmenaaGreat.Q
