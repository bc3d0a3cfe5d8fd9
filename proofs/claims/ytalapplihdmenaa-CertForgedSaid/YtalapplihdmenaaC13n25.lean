import Derived.Test.YtalapplihdmenaaC13n24
namespace Go.Proofs.Ytalapplihdmenaa.Q
open Go Go.RowKit
set_option linter.unusedVariables false
set_option linter.unusedSimpArgs false
set_option maxRecDepth 100000
set_option maxHeartbeats 4000000
section
variable (f : Int) (u : Int) (rows : List (authn_pair × Bool)) (seq : Int) (tx : Bool) (nx : Bool) (sx : Bool) (x : List api_Envelope) (need : Int) (k : Nat)
abbrev zd9bb_0 : HS := .live (.box 94 [dI (3 * f + 1), dI u, .mref 1])
abbrev zd9bb_1 : HS := .live (mpK f_authn_pair kBool rows)
abbrev zd9bb_2 : HS := .live (.box 3 [dI seq])
abbrev zd9bb_3 : List AV := [pv 0 0, slV tx nx (k_api_Envelope sx) x, vI 5, vI need, sv (.clo 41 [2, 3, 4]), aa, aa, aa, aa, aa, aa, sv (.mref 5), aa, aa, aa, aa, aa, slV tx nx (k_api_Envelope sx) x, vI ((x.length : Nat) : Int), vI ((k : Nat) : Int)]
abbrev zd9bb_5 := (vtV (checkE f u rows) f (x.getD k z_api_Envelope) 5)
abbrev zd9bb_6 : AV := vI (x.getD k z_api_Envelope).f_Signer
end
theorem cert_tallyS (f : Int) (u : Int) (rows : List (authn_pair × Bool)) (tx : Bool) (nx : Bool) (sx : Bool) (x : List api_Envelope) (need : Int) (seq : Int) (hf : 0 ≤ f ∧ f ≤ 2) (hu : 0 ≤ u ∧ u ≤ 8) (hx : okEs x) : Holds Try.prog 39 ⟨[pv 0 0, slV tx nx (k_api_Envelope sx) x, vI 5, vI need, sv (.clo 41 [2, 3, 4])], [.box 94 [dI (3 * f + 1), dI u, .mref 1], mpK f_authn_pair kBool rows, .box 4 [dB true], .box 46 [dS []], .box 3 [dI seq]], vI (tlyE (gS (checkE f u rows) f seq (dig0 x)) x need), [.live (.box 94 [dI (3 * f + 1), dI u, .mref 1]), .live (mpK f_authn_pair kBool rows), .live (.box 4 [dB (fstF (checkE f u rows) f x)]), .live (.box 46 [dS (digF (checkE f u rows) f x)]), .live (.box 3 [dI seq])]⟩ := by
 refine Holds.of Try.func39 rfl (N := 56) Try.ntmps39 rfl fun w0 B0 S0 U0 => ?_
 show T _ (mkBase 56 5 w0 S0 U0 B0) ⟨[pv 0 0, slV tx nx (k_api_Envelope sx) x, vI 5, vI need, sv (.clo 41 [2, 3, 4])], [(zd9bb_0 f u), (zd9bb_1 rows), .live (.box 4 [dB true]), .live (.box 46 [dS []]), (zd9bb_2 seq)]⟩ _ _
 have hx1 := hx.1
 refine sR [] ?_
 refine sR [hR 0 rfl rfl (r_makeMap 5 (fInt .i64) kBool (lt_of rfl))] ?_
 refine T.seq ?_
 refine sR [] ?_
 refine T.block ?_
 refine T.loop (ι := Nat) (fun (k : Nat) => ⟨(zd9bb_3 tx nx sx x need k), [(zd9bb_0 f u), (zd9bb_1 rows), .live (.box 4 [dB (fstK k)]), .live (.box 46 [dS (digK x k)]), (zd9bb_2 seq), .live (mpK (fInt .i64) kBool (seenT x k))]⟩) (fun (k : Nat) => (k ≤ x.length) ∧ (∀ i, i < k → votN (gS (checkE f u rows) f seq (dig0 x)) x i = 0)) (fun (k : Nat) => x.length - k) (0) ⟨(Nat.zero_le _), (fun j hj => absurd hj (Nat.not_lt_zero _))⟩ (fun _ _ hG => Gs.iI [0, 1, 2, 3, 4, 5] (bm 20 919583) (h2 := [(zd9bb_0 f u), (zd9bb_1 rows), .live (.box 4 [dB true]), .live (.box 46 [dS []]), (zd9bb_2 seq), .live (mpK (fInt .i64) kBool ([] : List (Int × Bool)))]) rfl (cg3 (fun (q1 : Bool) (q2 : List UInt8) (q3 : List (Int × Bool)) => ([(zd9bb_0 f u), (zd9bb_1 rows), .live (.box 4 [dB q1]), .live (.box 46 [dS q2]), (zd9bb_2 seq), .live (mpK (fInt .i64) kBool q3)] : List HS)) (by rfl) (by rfl) (by rfl)) hG) ?_
 rintro k ⟨hk, hb⟩
 show T _ _ ⟨(zd9bb_3 tx nx sx x need k), [(zd9bb_0 f u), (zd9bb_1 rows), .live (.box 4 [dB (fstK k)]), .live (.box 46 [dS (digK x k)]), (zd9bb_2 seq), .live (mpK (fInt .i64) kBool (seenT x k))]⟩ _ _
 replace hk : k ≤ x.length := hk
 replace hb : ∀ i, i < k → votN (gS (checkE f u rows) f seq (dig0 x)) x i = 0 := hb
 refine sR [] ?_
 refine T.seq ?_
 by_cases hq1 : ((k : Nat) : Int) < ((x.length : Nat) : Int)
 ·have hgk := okEs_get hx (k := k) (by omega); have hgk1 := hgk.1.1; have hgk2 := hgk.1.2; have hgk3 := hgk.2
  refine cT (decide_eq_true hq1) ?_
  refine T.skip (nT (T.seq ?_))
  refine T.block ?_
  refine sR [hR 0 rfl rfl (q_index tx nx (k_api_Envelope sx) x k (k := .i64) (i := ((k : Nat) : Int)) Try.underlying31 iat_40 rfl rfl (by omega) (lt_of rfl) trivial)] ?_
  refine sR [hR 3 rfl rfl (rCa (cert_Vote f u rows sx (x.getD k z_api_Envelope) 5 (by assumption) (by assumption) (by omega) (by omega)) Try.func61 [0, 1] [(.tmp 24, pv 0 0), (.tmp 25, .tv (.agg [dI (x.getD k z_api_Envelope).f_Signer, .d (dsl sx false kU8 (x.getD k z_api_Envelope).f_Body)])), (.tmp 26, vI 5)] 2 2)] ?_
  refine T.seq ?_
  refine sR [] ?_
  by_cases hq2 : (vtE (checkE f u rows) f (x.getD k z_api_Envelope) 5) = 0
  ·have hv9 : ¬ vtE (checkE f u rows) f (x.getD k z_api_Envelope) 5 ≠ 0 := (fun q => q hq2); have hdn := dig_next hb (by omega) hv9; have hg9 : gS (checkE f u rows) f seq (dig0 x) (x.getD k z_api_Envelope) = musS seq (if fstK k = true then (vtV (checkE f u rows) f (x.getD k z_api_Envelope) 5).f_Digest else digK x k) (vtV (checkE f u rows) f (x.getD k z_api_Envelope) 5) := ((gS_2 hv9).trans (by rw [← hdn.1]; rfl))
   refine cT (decide_eq_true hq2) ?_
   refine xR [hR 4 rfl rfl (r_callC (ls := [2, 3, 4]) (cert_mustS false (vtV (checkE f u rows) f (x.getD k z_api_Envelope) 5) (x.getD k z_api_Envelope).f_Signer (fstK k) (digK x k) seq ) Try.func41 rfl (by decide) [2, 3, 4] [] (l := [(.tmp 33, .tv (.agg [dI (zd9bb_5 f u rows x k).f_Kind, dI (zd9bb_5 f u rows x k).f_View, dI (zd9bb_5 f u rows x k).f_Seq, dI (zd9bb_5 f u rows x k).f_Client, dI (zd9bb_5 f u rows x k).f_Stamp, dS (zd9bb_5 f u rows x k).f_Digest, .d (dsl false false kU8 (zd9bb_5 f u rows x k).f_Data), dI (zd9bb_5 f u rows x k).f_Result.f_Code, dI (zd9bb_5 f u rows x k).f_Result.f_Stage, .d (dsl false false (k_api_Envelope false) (zd9bb_5 f u rows x k).f_Batch), .d (dsl false false (k_api_Envelope false) (zd9bb_5 f u rows x k).f_Pres), .d (dsl false false (k_api_Cert false) (zd9bb_5 f u rows x k).f_Certs)])), (.tmp 35, (zd9bb_6 x k))]) [] rfl 3 3 rfl rfl rfl rfl rfl rfl rfl rfl rfl ⟨⟨.inl ⟨rfl, rfl⟩, ⟨.inl ⟨rfl, rfl⟩, ⟨.inl ⟨rfl, rfl⟩, ⟨.inl ⟨rfl, rfl⟩, ⟨.inl ⟨rfl, rfl⟩, ⟨.inl ⟨rfl, rfl⟩, ⟨.inl ⟨rfl, rfl⟩, ⟨.inl ⟨rfl, rfl⟩, ⟨.inl ⟨rfl, rfl⟩, ⟨.inl ⟨rfl, rfl⟩, ⟨.inl ⟨rfl, rfl⟩, ⟨.inl ⟨rfl, rfl⟩, trivial⟩⟩⟩⟩⟩⟩⟩⟩⟩⟩⟩⟩, ⟨.inl ⟨rfl, rfl⟩, ⟨.inl ⟨rfl, rfl⟩, ⟨.inl ⟨rfl, rfl⟩, ⟨.inl ⟨rfl, rfl⟩, trivial⟩⟩⟩⟩⟩ rfl (fun b hb => by cases hb) (.inl rfl) (lt_of rfl) trivial)] (by kernel_rfl) (by kernel_rfl) ?_
   refine nT (T.seq ?_)
   by_cases hq3 : (musS seq (if (fstK k) = true then (vtV (checkE f u rows) f (x.getD k z_api_Envelope) 5).f_Digest else (digK x k)) (vtV (checkE f u rows) f (x.getD k z_api_Envelope) 5)) = 0
   ·have hn9 : ¬ (gS (checkE f u rows) f seq (dig0 x)) (x.getD k z_api_Envelope) ≠ 0 := (by rw [hg9]; exact fun q => q hq3)
    refine sR [hY 3 (decide_eq_true hq3),
      hY 4 (decide_eq_true hq3),
      hY 5 (decide_eq_true hq3),
      hS 6 (oY rfl rfl rfl rfl (lt_of rfl) (decide_eq_true hq3) (r_lookup 5 (seenT x k) (x.getD k z_api_Envelope).f_Signer (.one (dB (mget (seenT x k) (x.getD k z_api_Envelope).f_Signer false))) (ak := (zd9bb_6 x k)) (kd := kBool) Try.underlying106 (mkey_int Try.underlying3) rfl zerom_4 ⟨.inl rfl, trivial⟩ rfl (lt_of rfl) (by exact trivial))),
      hP 7 (decide_eq_true hq3)] ?_
    by_cases hq4 : (mget (seenT x k) (x.getD k z_api_Envelope).f_Signer false) = true
    ·have ht9 := (seen_twice (l := x) (k := k) (by omega)).1 hq4; have hz9 := tly_at (g := gS (checkE f u rows) f seq (dig0 x)) need hb (vot_2 hn9 ht9) (by decide) (by omega)
     refine cT hq4 ?_
     refine xR [] (by kernel_rfl) (by kernel_rfl) ?_
     refine nT (T.seq ?_)
     refine sR [] ?_
     refine cT (b := true) rfl ?_
     refine sR [] ?_
     refine T.ret (rT (rB (rT (rT (rB (rT ?_))))))
     exact eRt 10 (.one (dI 33)) [0, 1, 2, 3, 4] (congrArg (fun (q1 : Int) => (vI q1 : AV)) (by exact hz9)) ⟨⟨rfl, (by kernel_rfl)⟩, ⟨⟨rfl, (by kernel_rfl)⟩, ⟨⟨rfl, (by have e1 : (false : Bool) = (fstF (checkE f u rows) f x) := (by exact hdn.2.2.1.symm); have hE := congrArg (fun (q1 : Bool) => (.live (.box 4 [dB q1]) : HS)) e1; exact Eq.trans (by kernel_rfl) hE)⟩, ⟨⟨rfl, (by have e1 : ((if (fstK k) = true then (vtV (checkE f u rows) f (x.getD k z_api_Envelope) 5).f_Digest else (digK x k)) : List UInt8) = (digF (checkE f u rows) f x) := (by exact hdn.1.trans hdn.2.1.symm); have hE := congrArg (fun (q1 : List UInt8) => (.live (.box 46 [dS q1]) : HS)) e1; exact Eq.trans (by kernel_rfl) hE)⟩, ⟨⟨rfl, (by kernel_rfl)⟩, trivial⟩⟩⟩⟩⟩
    have ht9 : ¬ twiceL x k := (fun q => absurd ((seen_twice (by omega)).2 q) (by assumption))
    replace hq4 := Bool.eq_false_iff.2 hq4
    refine cF hq4 ?_
    refine T.skip (nT (T.seq ?_))
    refine sR [] ?_
    by_cases hq5 : (musS seq (if (fstK k) = true then (vtV (checkE f u rows) f (x.getD k z_api_Envelope) 5).f_Digest else (digK x k)) (vtV (checkE f u rows) f (x.getD k z_api_Envelope) 5)) ≠ 0
    ·exact absurd hq3 hq5
    refine cF (decide_eq_false hq5) ?_
    refine T.skip (nT ?_)
    refine xR [hR 3 rfl rfl (r_mapUpdate 5 (seenT x k) (x.getD k z_api_Envelope).f_Signer true (kd := kBool) (ak := (zd9bb_6 x k)) (tv := .one (dB true)) Try.underlying106 (mkey_int Try.underlying3) rfl rfl ⟨.inl rfl, trivial⟩ ⟨rfl, trivial⟩)] (by kernel_rfl) (by kernel_rfl) ?_
    refine nB ?_
    refine nT ?_
    refine xR [hR 0 rfl rfl (r_bin (u1 := .int .i64 ((k : Nat) : Int)) (u2 := .int .i64 1) (v := .int .i64 ((k + 1 : Nat) : Int)) (b_add (by rw [IntKind.wrap_i64]; omega)) (lt_of rfl) ⟨rfl, trivial⟩)] (by kernel_rfl) (by kernel_rfl) ?_
    refine nL (k + 1) ⟨(show (k + 1) ≤ x.length from (by omega)), (show ∀ i, i < (k + 1) → votN (gS (checkE f u rows) f seq (dig0 x)) x i = 0 from (all_succ hb (vot_3 hn9 ht9)))⟩ (show (x.length - (k + 1) : Nat) < x.length - k from (by omega)) (fun _ _ hG => Gs.iI [0, 1, 2, 3, 4, 5] (bm 20 919583) (h2 := [(zd9bb_0 f u), (zd9bb_1 rows), .live (.box 4 [dB false]), .live (.box 46 [dS (if (fstK k) = true then (zd9bb_5 f u rows x k).f_Digest else (digK x k))]), (zd9bb_2 seq), .live (mpK (fInt .i64) kBool (mput (seenT x k) (x.getD k z_api_Envelope).f_Signer true))]) rfl (by have e1 : ((fstK (k + 1)) : Bool) = false := (by rfl); have e2 : ((digK x (k + 1)) : List UInt8) = (if (fstK k) = true then (vtV (checkE f u rows) f (x.getD k z_api_Envelope) 5).f_Digest else (digK x k)) := (by exact (hdn.1.trans hdn.2.2.2.1.symm).symm); have e3 : ((seenT x (k + 1)) : List (Int × Bool)) = (mput (seenT x k) (x.getD k z_api_Envelope).f_Signer true) := (by (rw [seen_succ (by omega)])); have hE := congr (congr (congrArg (fun (q1 : Bool) (q2 : List UInt8) (q3 : List (Int × Bool)) => ([(zd9bb_0 f u), (zd9bb_1 rows), .live (.box 4 [dB q1]), .live (.box 46 [dS q2]), (zd9bb_2 seq), .live (mpK (fInt .i64) kBool q3)] : List HS)) e1) e2) e3; exact hE) hG)
   refine sR [hN 3 true (decide_eq_false hq3),
     hN 4 true (decide_eq_false hq3),
     hN 5 true (decide_eq_false hq3),
     hN 6 true (decide_eq_false hq3),
     hP 7 (decide_eq_false hq3)] ?_
   refine cF (b := false) rfl ?_
   refine T.skip (nT (T.seq ?_))
   refine sR [] ?_
   by_cases hq6 : (musS seq (if (fstK k) = true then (vtV (checkE f u rows) f (x.getD k z_api_Envelope) 5).f_Digest else (digK x k)) (vtV (checkE f u rows) f (x.getD k z_api_Envelope) 5)) ≠ 0
   ·have hz9 := tly_at (g := gS (checkE f u rows) f seq (dig0 x)) need hb ((vot_1 (by rw [hg9]; exact hq6)).trans hg9) hq6 (by omega)
    refine cT (decide_eq_true hq6) ?_
    refine sR [] ?_
    refine T.ret (rT (rB (rT (rT (rB (rT ?_))))))
    exact eRt 10 (.one (dI (musS seq (if (fstK k) = true then (zd9bb_5 f u rows x k).f_Digest else (digK x k)) (zd9bb_5 f u rows x k)))) [0, 1, 2, 3, 4] (congrArg (fun (q1 : Int) => (vI q1 : AV)) (by exact hz9)) ⟨⟨rfl, (by kernel_rfl)⟩, ⟨⟨rfl, (by kernel_rfl)⟩, ⟨⟨rfl, (by have e1 : (false : Bool) = (fstF (checkE f u rows) f x) := (by exact hdn.2.2.1.symm); have hE := congrArg (fun (q1 : Bool) => (.live (.box 4 [dB q1]) : HS)) e1; exact Eq.trans (by kernel_rfl) hE)⟩, ⟨⟨rfl, (by have e1 : ((if (fstK k) = true then (vtV (checkE f u rows) f (x.getD k z_api_Envelope) 5).f_Digest else (digK x k)) : List UInt8) = (digF (checkE f u rows) f x) := (by exact hdn.1.trans hdn.2.1.symm); have hE := congrArg (fun (q1 : List UInt8) => (.live (.box 46 [dS q1]) : HS)) e1; exact Eq.trans (by kernel_rfl) hE)⟩, ⟨⟨rfl, (by kernel_rfl)⟩, trivial⟩⟩⟩⟩⟩
   exact absurd hq3 hq6
  have hg9 := gS_1 (seq := seq) (d := dig0 x) hq2; have hda := dig_at hb (by omega) (.inr hq2)
  refine cF (decide_eq_false hq2) ?_
  refine T.skip (nT (T.seq ?_))
  refine sR [hN 3 true (decide_eq_false hq2),
    hN 4 true (decide_eq_false hq2),
    hN 5 true (decide_eq_false hq2),
    hN 6 true (decide_eq_false hq2),
    hP 7 (decide_eq_false hq2)] ?_
  refine cF (b := false) rfl ?_
  refine T.skip (nT (T.seq ?_))
  refine sR [] ?_
  by_cases hq7 : (vtE (checkE f u rows) f (x.getD k z_api_Envelope) 5) ≠ 0
  ·have hz9 := tly_at (g := gS (checkE f u rows) f seq (dig0 x)) need hb ((vot_1 (by rw [hg9]; exact hq7)).trans hg9) hq7 (by omega)
   refine cT (decide_eq_true hq7) ?_
   refine sR [] ?_
   refine T.ret (rT (rB (rT (rT (rB (rT ?_))))))
   exact eRt 10 (.one (dI (vtE (checkE f u rows) f (x.getD k z_api_Envelope) 5))) [0, 1, 2, 3, 4] (congrArg (fun (q1 : Int) => (vI q1 : AV)) (by exact hz9)) ⟨⟨rfl, (by kernel_rfl)⟩, ⟨⟨rfl, (by kernel_rfl)⟩, ⟨⟨rfl, (by have e1 : ((fstK k) : Bool) = (fstF (checkE f u rows) f x) := (by exact hda.2); have hE := congrArg (fun (q1 : Bool) => (.live (.box 4 [dB q1]) : HS)) e1; exact Eq.trans (by kernel_rfl) hE)⟩, ⟨⟨rfl, (by have e1 : ((digK x k) : List UInt8) = (digF (checkE f u rows) f x) := (by exact hda.1); have hE := congrArg (fun (q1 : List UInt8) => (.live (.box 46 [dS q1]) : HS)) e1; exact Eq.trans (by kernel_rfl) hE)⟩, ⟨⟨rfl, (by kernel_rfl)⟩, trivial⟩⟩⟩⟩⟩
  exact absurd hq2 hq7
 have hz9 := tly_0 (g := gS (checkE f u rows) f seq (dig0 x)) need hb (by omega); have hda := dig_at hb hk (.inl (by omega))
 refine cF (decide_eq_false hq1) ?_
 refine T.exit ?_
 refine xT ?_
 refine xT ?_
 refine xH ?_
 refine nT (T.seq ?_)
 refine sR [] ?_
 by_cases hq8 : ((x.length : Nat) : Int) < need
 ·refine cT (decide_eq_true hq8) ?_
  refine sR [] ?_
  refine T.ret (rT ?_)
  exact eRt 10 (.one (dI 32)) [0, 1, 2, 3, 4] (by have e1 : ((tlyE (gS (checkE f u rows) f seq (dig0 x)) x need) : Int) = 32 := (by (rw [hz9, if_pos (by assumption)])); have hE := congrArg (fun (q1 : Int) => (vI q1 : AV)) e1; exact hE) ⟨⟨rfl, (by kernel_rfl)⟩, ⟨⟨rfl, (by kernel_rfl)⟩, ⟨⟨rfl, (by have e1 : ((fstK k) : Bool) = (fstF (checkE f u rows) f x) := (by exact hda.2); have hE := congrArg (fun (q1 : Bool) => (.live (.box 4 [dB q1]) : HS)) e1; exact Eq.trans (by kernel_rfl) hE)⟩, ⟨⟨rfl, (by have e1 : ((digK x k) : List UInt8) = (digF (checkE f u rows) f x) := (by exact hda.1); have hE := congrArg (fun (q1 : List UInt8) => (.live (.box 46 [dS q1]) : HS)) e1; exact Eq.trans (by kernel_rfl) hE)⟩, ⟨⟨rfl, (by kernel_rfl)⟩, trivial⟩⟩⟩⟩⟩
 refine cF (decide_eq_false hq8) ?_
 refine T.skip (nT ?_)
 refine sR [] ?_
 refine T.ret ?_
 exact eRt 10 (.one (dI 0)) [0, 1, 2, 3, 4] (by have e1 : ((tlyE (gS (checkE f u rows) f seq (dig0 x)) x need) : Int) = 0 := (by (rw [hz9, if_neg (by assumption)])); have hE := congrArg (fun (q1 : Int) => (vI q1 : AV)) e1; exact hE) ⟨⟨rfl, (by kernel_rfl)⟩, ⟨⟨rfl, (by kernel_rfl)⟩, ⟨⟨rfl, (by have e1 : ((fstK k) : Bool) = (fstF (checkE f u rows) f x) := (by exact hda.2); have hE := congrArg (fun (q1 : Bool) => (.live (.box 4 [dB q1]) : HS)) e1; exact Eq.trans (by kernel_rfl) hE)⟩, ⟨⟨rfl, (by have e1 : ((digK x k) : List UInt8) = (digF (checkE f u rows) f x) := (by exact hda.1); have hE := congrArg (fun (q1 : List UInt8) => (.live (.box 46 [dS q1]) : HS)) e1; exact Eq.trans (by kernel_rfl) hE)⟩, ⟨⟨rfl, (by kernel_rfl)⟩, trivial⟩⟩⟩⟩⟩
abbrev z8954_0 : TV := .one (dS [])
theorem cert_Stable (f : Int) (u : Int) (rows : List (authn_pair × Bool)) (seq : Int) (tx : Bool) (nx : Bool) (sx : Bool) (x : List api_Envelope) (hf : 0 ≤ f ∧ f ≤ 2) (hu : 0 ≤ u ∧ u ≤ 8) (hx : okEs x) : Holds Try.prog 22 ⟨[pv 0 0, vI seq, slV tx nx (k_api_Envelope sx) x], [.box 94 [dI (3 * f + 1), dI u, .mref 1], mpK f_authn_pair kBool rows], .tup [.one (dS (stD (checkE f u rows) f seq x)), .one (dI (stE (checkE f u rows) f seq x))], [.live (.box 94 [dI (3 * f + 1), dI u, .mref 1]), .live (mpK f_authn_pair kBool rows)]⟩ := by
 refine Holds.of Try.func22 rfl (N := 25) Try.ntmps22 rfl fun w0 B0 S0 U0 => ?_
 show T _ (mkBase 25 2 w0 S0 U0 B0) ⟨[pv 0 0, vI seq, slV tx nx (k_api_Envelope sx) x], [.live (.box 94 [dI (3 * f + 1), dI u, .mref 1]), .live (mpK f_authn_pair kBool rows)]⟩ _ _
 refine sR [] ?_
 refine T.seq ?_
 refine sR [] ?_
 by_cases hq1 : seq = 0
 ·refine cT (decide_eq_true hq1) ?_
  refine T.seq ?_
  refine sR [] ?_
  by_cases hq2 : ((x.length : Nat) : Int) > 0
  ·have hx9 := st_0 (C := (checkE f u rows)) (f := f) (by assumption) hq2
   refine cT (decide_eq_true hq2) ?_
   refine sR [] ?_
   refine T.ret (rT (rT ?_))
   exact tE (.inl rfl) [.c 6 3 46 0 46 [dS []] (z8954_0), .t 7 (.one (dI 120))] ⟨⟨rfl, rfl, by kernel_rfl, by kernel_rfl, .inr ⟨wide_46, _, rfl, rfl⟩⟩, ⟨⟨rfl, by kernel_rfl⟩, trivial⟩⟩ [0, 1] (cg2 (fun (q1 : List UInt8) (q2 : Int) => (.tup [.one (dS q1), .one (dI q2)] : AV)) (by exact hx9.1) (by exact hx9.2)) rfl rfl rfl rfl rfl ⟨⟨rfl, (by kernel_rfl)⟩, ⟨⟨rfl, (by kernel_rfl)⟩, trivial⟩⟩
  have hx9 := st_1 (C := (checkE f u rows)) (f := f) (by assumption) hq2
  refine cF (decide_eq_false hq2) ?_
  refine T.skip (nT ?_)
  refine sR [] ?_
  refine T.ret (rT ?_)
  exact tE (.inl rfl) [.c 6 3 46 0 46 [dS []] (z8954_0), .t 7 (.one (dI 0))] ⟨⟨rfl, rfl, by kernel_rfl, by kernel_rfl, .inr ⟨wide_46, _, rfl, rfl⟩⟩, ⟨⟨rfl, by kernel_rfl⟩, trivial⟩⟩ [0, 1] (cg2 (fun (q1 : List UInt8) (q2 : Int) => (.tup [.one (dS q1), .one (dI q2)] : AV)) (by exact hx9.1) (by exact hx9.2)) rfl rfl rfl rfl rfl ⟨⟨rfl, (by kernel_rfl)⟩, ⟨⟨rfl, (by kernel_rfl)⟩, trivial⟩⟩
 have hs0 := hq1
 refine cF (decide_eq_false hq1) ?_
 refine T.skip (nT ?_)
 refine sR [] ?_
 refine sR [hR 3 rfl rfl (rCa (authn_Quorum f u rows (by assumption) (by assumption)) Try.func40 [0, 1] [(.tmp 16, pv 0 0)] 2 2),
   hR 4 rfl rfl (r_max (k := .i64) (a := 1) (b := 2 * f + 1) (lt_of rfl) ⟨rfl, trivial⟩),
   hR 5 rfl rfl (r_makeClo (f := 41) (ls := [(.tmp 8, 4), (.tmp 6, 3), (.tmp 4, 2)]) rfl (lt_of rfl) trivial),
   hR 6 rfl rfl (rCa (cert_tallyS f u rows tx nx sx x (max 1 (2 * f + 1)) seq (by assumption) (by assumption) (by assumption)) Try.func39 [0, 1, 4, 3, 2] [(.tmp 14, pv 0 0), (.tmp 15, slV tx nx (k_api_Envelope sx) x), (.const (.int .i64 5), vI 5), (.tmp 18, vI (max 1 (2 * f + 1))), (.tmp 19, sv (.clo 41 [4, 3, 2]))] 5 5)] ?_
 refine T.seq ?_
 refine sR [] ?_
 by_cases hq3 : (tlyE (gS (checkE f u rows) f seq (dig0 x)) x (max 1 (2 * f + 1))) ≠ 0
 ·have hx9 := st_t hs0 rfl hq3
  refine cT (decide_eq_true hq3) ?_
  refine sR [] ?_
  refine T.ret (rT ?_)
  exact tE (.inl rfl) [.c 6 3 46 0 46 [dS []] (z8954_0), .t 7 (.one (dI (tlyE (gS (checkE f u rows) f seq (dig0 x)) x (max 1 (2 * f + 1)))))] ⟨⟨rfl, rfl, by kernel_rfl, by kernel_rfl, .inr ⟨wide_46, _, rfl, rfl⟩⟩, ⟨⟨rfl, by kernel_rfl⟩, trivial⟩⟩ [0, 1] (cg2 (fun (q1 : List UInt8) (q2 : Int) => (.tup [.one (dS q1), .one (dI q2)] : AV)) (by exact hx9.1) (by exact hx9.2)) rfl rfl rfl rfl rfl ⟨⟨rfl, (by kernel_rfl)⟩, ⟨⟨rfl, (by kernel_rfl)⟩, trivial⟩⟩
 have hx9 := st_ok hs0 (Classical.not_not.1 hq3)
 refine cF (decide_eq_false hq3) ?_
 refine T.skip (nT ?_)
 refine sR [] ?_
 refine T.ret ?_
 exact tE (.inl rfl) [.c 6 3 46 0 46 [dS (digF (checkE f u rows) f x)] (.one (dS (digF (checkE f u rows) f x))), .t 7 (.one (dI 0))] ⟨⟨rfl, rfl, by kernel_rfl, by kernel_rfl, .inr ⟨wide_46, _, rfl, rfl⟩⟩, ⟨⟨rfl, by kernel_rfl⟩, trivial⟩⟩ [0, 1] (cg2 (fun (q1 : List UInt8) (q2 : Int) => (.tup [.one (dS q1), .one (dI q2)] : AV)) (by exact hx9.1) (by exact hx9.2.1)) rfl rfl rfl rfl rfl ⟨⟨rfl, (by kernel_rfl)⟩, ⟨⟨rfl, (by kernel_rfl)⟩, trivial⟩⟩
section
variable (f : Int) (u : Int) (l : List api_Envelope) (seq : Int) (x : List api_Envelope) (k : Nat)
end
end Go.Proofs.Ytalapplihdmenaa.Q
namespace Go.Proofs.Ytalapplihdmenaa.Q
set_option linter.unusedVariables false
set_option linter.unusedSimpArgs false
set_option maxRecDepth 100000
def saidE (w : quaestorlaw13_Word) : api_Envelope := ⟨w.f_Signer, encB w.f_M⟩
def saidL (f u : Int) (L : List api_Envelope) (w : quaestorlaw13_Word) : List api_Envelope := if w.f_Signed = true then signL f u L w.f_Signer (encB w.f_M) else L
theorem said_len (f u : Int) (L : List api_Envelope) (w : quaestorlaw13_Word) : (saidL f u L w).length ≤ L.length + 1 := by
  unfold saidL; split
  · exact signL_len _ _ _ _ _
  · omega
def okM (m : api_Message) : Prop := (encJ m 9).length ≤ 10000000 ∧ m.f_Batch.length ≤ 10000000 ∧ m.f_Pres.length ≤ 10000000 ∧ m.f_Certs.length ≤ 10000000 ∧ m.f_Data.length ≤ 10000000 ∧ m.f_Digest.length ≤ 10000000
theorem encB_len {m : api_Message} (h : okM m) : (encB m).length ≤ 10000000 := by
  unfold encB
  split
  · exact h.1
  · simp
theorem said_yes {f u : Int} {L : List api_Envelope} {w : quaestorlaw13_Word} (h : w.f_Signed = true) : saidL f u L w = signL f u L w.f_Signer (encB w.f_M) := if_pos h
theorem said_no {f u : Int} {L : List api_Envelope} {w : quaestorlaw13_Word} (h : ¬ w.f_Signed = true) : saidL f u L w = L := if_neg h
def sayL (f u : Int) (l : List api_Envelope) (ws : List quaestorlaw13_Word) (k : Nat) : List api_Envelope := (ws.take k).foldl (saidL f u) l
def goodW (ws : List quaestorlaw13_Word) : Prop := ∀ w, w ∈ ws → i64R w.f_Signer ∧ okM w.f_M
theorem say_succ {f u : Int} {l : List api_Envelope} {ws : List quaestorlaw13_Word} {k : Nat} (hk : k < ws.length) : sayL f u l ws (k + 1) = saidL f u (sayL f u l ws k) (ws.getD k z_quaestorlaw13_Word) := by
  unfold sayL; rw [tk_succ (z := z_quaestorlaw13_Word) hk, List.foldl_append]; rfl
theorem says_succ {ws : List quaestorlaw13_Word} {k : Nat} (hk : k < ws.length) : (ws.take (k + 1)).map saidE = (ws.take k).map saidE ++ [saidE (ws.getD k z_quaestorlaw13_Word)] := by
  rw [tk_succ (z := z_quaestorlaw13_Word) hk, List.map_append]; rfl
theorem say_len (f u : Int) (l : List api_Envelope) (ws : List quaestorlaw13_Word) : ∀ k, (sayL f u l ws k).length ≤ l.length + k
  | 0 => Nat.le_refl _
  | k + 1 => by
    have h := say_len f u l ws k
    by_cases hk : k < ws.length
    · have := said_len f u (sayL f u l ws k) (ws.getD k z_quaestorlaw13_Word)
      rw [say_succ hk]; omega
    · unfold sayL at h ⊢
      rw [List.take_of_length_le (by omega)] at h ⊢
      omega
theorem good_get {ws : List quaestorlaw13_Word} (h : goodW ws) (k : Nat) : k < ws.length → i64R (ws.getD k z_quaestorlaw13_Word).f_Signer ∧ okM (ws.getD k z_quaestorlaw13_Word).f_M := fun hk => h _ (getD_mem hk)
end Go.Proofs.Ytalapplihdmenaa.Q
