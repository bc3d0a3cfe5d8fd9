import Derived.Test.YtalapplihdmenaaC13n24
namespace Go.Proofs.Ytalapplihdmenaa.Q
open Go Go.RowKit
set_option linter.unusedVariables false
set_option linter.unusedSimpArgs false
set_option maxRecDepth 100000
set_option maxHeartbeats 4000000
section
variable (f : Int) (u : Int) (rows : List (authn_pair × Bool)) (seq : Int) (tx : Bool) (nx : Bool) (sx : Bool) (x : List aE) (need : Int) (k : Nat)
abbrev Zek : HS := .live (.box 94 [dI (3 * f + 1), dI u, .mref 1])
abbrev Zel : HS := .live (mpK f_authn_pair kBool rows)
abbrev Zem : HS := .live (.box 3 [dI seq])
abbrev Zen : List AV := [pv 0 0, slV tx nx (kE sx) x, vI 5, vI need, sv (.clo 41 [2, 3, 4]), aa, aa, aa, aa, aa, aa, sv (.mref 5), aa, aa, aa, aa, aa, slV tx nx (kE sx) x, vI ((x.length : Nat) : Int), vI ((k : Nat) : Int)]
abbrev Zep := (vtV (checkE f u rows) f (x.getD k zE) 5)
abbrev Zeq : AV := vI (x.getD k zE).f_Signer
end
theorem cert_tallyS (f : Int) (u : Int) (rows : List (authn_pair × Bool)) (tx : Bool) (nx : Bool) (sx : Bool) (x : List aE) (need : Int) (seq : Int) (hf : 0 ≤ f ∧ f ≤ 2) (hu : 0 ≤ u ∧ u ≤ 8) (hx : okEs x) : Holds Try.prog 39 ⟨[pv 0 0, slV tx nx (kE sx) x, vI 5, vI need, sv (.clo 41 [2, 3, 4])], [.box 94 [dI (3 * f + 1), dI u, .mref 1], mpK f_authn_pair kBool rows, .box 4 [dB true], .box 46 [dS []], .box 3 [dI seq]], vI (tlyE (gS (checkE f u rows) f seq (dig0 x)) x need), [.live (.box 94 [dI (3 * f + 1), dI u, .mref 1]), .live (mpK f_authn_pair kBool rows), .live (.box 4 [dB (fstF (checkE f u rows) f x)]), .live (.box 46 [dS (digF (checkE f u rows) f x)]), .live (.box 3 [dI seq])]⟩ := by
 refine Holds.of Try.func39 rfl (N := 56) Try.ntmps39 rfl fun w0 B0 S0 U0 => ?_
 show T _ (mkBase 56 5 w0 S0 U0 B0) ⟨[pv 0 0, slV tx nx (kE sx) x, vI 5, vI need, sv (.clo 41 [2, 3, 4])], [(Zek f u), (Zel rows), .live (.box 4 [dB true]), .live (.box 46 [dS []]), (Zem seq)]⟩ _ _
 have hx1 := hx.1
 refine sR [] ?_
 refine sR [hR 0 rfl rfl (r_makeMap 5 (fInt .i64) kBool (lt_of rfl))] ?_
 refine T.seq ?_
 refine sR [] ?_
 refine T.block ?_
 refine T.loop (ι := Nat) (fun (k : Nat) => ⟨(Zen tx nx sx x need k), [(Zek f u), (Zel rows), .live (.box 4 [dB (fstK k)]), .live (.box 46 [dS (digK x k)]), (Zem seq), .live (mpK (fInt .i64) kBool (seenT x k))]⟩) (fun (k : Nat) => (k ≤ x.length) ∧ (∀ i, i < k → votN (gS (checkE f u rows) f seq (dig0 x)) x i = 0)) (fun (k : Nat) => x.length - k) (0) ⟨(Nat.zero_le _), (fun j hj => absurd hj (Nat.not_lt_zero _))⟩ (fun _ _ hG => Gs.iI [0, 1, 2, 3, 4, 5] (bm 20 919583) (h2 := [(Zek f u), (Zel rows), .live (.box 4 [dB true]), .live (.box 46 [dS []]), (Zem seq), .live (mpK (fInt .i64) kBool ([] : List (Int × Bool)))]) rfl (cg3 (fun (q1 : Bool) (q2 : List UInt8) (q3 : List (Int × Bool)) => ([(Zek f u), (Zel rows), .live (.box 4 [dB q1]), .live (.box 46 [dS q2]), (Zem seq), .live (mpK (fInt .i64) kBool q3)] : List HS)) (by rfl) (by rfl) (by rfl)) hG) ?_
 rintro k ⟨hk, hb⟩
 show T _ _ ⟨(Zen tx nx sx x need k), [(Zek f u), (Zel rows), .live (.box 4 [dB (fstK k)]), .live (.box 46 [dS (digK x k)]), (Zem seq), .live (mpK (fInt .i64) kBool (seenT x k))]⟩ _ _
 replace hk : k ≤ x.length := hk
 replace hb : ∀ i, i < k → votN (gS (checkE f u rows) f seq (dig0 x)) x i = 0 := hb
 refine sR [] ?_
 refine T.seq ?_
 by_cases hq1 : ((k : Nat) : Int) < ((x.length : Nat) : Int)
 ·have hgk := okEs_get hx (k := k) (by omega); have hgk1 := hgk.1.1; have hgk2 := hgk.1.2; have hgk3 := hgk.2
  refine cT (dT hq1) ?_
  refine T.skip (nT (T.seq ?_))
  refine T.block ?_
  refine sR [hR 0 rfl rfl (q_index tx nx (kE sx) x k (k := .i64) (i := ((k : Nat) : Int)) Try.underlying31 iat_40 rfl rfl (by omega) (lt_of rfl) trivial)] ?_
  refine sR [hR 3 rfl rfl (rCa (cert_Vote f u rows sx (x.getD k zE) 5 ‹_› ‹_› (by omega) (by omega)) Try.func61 [0, 1] [(.tmp 24, pv 0 0), (.tmp 25, .tv (.agg [dI (x.getD k zE).f_Signer, .d (dsl sx false kU8 (x.getD k zE).f_Body)])), (.tmp 26, vI 5)] 2 2)] ?_
  refine T.seq ?_
  refine sR [] ?_
  by_cases hq2 : (vtE (checkE f u rows) f (x.getD k zE) 5) = 0
  ·have hv9 : ¬ vtE (checkE f u rows) f (x.getD k zE) 5 ≠ 0 := (fun q => q hq2); have hdn := dig_next hb (by omega) hv9; have hg9 : gS (checkE f u rows) f seq (dig0 x) (x.getD k zE) = musS seq (if fstK k = true then (vtV (checkE f u rows) f (x.getD k zE) 5).f_Digest else digK x k) (vtV (checkE f u rows) f (x.getD k zE) 5) := ((gS_2 hv9).trans (by rw [← hdn.1]; rfl))
   refine cT (dT hq2) ?_
   refine xK [hR 4 rfl rfl (r_callC (ls := [2, 3, 4]) (cert_mustS false (vtV (checkE f u rows) f (x.getD k zE) 5) (x.getD k zE).f_Signer (fstK k) (digK x k) seq ) Try.func41 rfl (by decide) [2, 3, 4] [] (l := [(.tmp 33, .tv (.agg [dI (Zep f u rows x k).f_Kind, dI (Zep f u rows x k).f_View, dI (Zep f u rows x k).f_Seq, dI (Zep f u rows x k).f_Client, dI (Zep f u rows x k).f_Stamp, dS (Zep f u rows x k).f_Digest, dU (Zep f u rows x k).f_Data, dI (Zep f u rows x k).f_Result.f_Code, dI (Zep f u rows x k).f_Result.f_Stage, .d (dsl false false (kE false) (Zep f u rows x k).f_Batch), .d (dsl false false (kE false) (Zep f u rows x k).f_Pres), .d (dsl false false (kC false) (Zep f u rows x k).f_Certs)])), (.tmp 35, (Zeq x k))]) [] rfl 3 3 rfl rfl rfl rfl rfl rfl rfl rfl rfl ⟨⟨.inl ⟨rfl, rfl⟩, ⟨.inl ⟨rfl, rfl⟩, ⟨.inl ⟨rfl, rfl⟩, ⟨.inl ⟨rfl, rfl⟩, ⟨.inl ⟨rfl, rfl⟩, ⟨.inl ⟨rfl, rfl⟩, ⟨.inl ⟨rfl, rfl⟩, ⟨.inl ⟨rfl, rfl⟩, ⟨.inl ⟨rfl, rfl⟩, ⟨.inl ⟨rfl, rfl⟩, ⟨.inl ⟨rfl, rfl⟩, ⟨.inl ⟨rfl, rfl⟩, trivial⟩⟩⟩⟩⟩⟩⟩⟩⟩⟩⟩⟩, ⟨.inl ⟨rfl, rfl⟩, ⟨.inl ⟨rfl, rfl⟩, ⟨.inl ⟨rfl, rfl⟩, ⟨.inl ⟨rfl, rfl⟩, trivial⟩⟩⟩⟩⟩ rfl (fun b hb => by cases hb) (.inl rfl) (lt_of rfl) trivial)] ?_
   refine nT (T.seq ?_)
   by_cases hq3 : (musS seq (if (fstK k) = true then (vtV (checkE f u rows) f (x.getD k zE) 5).f_Digest else (digK x k)) (vtV (checkE f u rows) f (x.getD k zE) 5)) = 0
   ·have hn9 : ¬ (gS (checkE f u rows) f seq (dig0 x)) (x.getD k zE) ≠ 0 := (by rw [hg9]; exact fun q => q hq3)
    refine sR [hY 3 (dT hq3),
      hY 4 (dT hq3),
      hY 5 (dT hq3),
      hS 6 (oY rfl rfl rfl rfl (lt_of rfl) (dT hq3) (r_lookup 5 (seenT x k) (x.getD k zE).f_Signer (.one (dB (mget (seenT x k) (x.getD k zE).f_Signer false))) (ak := (Zeq x k)) (kd := kBool) Try.underlying106 (mkey_int Try.underlying3) rfl zerom_4 ⟨.inl rfl, trivial⟩ rfl (lt_of rfl) (by exact trivial))),
      hP 7 (dT hq3)] ?_
    by_cases hq4 : (mget (seenT x k) (x.getD k zE).f_Signer false) = true
    ·have ht9 := (seen_twice (l := x) (k := k) (by omega)).1 hq4; have hz9 := tly_at (g := gS (checkE f u rows) f seq (dig0 x)) need hb (vot_2 hn9 ht9) (by decide) (by omega)
     refine cT hq4 ?_
     refine xK [] ?_
     refine nT (T.seq ?_)
     refine sR [] ?_
     refine cT (b := true) rfl ?_
     refine sR [] ?_
     refine T.ret (rT (rB (rT (rT (rB (rT ?_))))))
     exact eRt 10 (.one (dI 33)) [0, 1, 2, 3, 4] (cI (by exact hz9)) (ix (ix ⟨⟨rfl, (by have e1 : (false : Bool) = (fstF (checkE f u rows) f x) := (by exact hdn.2.2.1.symm); have hE := congrArg (fun (q1 : Bool) => (.live (.box 4 [dB q1]) : HS)) e1; exact Eq.trans (by kernel_rfl) hE)⟩, ⟨⟨rfl, (by have e1 : ((if (fstK k) = true then (vtV (checkE f u rows) f (x.getD k zE) 5).f_Digest else (digK x k)) : List UInt8) = (digF (checkE f u rows) f x) := (by exact hdn.1.trans hdn.2.1.symm); have hE := congrArg (fun (q1 : List UInt8) => (.live (.box 46 [dS q1]) : HS)) e1; exact Eq.trans (by kernel_rfl) hE)⟩, (ix trivial)⟩⟩))
    have ht9 : ¬ twiceL x k := (fun q => absurd ((seen_twice (by omega)).2 q) ‹_›)
    replace hq4 := Bool.eq_false_iff.2 hq4
    refine cF hq4 ?_
    refine T.skip (nT (T.seq ?_))
    refine sR [] ?_
    by_cases hq5 : (musS seq (if (fstK k) = true then (vtV (checkE f u rows) f (x.getD k zE) 5).f_Digest else (digK x k)) (vtV (checkE f u rows) f (x.getD k zE) 5)) ≠ 0
    ·exact absurd hq3 hq5
    refine cF (dF hq5) ?_
    refine T.skip (nT ?_)
    refine xK [hR 3 rfl rfl (r_mapUpdate 5 (seenT x k) (x.getD k zE).f_Signer true (kd := kBool) (ak := (Zeq x k)) (tv := .one (dB true)) Try.underlying106 (mkey_int Try.underlying3) rfl rfl ⟨.inl rfl, trivial⟩ ⟨rfl, trivial⟩)] ?_
    refine nB ?_
    refine nT ?_
    refine xK [hR 0 rfl rfl (r_bin (u1 := .int .i64 ((k : Nat) : Int)) (u2 := .int .i64 1) (v := .int .i64 ((k + 1 : Nat) : Int)) (b_add (by rw [IntKind.wrap_i64]; omega)) (lt_of rfl) ⟨rfl, trivial⟩)] ?_
    refine nL (k + 1) ⟨(show (k + 1) ≤ x.length from (by omega)), (show ∀ i, i < (k + 1) → votN (gS (checkE f u rows) f seq (dig0 x)) x i = 0 from (all_succ hb (vot_3 hn9 ht9)))⟩ (show (x.length - (k + 1) : Nat) < x.length - k from (by omega)) (fun _ _ hG => Gs.iI [0, 1, 2, 3, 4, 5] (bm 20 919583) (h2 := [(Zek f u), (Zel rows), .live (.box 4 [dB false]), .live (.box 46 [dS (if (fstK k) = true then (Zep f u rows x k).f_Digest else (digK x k))]), (Zem seq), .live (mpK (fInt .i64) kBool (mput (seenT x k) (x.getD k zE).f_Signer true))]) rfl (by have e1 : ((fstK (k + 1)) : Bool) = false := (by rfl); have e2 : ((digK x (k + 1)) : List UInt8) = (if (fstK k) = true then (vtV (checkE f u rows) f (x.getD k zE) 5).f_Digest else (digK x k)) := (by exact (hdn.1.trans hdn.2.2.2.1.symm).symm); have e3 : ((seenT x (k + 1)) : List (Int × Bool)) = (mput (seenT x k) (x.getD k zE).f_Signer true) := (by (rw [seen_succ (by omega)])); have hE := congr (congr (congrArg (fun (q1 : Bool) (q2 : List UInt8) (q3 : List (Int × Bool)) => ([(Zek f u), (Zel rows), .live (.box 4 [dB q1]), .live (.box 46 [dS q2]), (Zem seq), .live (mpK (fInt .i64) kBool q3)] : List HS)) e1) e2) e3; exact hE) hG)
   refine sR [hN 3 true (dF hq3),
     hN 4 true (dF hq3),
     hN 5 true (dF hq3),
     hN 6 true (dF hq3),
     hP 7 (dF hq3)] ?_
   refine cF (b := false) rfl ?_
   refine T.skip (nT (T.seq ?_))
   refine sR [] ?_
   by_cases hq6 : (musS seq (if (fstK k) = true then (vtV (checkE f u rows) f (x.getD k zE) 5).f_Digest else (digK x k)) (vtV (checkE f u rows) f (x.getD k zE) 5)) ≠ 0
   ·have hz9 := tly_at (g := gS (checkE f u rows) f seq (dig0 x)) need hb ((vot_1 (by rw [hg9]; exact hq6)).trans hg9) hq6 (by omega)
    refine cT (dT hq6) ?_
    refine sR [] ?_
    refine T.ret (rT (rB (rT (rT (rB (rT ?_))))))
    exact eRt 10 (.one (dI (musS seq (if (fstK k) = true then (Zep f u rows x k).f_Digest else (digK x k)) (Zep f u rows x k)))) [0, 1, 2, 3, 4] (cI (by exact hz9)) (ix (ix ⟨⟨rfl, (by have e1 : (false : Bool) = (fstF (checkE f u rows) f x) := (by exact hdn.2.2.1.symm); have hE := congrArg (fun (q1 : Bool) => (.live (.box 4 [dB q1]) : HS)) e1; exact Eq.trans (by kernel_rfl) hE)⟩, ⟨⟨rfl, (by have e1 : ((if (fstK k) = true then (vtV (checkE f u rows) f (x.getD k zE) 5).f_Digest else (digK x k)) : List UInt8) = (digF (checkE f u rows) f x) := (by exact hdn.1.trans hdn.2.1.symm); have hE := congrArg (fun (q1 : List UInt8) => (.live (.box 46 [dS q1]) : HS)) e1; exact Eq.trans (by kernel_rfl) hE)⟩, (ix trivial)⟩⟩))
   exact absurd hq3 hq6
  have hg9 := gS_1 (seq := seq) (d := dig0 x) hq2; have hda := dig_at hb (by omega) (.inr hq2)
  refine cF (dF hq2) ?_
  refine T.skip (nT (T.seq ?_))
  refine sR [hN 3 true (dF hq2),
    hN 4 true (dF hq2),
    hN 5 true (dF hq2),
    hN 6 true (dF hq2),
    hP 7 (dF hq2)] ?_
  refine cF (b := false) rfl ?_
  refine T.skip (nT (T.seq ?_))
  refine sR [] ?_
  by_cases hq7 : (vtE (checkE f u rows) f (x.getD k zE) 5) ≠ 0
  ·have hz9 := tly_at (g := gS (checkE f u rows) f seq (dig0 x)) need hb ((vot_1 (by rw [hg9]; exact hq7)).trans hg9) hq7 (by omega)
   refine cT (dT hq7) ?_
   refine sR [] ?_
   refine T.ret (rT (rB (rT (rT (rB (rT ?_))))))
   exact eRt 10 (.one (dI (vtE (checkE f u rows) f (x.getD k zE) 5))) [0, 1, 2, 3, 4] (cI (by exact hz9)) (ix (ix ⟨⟨rfl, (by have e1 : ((fstK k) : Bool) = (fstF (checkE f u rows) f x) := (by exact hda.2); have hE := congrArg (fun (q1 : Bool) => (.live (.box 4 [dB q1]) : HS)) e1; exact Eq.trans (by kernel_rfl) hE)⟩, ⟨⟨rfl, (by have e1 : ((digK x k) : List UInt8) = (digF (checkE f u rows) f x) := (by exact hda.1); have hE := congrArg (fun (q1 : List UInt8) => (.live (.box 46 [dS q1]) : HS)) e1; exact Eq.trans (by kernel_rfl) hE)⟩, (ix trivial)⟩⟩))
  exact absurd hq2 hq7
 have hz9 := tly_0 (g := gS (checkE f u rows) f seq (dig0 x)) need hb (by omega); have hda := dig_at hb hk (.inl (by omega))
 refine cF (dF hq1) ?_
 refine T.exit ?_
 refine xT ?_
 refine xT ?_
 refine xH ?_
 refine nT (T.seq ?_)
 refine sR [] ?_
 by_cases hq8 : ((x.length : Nat) : Int) < need
 ·refine cT (dT hq8) ?_
  refine sR [] ?_
  refine T.ret (rT ?_)
  exact eRt 10 (.one (dI 32)) [0, 1, 2, 3, 4] (by have e1 : ((tlyE (gS (checkE f u rows) f seq (dig0 x)) x need) : Int) = 32 := (by (rw [hz9, if_pos ‹_›])); have hE := cI e1; exact hE) (ix (ix ⟨⟨rfl, (by have e1 : ((fstK k) : Bool) = (fstF (checkE f u rows) f x) := (by exact hda.2); have hE := congrArg (fun (q1 : Bool) => (.live (.box 4 [dB q1]) : HS)) e1; exact Eq.trans (by kernel_rfl) hE)⟩, ⟨⟨rfl, (by have e1 : ((digK x k) : List UInt8) = (digF (checkE f u rows) f x) := (by exact hda.1); have hE := congrArg (fun (q1 : List UInt8) => (.live (.box 46 [dS q1]) : HS)) e1; exact Eq.trans (by kernel_rfl) hE)⟩, (ix trivial)⟩⟩))
 refine cF (dF hq8) ?_
 refine T.skip (nT ?_)
 refine sR [] ?_
 refine T.ret ?_
 exact eRt 10 (.one (dI 0)) [0, 1, 2, 3, 4] (by have e1 : ((tlyE (gS (checkE f u rows) f seq (dig0 x)) x need) : Int) = 0 := (by (rw [hz9, if_neg ‹_›])); have hE := cI e1; exact hE) (ix (ix ⟨⟨rfl, (by have e1 : ((fstK k) : Bool) = (fstF (checkE f u rows) f x) := (by exact hda.2); have hE := congrArg (fun (q1 : Bool) => (.live (.box 4 [dB q1]) : HS)) e1; exact Eq.trans (by kernel_rfl) hE)⟩, ⟨⟨rfl, (by have e1 : ((digK x k) : List UInt8) = (digF (checkE f u rows) f x) := (by exact hda.1); have hE := congrArg (fun (q1 : List UInt8) => (.live (.box 46 [dS q1]) : HS)) e1; exact Eq.trans (by kernel_rfl) hE)⟩, (ix trivial)⟩⟩))
abbrev Zes : TV := .one (dS [])
theorem cert_Stable (f : Int) (u : Int) (rows : List (authn_pair × Bool)) (seq : Int) (tx : Bool) (nx : Bool) (sx : Bool) (x : List aE) (hf : 0 ≤ f ∧ f ≤ 2) (hu : 0 ≤ u ∧ u ≤ 8) (hx : okEs x) : Holds Try.prog 22 ⟨[pv 0 0, vI seq, slV tx nx (kE sx) x], [.box 94 [dI (3 * f + 1), dI u, .mref 1], mpK f_authn_pair kBool rows], .tup [.one (dS (stD (checkE f u rows) f seq x)), .one (dI (stE (checkE f u rows) f seq x))], [.live (.box 94 [dI (3 * f + 1), dI u, .mref 1]), .live (mpK f_authn_pair kBool rows)]⟩ := by
 refine Holds.of Try.func22 rfl (N := 25) Try.ntmps22 rfl fun w0 B0 S0 U0 => ?_
 show T _ (mkBase 25 2 w0 S0 U0 B0) ⟨[pv 0 0, vI seq, slV tx nx (kE sx) x], [.live (.box 94 [dI (3 * f + 1), dI u, .mref 1]), .live (mpK f_authn_pair kBool rows)]⟩ _ _
 refine sR [] ?_
 refine T.seq ?_
 refine sR [] ?_
 by_cases hq1 : seq = 0
 ·refine cT (dT hq1) ?_
  refine T.seq ?_
  refine sR [] ?_
  by_cases hq2 : ((x.length : Nat) : Int) > 0
  ·have hx9 := st_0 (C := (checkE f u rows)) (f := f) ‹_› hq2
   refine cT (dT hq2) ?_
   refine sR [] ?_
   refine T.ret (rT (rT ?_))
   exact eX [.c 6 3 46 0 46 [dS []] (Zes), .t 7 (.one (dI 120))] ⟨⟨rfl, rfl, by kernel_rfl, by kernel_rfl, .inr ⟨wide_46, _, rfl, rfl⟩⟩, ⟨⟨rfl, by kernel_rfl⟩, trivial⟩⟩ [0, 1] (cg2 (fun (q1 : List UInt8) (q2 : Int) => (.tup [.one (dS q1), .one (dI q2)] : AV)) (by exact hx9.1) (by exact hx9.2)) (ix (ix trivial))
  have hx9 := st_1 (C := (checkE f u rows)) (f := f) ‹_› hq2
  refine cF (dF hq2) ?_
  refine T.skip (nT ?_)
  refine sR [] ?_
  refine T.ret (rT ?_)
  exact eX [.c 6 3 46 0 46 [dS []] (Zes), .t 7 (.one (dI 0))] ⟨⟨rfl, rfl, by kernel_rfl, by kernel_rfl, .inr ⟨wide_46, _, rfl, rfl⟩⟩, ⟨⟨rfl, by kernel_rfl⟩, trivial⟩⟩ [0, 1] (cg2 (fun (q1 : List UInt8) (q2 : Int) => (.tup [.one (dS q1), .one (dI q2)] : AV)) (by exact hx9.1) (by exact hx9.2)) (ix (ix trivial))
 have hs0 := hq1
 refine cF (dF hq1) ?_
 refine T.skip (nT ?_)
 refine sR [] ?_
 refine sR [hR 3 rfl rfl (rCa (authn_Quorum f u rows ‹_› ‹_›) Try.func40 [0, 1] [(.tmp 16, pv 0 0)] 2 2),
   hR 4 rfl rfl (r_max (k := .i64) (a := 1) (b := 2 * f + 1) (lt_of rfl) ⟨rfl, trivial⟩),
   hR 5 rfl rfl (r_makeClo (f := 41) (ls := [(.tmp 8, 4), (.tmp 6, 3), (.tmp 4, 2)]) rfl (lt_of rfl) trivial),
   hR 6 rfl rfl (rCa (cert_tallyS f u rows tx nx sx x (max 1 (2 * f + 1)) seq ‹_› ‹_› ‹_›) Try.func39 [0, 1, 4, 3, 2] [(.tmp 14, pv 0 0), (.tmp 15, slV tx nx (kE sx) x), (.const (.int .i64 5), vI 5), (.tmp 18, vI (max 1 (2 * f + 1))), (.tmp 19, sv (.clo 41 [4, 3, 2]))] 5 5)] ?_
 refine T.seq ?_
 refine sR [] ?_
 by_cases hq3 : (tlyE (gS (checkE f u rows) f seq (dig0 x)) x (max 1 (2 * f + 1))) ≠ 0
 ·have hx9 := st_t hs0 rfl hq3
  refine cT (dT hq3) ?_
  refine sR [] ?_
  refine T.ret (rT ?_)
  exact eX [.c 6 3 46 0 46 [dS []] (Zes), .t 7 (.one (dI (tlyE (gS (checkE f u rows) f seq (dig0 x)) x (max 1 (2 * f + 1)))))] ⟨⟨rfl, rfl, by kernel_rfl, by kernel_rfl, .inr ⟨wide_46, _, rfl, rfl⟩⟩, ⟨⟨rfl, by kernel_rfl⟩, trivial⟩⟩ [0, 1] (cg2 (fun (q1 : List UInt8) (q2 : Int) => (.tup [.one (dS q1), .one (dI q2)] : AV)) (by exact hx9.1) (by exact hx9.2)) (ix (ix trivial))
 have hx9 := st_ok hs0 (Classical.not_not.1 hq3)
 refine cF (dF hq3) ?_
 refine T.skip (nT ?_)
 refine sR [] ?_
 refine T.ret ?_
 exact eX [.c 6 3 46 0 46 [dS (digF (checkE f u rows) f x)] (.one (dS (digF (checkE f u rows) f x))), .t 7 (.one (dI 0))] ⟨⟨rfl, rfl, by kernel_rfl, by kernel_rfl, .inr ⟨wide_46, _, rfl, rfl⟩⟩, ⟨⟨rfl, by kernel_rfl⟩, trivial⟩⟩ [0, 1] (cg2 (fun (q1 : List UInt8) (q2 : Int) => (.tup [.one (dS q1), .one (dI q2)] : AV)) (by exact hx9.1) (by exact hx9.2.1)) (ix (ix trivial))
abbrev Zet (x : List aE) : AV := slV false false (kE false) x
abbrev Zeu (j : Nat) : AV := vI ((j : Nat) : Int)
theorem ref13_twice (x : List aE) (j : Nat) (hj : j < x.length) (hx : x.length ≤ 9223372036854775807) : Holds Try.prog 43 ⟨[slV false false (kE false) x, vI ((j : Nat) : Int)], [], vB (decide (twiceL x j)), []⟩ := by
 refine Holds.of Try.func43 rfl (N := 22) Try.ntmps43 rfl fun w0 B0 S0 U0 => ?_
 show T _ (mkBase 22 0 w0 S0 U0 B0) ⟨[(Zet x), (Zeu j)], []⟩ _ _
 refine sR [] ?_
 refine T.seq ?_
 refine sR [] ?_
 refine T.block ?_
 refine T.loop (ι := Nat) (fun (k : Nat) => ⟨[(Zet x), (Zeu j), aa, aa, vB false, vI ((k : Nat) : Int)], []⟩) (fun (k : Nat) => (k ≤ j) ∧ (∀ i, i < k → ¬ (x.getD i zE).f_Signer = (x.getD j zE).f_Signer)) (fun (k : Nat) => j - k) (0) ⟨(Nat.zero_le _), (fun j hj => absurd hj (Nat.not_lt_zero _))⟩ (fun _ _ hG => Gs.iI [] (bm 6 51) rfl rfl hG) ?_
 rintro k ⟨hk, hb⟩
 show T _ _ ⟨[(Zet x), (Zeu j), aa, aa, vB false, vI ((k : Nat) : Int)], []⟩ _ _
 replace hk : k ≤ j := hk
 replace hb : ∀ i, i < k → ¬ (x.getD i zE).f_Signer = (x.getD j zE).f_Signer := hb
 refine T.seq ?_
 refine sR [] ?_
 by_cases hq1 : ((k : Nat) : Int) < ((j : Nat) : Int)
 ·refine cT (dT hq1) ?_
  refine T.skip (nT (T.seq ?_))
  refine T.block ?_
  refine sD [[], [], [0, 1], [0, 1, 2], [0, 1, 2, 3], [], [], [5, 6], [5, 6, 7], [5, 6, 7, 8], [0, 1, 2, 3, 4, 5, 6, 7, 8, 9]] [hR 2 rfl rfl (q_index false false (kE false) x k (k := .i64) (i := ((k : Nat) : Int)) Try.underlying31 iat_40 rfl rfl (by omega) (lt_of rfl) trivial),
    hR 7 rfl rfl (q_index false false (kE false) x j (k := .i64) (i := ((j : Nat) : Int)) Try.underlying31 iat_40 rfl rfl ‹_› (lt_of rfl) trivial)] ?_
  by_cases hq2 : (x.getD k zE).f_Signer = (x.getD j zE).f_Signer
  ·refine cT (dT hq2) ?_
   refine sR [] ?_
   refine T.ret (rB (rT (rT (rB (rT ?_)))))
   exact eRt 4 (.one (dB true)) [] (cB (by exact dT ⟨k, by omega, by assumption⟩)) trivial
  refine cF (dF hq2) ?_
  refine T.skip ?_
  refine nB ?_
  refine nT ?_
  refine xK [hR 1 rfl rfl (r_bin (u1 := .int .i64 ((k : Nat) : Int)) (u2 := .int .i64 1) (v := .int .i64 ((k + 1 : Nat) : Int)) (b_add (by rw [IntKind.wrap_i64]; omega)) (lt_of rfl) ⟨rfl, trivial⟩)] ?_
  refine nL (k + 1) ⟨(show (k + 1) ≤ j from (by omega)), (show ∀ i, i < (k + 1) → ¬ (x.getD i zE).f_Signer = (x.getD j zE).f_Signer from (all_succ hb ‹_›))⟩ (show (j - (k + 1) : Nat) < j - k from (by omega)) (fun _ _ hG => Gs.iI [] (bm 6 51) rfl rfl hG)
 refine cF (dF hq1) ?_
 refine T.exit ?_
 refine xT ?_
 refine xT ?_
 refine xH ?_
 refine nT ?_
 refine sR [] ?_
 refine T.ret ?_
 exact eRt 4 (.one (dB false)) [] (cB (by exact dF (fun ⟨i, h1, h2⟩ => hb i (by omega) h2))) trivial
section
variable (f : Int) (u : Int) (l : List aE) (seq : Int) (x : List aE) (k : Nat)
abbrev Zev : AV := slV false false (kE false) x
abbrev Zew : List HS := [.live (.box 83 [dB true, dI f, dI u, .own 1 (kE false).sz 0 l.length]), .live (arrK 40 (kE false) l)]
abbrev Zex : TV := .one (dS [])
abbrev Zey : List AV := [pv 0 0, vI seq, (Zev x), aa, aa, aa, aa, aa, dv (strV (digK x k)), vI ((k : Nat) : Int)]
abbrev Zf0 : AV := vI ((k + 1 : Nat) : Int)
end
theorem ref13_Stable (f : Int) (u : Int) (l : List aE) (seq : Int) (x : List aE) (hf : 0 ≤ f ∧ f ≤ 2) (hu : 0 ≤ u ∧ u ≤ 8) (hl : l.length ≤ 9223372036854775806) (hx : okEs x) : Holds Try.prog 23 ⟨[pv 0 0, vI seq, slV false false (kE false) x], [.box 83 [dB true, dI f, dI u, .own 1 (kE false).sz 0 l.length], arrK 40 (kE false) l], .tup [.one (dS (stD (checkL f u l) f seq x)), .one (dI (stE (checkL f u l) f seq x))], [.live (.box 83 [dB true, dI f, dI u, .own 1 (kE false).sz 0 l.length]), .live (arrK 40 (kE false) l)]⟩ := by
 refine Holds.of Try.func23 rfl (N := 61) Try.ntmps23 rfl fun w0 B0 S0 U0 => ?_
 show T _ (mkBase 61 2 w0 S0 U0 B0) ⟨[pv 0 0, vI seq, (Zev x)], (Zew f u l)⟩ _ _
 have hx1 := hx.1
 refine sR [] ?_
 refine T.seq ?_
 refine sR [] ?_
 by_cases hq1 : seq = 0
 ·refine cT (dT hq1) ?_
  refine T.seq ?_
  refine sR [] ?_
  by_cases hq2 : ((x.length : Nat) : Int) > 0
  ·have hx9 := st_0 (C := (checkL f u l)) (f := f) ‹_› hq2
   refine cT (dT hq2) ?_
   refine sR [] ?_
   refine T.ret (rT (rT ?_))
   exact eX [.t 6 (Zex), .t 7 (.one (dI 120))] ⟨⟨rfl, by kernel_rfl⟩, ⟨⟨rfl, by kernel_rfl⟩, trivial⟩⟩ [0, 1] (cg2 (fun (q1 : List UInt8) (q2 : Int) => (.tup [.one (dS q1), .one (dI q2)] : AV)) (by exact hx9.1) (by exact hx9.2)) (ix (ix trivial))
  have hx9 := st_1 (C := (checkL f u l)) (f := f) ‹_› hq2
  refine cF (dF hq2) ?_
  refine T.skip (nT ?_)
  refine sR [] ?_
  refine T.ret (rT ?_)
  exact eX [.t 6 (Zex), .t 7 (.one (dI 0))] ⟨⟨rfl, by kernel_rfl⟩, ⟨⟨rfl, by kernel_rfl⟩, trivial⟩⟩ [0, 1] (cg2 (fun (q1 : List UInt8) (q2 : Int) => (.tup [.one (dS q1), .one (dI q2)] : AV)) (by exact hx9.1) (by exact hx9.2)) (ix (ix trivial))
 have hs0 := hq1
 refine cF (dF hq1) ?_
 refine T.skip (nT ?_)
 refine sR [] ?_
 refine T.seq ?_
 refine sR [] ?_
 refine T.block ?_
 refine T.loop (ι := Nat) (fun (k : Nat) => ⟨(Zey seq x k), (Zew f u l)⟩) (fun (k : Nat) => (k ≤ x.length) ∧ (∀ i, i < k → votN (gS (checkL f u l) f seq (dig0 x)) x i = 0)) (fun (k : Nat) => x.length - k) (0) ⟨(Nat.zero_le _), (fun j hj => absurd hj (Nat.not_lt_zero _))⟩ (fun _ _ hG => Gs.iI [0, 1] (bm 10 775) (t2 := [pv 0 0, vI seq, (Zev x), aa, aa, aa, aa, aa, dv (strV []), vI 0]) (congrArg (fun (q1 : List UInt8) => ([pv 0 0, vI seq, (Zev x), aa, aa, aa, aa, aa, dv (strV q1), vI 0] : List AV)) (by rfl)) rfl hG) ?_
 rintro k ⟨hk, hb⟩
 show T _ _ ⟨(Zey seq x k), (Zew f u l)⟩ _ _
 replace hk : k ≤ x.length := hk
 replace hb : ∀ i, i < k → votN (gS (checkL f u l) f seq (dig0 x)) x i = 0 := hb
 refine T.seq ?_
 refine sR [] ?_
 by_cases hq3 : ((k : Nat) : Int) < ((x.length : Nat) : Int)
 ·have hgk := okEs_get hx (k := k) (by omega); have hgk1 := hgk.1.1; have hgk2 := hgk.1.2; have hgk3 := hgk.2
  refine cT (dT hq3) ?_
  refine T.skip (nT (T.seq ?_))
  refine T.block ?_
  refine sR [hR 3 rfl rfl (q_index false false (kE false) x k (k := .i64) (i := ((k : Nat) : Int)) Try.underlying31 iat_40 rfl rfl (by omega) (lt_of rfl) trivial),
    hR 5 rfl rfl (rCa (ref13_Vote f u l (x.getD k zE) 5 ‹_› ‹_› ‹_› (by omega) (by omega)) Try.func42 [0, 1] [(.tmp 24, pv 0 0), (.tmp 28, .tv (.agg [dI (x.getD k zE).f_Signer, dU (x.getD k zE).f_Body])), (.const (.int .i64 5), vI 5)] 2 2)] ?_
  refine T.seq ?_
  refine sR [] ?_
  by_cases hq4 : ((k : Nat) : Int) = 0
  ·have hgd : digN (checkL f u l) f x k = (vtV (checkL f u l) f (x.getD k zE) 5).f_Digest := if_pos (dT (show k = 0 by omega))
   refine cT (dT hq4) ?_
   refine xK [] ?_
   refine nT ?_
   refine T.block ?_
   refine sR [] ?_
   by_cases hq5 : (vtE (checkL f u l) f (x.getD k zE) 5) ≠ 0
   ·have hg9 := gS_1 (seq := seq) (d := dig0 x) hq5; have hz9 := tly_at (g := gS (checkL f u l) f seq (dig0 x)) (max 1 (2 * f + 1)) hb ((vot_1 (by rw [hg9]; exact hq5)).trans hg9) hq5 (by omega); have hx9 := st_t hs0 hz9 hq5
    refine cT (dT hq5) ?_
    refine sR [] ?_
    refine T.ret (rB (rB (rT (rT (rB (rT ?_))))))
    exact eX [.t 6 (Zex), .t 7 (.one (dI (vtE (checkL f u l) f (x.getD k zE) 5)))] ⟨⟨rfl, by kernel_rfl⟩, ⟨⟨rfl, by kernel_rfl⟩, trivial⟩⟩ [0, 1] (cg2 (fun (q1 : List UInt8) (q2 : Int) => (.tup [.one (dS q1), .one (dI q2)] : AV)) (by exact hx9.1) (by exact hx9.2)) (ix (ix trivial))
   have hv9 := hq5; have hdn := dig_next hb (by omega) hv9; have hg9 : gS (checkL f u l) f seq (dig0 x) (x.getD k zE) = musS seq (digN (checkL f u l) f x k) (vtV (checkL f u l) f (x.getD k zE) 5) := (gS_2 hv9).trans (by rw [hdn.1]); rw [hgd] at hg9
   refine cF (dF hq5) ?_
   refine sR [] ?_
   by_cases hq6 : (vtV (checkL f u l) f (x.getD k zE) 5).f_Seq ≠ seq
   ·have he9 := hg9.trans (if_pos hq6); have hz9 := tly_at (g := gS (checkL f u l) f seq (dig0 x)) (max 1 (2 * f + 1)) hb ((vot_1 (by rw [he9]; decide)).trans he9) (by decide) (by omega); have hx9 := st_t hs0 hz9 (by decide)
    refine cT (dT hq6) ?_
    refine sR [] ?_
    refine T.ret (rB (rB (rT (rT (rB (rT ?_))))))
    exact eX [.t 6 (Zex), .t 7 (.one (dI 131))] ⟨⟨rfl, by kernel_rfl⟩, ⟨⟨rfl, by kernel_rfl⟩, trivial⟩⟩ [0, 1] (cg2 (fun (q1 : List UInt8) (q2 : Int) => (.tup [.one (dS q1), .one (dI q2)] : AV)) (by exact hx9.1) (by exact hx9.2)) (ix (ix trivial))
   have hq9 := hq6
   refine cF (dF hq6) ?_
   refine sR [] ?_
   refine cF (show decide ((vtV (checkL f u l) f (x.getD k zE) 5).f_Digest ≠ (vtV (checkL f u l) f (x.getD k zE) 5).f_Digest) = false from dF (fun h => h rfl)) ?_
   refine sR [hR 2 rfl rfl (rCa (ref13_twice x k (by omega) (by omega)) Try.func43 [] [(.tmp 51, (Zev x)), (.tmp 52, vI ((k : Nat) : Int))] 0 0)] ?_
   by_cases hq7 : twiceL x k
   ·have hn9 : ¬ (gS (checkL f u l) f seq (dig0 x)) (x.getD k zE) ≠ 0 := (by (rw [hg9.trans ((if_neg hq9).trans (if_neg (fun w => w rfl)))]; simp)); have hz9 := tly_at (g := gS (checkL f u l) f seq (dig0 x)) (max 1 (2 * f + 1)) hb (vot_2 hn9 hq7) (by decide) (by omega); have hx9 := st_t hs0 hz9 (by decide)
    refine cT (dT hq7) ?_
    refine sR [] ?_
    refine T.ret (rB (rB (rT (rT (rB (rT ?_))))))
    exact eX [.t 6 (Zex), .t 7 (.one (dI 33))] ⟨⟨rfl, by kernel_rfl⟩, ⟨⟨rfl, by kernel_rfl⟩, trivial⟩⟩ [0, 1] (cg2 (fun (q1 : List UInt8) (q2 : Int) => (.tup [.one (dS q1), .one (dI q2)] : AV)) (by exact hx9.1) (by exact hx9.2)) (ix (ix trivial))
   have hn9 : ¬ (gS (checkL f u l) f seq (dig0 x)) (x.getD k zE) ≠ 0 := (by (rw [hg9.trans ((if_neg hq9).trans (if_neg (fun w => w rfl)))]; simp)); have ht9 := hq7
   refine cF (dF hq7) ?_
   refine T.skip ?_
   refine nB ?_
   refine nB ?_
   refine nT ?_
   refine xK [hR 1 rfl rfl (r_bin (u1 := .int .i64 ((k : Nat) : Int)) (u2 := .int .i64 1) (v := .int .i64 ((k + 1 : Nat) : Int)) (b_add (by rw [IntKind.wrap_i64]; omega)) (lt_of rfl) ⟨rfl, trivial⟩)] ?_
   refine nL (k + 1) ⟨(show (k + 1) ≤ x.length from (by omega)), (show ∀ i, i < (k + 1) → votN (gS (checkL f u l) f seq (dig0 x)) x i = 0 from (all_succ hb (vot_3 hn9 ht9)))⟩ (show (x.length - (k + 1) : Nat) < x.length - k from (by omega)) (fun _ _ hG => Gs.iI [0, 1] (bm 10 775) (t2 := [pv 0 0, vI seq, (Zev x), aa, aa, aa, aa, aa, dv (strV (vtV (checkL f u l) f (x.getD k zE) 5).f_Digest), (Zf0 k)]) (congrArg (fun (q1 : List UInt8) => ([pv 0 0, vI seq, (Zev x), aa, aa, aa, aa, aa, dv (strV q1), (Zf0 k)] : List AV)) (by exact ((hgd.symm.trans hdn.1).trans hdn.2.2.2.1.symm).symm)) rfl hG)
  have hgd : digN (checkL f u l) f x k = digK x k := if_neg (by rw [show fstK k = false from dF (by omega)]; decide)
  refine cF (dF hq4) ?_
  refine T.skip (nT ?_)
  refine T.block ?_
  refine sR [] ?_
  by_cases hq8 : (vtE (checkL f u l) f (x.getD k zE) 5) ≠ 0
  ·have hg9 := gS_1 (seq := seq) (d := dig0 x) hq8; have hz9 := tly_at (g := gS (checkL f u l) f seq (dig0 x)) (max 1 (2 * f + 1)) hb ((vot_1 (by rw [hg9]; exact hq8)).trans hg9) hq8 (by omega); have hx9 := st_t hs0 hz9 hq8
   refine cT (dT hq8) ?_
   refine sR [] ?_
   refine T.ret (rB (rB (rT (rT (rB (rT ?_))))))
   exact eX [.t 6 (Zex), .t 7 (.one (dI (vtE (checkL f u l) f (x.getD k zE) 5)))] ⟨⟨rfl, by kernel_rfl⟩, ⟨⟨rfl, by kernel_rfl⟩, trivial⟩⟩ [0, 1] (cg2 (fun (q1 : List UInt8) (q2 : Int) => (.tup [.one (dS q1), .one (dI q2)] : AV)) (by exact hx9.1) (by exact hx9.2)) (ix (ix trivial))
  have hv9 := hq8; have hdn := dig_next hb (by omega) hv9; have hg9 : gS (checkL f u l) f seq (dig0 x) (x.getD k zE) = musS seq (digN (checkL f u l) f x k) (vtV (checkL f u l) f (x.getD k zE) 5) := (gS_2 hv9).trans (by rw [hdn.1]); rw [hgd] at hg9
  refine cF (dF hq8) ?_
  refine sR [] ?_
  by_cases hq9 : (vtV (checkL f u l) f (x.getD k zE) 5).f_Seq ≠ seq
  ·have he9 := hg9.trans (if_pos hq9); have hz9 := tly_at (g := gS (checkL f u l) f seq (dig0 x)) (max 1 (2 * f + 1)) hb ((vot_1 (by rw [he9]; decide)).trans he9) (by decide) (by omega); have hx9 := st_t hs0 hz9 (by decide)
   refine cT (dT hq9) ?_
   refine sR [] ?_
   refine T.ret (rB (rB (rT (rT (rB (rT ?_))))))
   exact eX [.t 6 (Zex), .t 7 (.one (dI 131))] ⟨⟨rfl, by kernel_rfl⟩, ⟨⟨rfl, by kernel_rfl⟩, trivial⟩⟩ [0, 1] (cg2 (fun (q1 : List UInt8) (q2 : Int) => (.tup [.one (dS q1), .one (dI q2)] : AV)) (by exact hx9.1) (by exact hx9.2)) (ix (ix trivial))
  have hq9 := hq9
  refine cF (dF hq9) ?_
  refine sR [] ?_
  by_cases hq10 : (vtV (checkL f u l) f (x.getD k zE) 5).f_Digest ≠ (digK x k)
  ·have he9 := hg9.trans ((if_neg hq9).trans (if_pos hq10)); have hz9 := tly_at (g := gS (checkL f u l) f seq (dig0 x)) (max 1 (2 * f + 1)) hb ((vot_1 (by rw [he9]; decide)).trans he9) (by decide) (by omega); have hx9 := st_t hs0 hz9 (by decide)
   refine cT (dT hq10) ?_
   refine sR [] ?_
   refine T.ret (rB (rB (rT (rT (rB (rT ?_))))))
   exact eX [.t 6 (Zex), .t 7 (.one (dI 132))] ⟨⟨rfl, by kernel_rfl⟩, ⟨⟨rfl, by kernel_rfl⟩, trivial⟩⟩ [0, 1] (cg2 (fun (q1 : List UInt8) (q2 : Int) => (.tup [.one (dS q1), .one (dI q2)] : AV)) (by exact hx9.1) (by exact hx9.2)) (ix (ix trivial))
  have he9 := hg9.trans ((if_neg hq9).trans (if_neg hq10)); have hn9 : ¬ (gS (checkL f u l) f seq (dig0 x)) (x.getD k zE) ≠ 0 := (by rw [he9]; simp)
  refine cF (dF hq10) ?_
  refine sR [hR 2 rfl rfl (rCa (ref13_twice x k (by omega) (by omega)) Try.func43 [] [(.tmp 51, (Zev x)), (.tmp 52, vI ((k : Nat) : Int))] 0 0)] ?_
  by_cases hq11 : twiceL x k
  ·have hn9 : ¬ (gS (checkL f u l) f seq (dig0 x)) (x.getD k zE) ≠ 0 := (by exact hn9); have hz9 := tly_at (g := gS (checkL f u l) f seq (dig0 x)) (max 1 (2 * f + 1)) hb (vot_2 hn9 hq11) (by decide) (by omega); have hx9 := st_t hs0 hz9 (by decide)
   refine cT (dT hq11) ?_
   refine sR [] ?_
   refine T.ret (rB (rB (rT (rT (rB (rT ?_))))))
   exact eX [.t 6 (Zex), .t 7 (.one (dI 33))] ⟨⟨rfl, by kernel_rfl⟩, ⟨⟨rfl, by kernel_rfl⟩, trivial⟩⟩ [0, 1] (cg2 (fun (q1 : List UInt8) (q2 : Int) => (.tup [.one (dS q1), .one (dI q2)] : AV)) (by exact hx9.1) (by exact hx9.2)) (ix (ix trivial))
  have hn9 : ¬ (gS (checkL f u l) f seq (dig0 x)) (x.getD k zE) ≠ 0 := (by exact hn9); have ht9 := hq11
  refine cF (dF hq11) ?_
  refine T.skip ?_
  refine nB ?_
  refine nB ?_
  refine nT ?_
  refine xK [hR 1 rfl rfl (r_bin (u1 := .int .i64 ((k : Nat) : Int)) (u2 := .int .i64 1) (v := .int .i64 ((k + 1 : Nat) : Int)) (b_add (by rw [IntKind.wrap_i64]; omega)) (lt_of rfl) ⟨rfl, trivial⟩)] ?_
  refine nL (k + 1) ⟨(show (k + 1) ≤ x.length from (by omega)), (show ∀ i, i < (k + 1) → votN (gS (checkL f u l) f seq (dig0 x)) x i = 0 from (all_succ hb (vot_3 hn9 ht9)))⟩ (show (x.length - (k + 1) : Nat) < x.length - k from (by omega)) (fun _ _ hG => Gs.iI [0, 1] (bm 10 775) (t2 := [pv 0 0, vI seq, (Zev x), aa, aa, aa, aa, aa, dv (strV (digK x k)), (Zf0 k)]) (congrArg (fun (q1 : List UInt8) => ([pv 0 0, vI seq, (Zev x), aa, aa, aa, aa, aa, dv (strV q1), (Zf0 k)] : List AV)) (by exact ((hgd.symm.trans hdn.1).trans hdn.2.2.2.1.symm).symm)) rfl hG)
 have hz0 := tly_0 (g := gS (checkL f u l) f seq (dig0 x)) (max 1 (2 * f + 1)) hb (by omega); have hda := dig_at hb hk (.inl (by omega))
 refine cF (dF hq3) ?_
 refine T.exit ?_
 refine xT ?_
 refine xT ?_
 refine xH ?_
 refine nT (T.seq ?_)
 refine sR [hR 3 rfl rfl (rCa (ref03_Quorum f u l ‹_› ‹_›) Try.func44 [0, 1] [(.tmp 56, pv 0 0)] 2 2),
   hR 4 rfl rfl (r_max (k := .i64) (a := 1) (b := 2 * f + 1) (lt_of rfl) ⟨rfl, trivial⟩)] ?_
 by_cases hq12 : ((x.length : Nat) : Int) < (max 1 (2 * f + 1))
 ·have hx9 := st_t hs0 (hz0.trans (if_pos hq12)) (by decide)
  refine cT (dT hq12) ?_
  refine sR [] ?_
  refine T.ret (rT ?_)
  exact eX [.t 6 (Zex), .t 7 (.one (dI 32))] ⟨⟨rfl, by kernel_rfl⟩, ⟨⟨rfl, by kernel_rfl⟩, trivial⟩⟩ [0, 1] (cg2 (fun (q1 : List UInt8) (q2 : Int) => (.tup [.one (dS q1), .one (dI q2)] : AV)) (by exact hx9.1) (by exact hx9.2)) (ix (ix trivial))
 have hx9 := st_ok hs0 (hz0.trans (if_neg hq12))
 refine cF (dF hq12) ?_
 refine T.skip (nT ?_)
 refine sR [] ?_
 refine T.ret ?_
 exact eX [.t 6 (.one (dS (digK x k))), .t 7 (.one (dI 0))] ⟨⟨rfl, by kernel_rfl⟩, ⟨⟨rfl, by kernel_rfl⟩, trivial⟩⟩ [0, 1] (cg2 (fun (q1 : List UInt8) (q2 : Int) => (.tup [.one (dS q1), .one (dI q2)] : AV)) (by exact (hda.1.trans hx9.1.symm).symm) (by exact hx9.2.1)) (ix (ix trivial))
end Go.Proofs.Ytalapplihdmenaa.Q
namespace Go.Proofs.Ytalapplihdmenaa.Q
set_option linter.unusedVariables false
set_option linter.unusedSimpArgs false
set_option maxRecDepth 100000
def saidE (w : aW) : aE := ⟨w.f_Signer, encB w.f_M⟩
def saidL (f u : Int) (L : List aE) (w : aW) : List aE := if w.f_Signed = true then signL f u L w.f_Signer (encB w.f_M) else L
theorem said_len (f u : Int) (L : List aE) (w : aW) : (saidL f u L w).length ≤ L.length + 1 := by
  unfold saidL; split
  · exact signL_len _ _ _ _ _
  · omega
def okM (m : aM) : Prop := (encJ m 9).length ≤ 10000000 ∧ m.f_Batch.length ≤ 10000000 ∧ m.f_Pres.length ≤ 10000000 ∧ m.f_Certs.length ≤ 10000000 ∧ m.f_Data.length ≤ 10000000 ∧ m.f_Digest.length ≤ 10000000
theorem encB_len {m : aM} (h : okM m) : (encB m).length ≤ 10000000 := by
  unfold encB
  split
  · exact h.1
  · simp
theorem said_yes {f u : Int} {L : List aE} {w : aW} (h : w.f_Signed = true) : saidL f u L w = signL f u L w.f_Signer (encB w.f_M) := if_pos h
theorem said_no {f u : Int} {L : List aE} {w : aW} (h : ¬ w.f_Signed = true) : saidL f u L w = L := if_neg h
def sayL (f u : Int) (l : List aE) (ws : List aW) (k : Nat) : List aE := (ws.take k).foldl (saidL f u) l
def goodW (ws : List aW) : Prop := ∀ w, w ∈ ws → i64R w.f_Signer ∧ okM w.f_M
theorem say_succ {f u : Int} {l : List aE} {ws : List aW} {k : Nat} (hk : k < ws.length) : sayL f u l ws (k + 1) = saidL f u (sayL f u l ws k) (ws.getD k zW) := by
  unfold sayL; rw [tk_succ (z := zW) hk, List.foldl_append]; rfl
theorem says_succ {ws : List aW} {k : Nat} (hk : k < ws.length) : (ws.take (k + 1)).map saidE = (ws.take k).map saidE ++ [saidE (ws.getD k zW)] := by
  rw [tk_succ (z := zW) hk, List.map_append]; rfl
theorem say_len (f u : Int) (l : List aE) (ws : List aW) : ∀ k, (sayL f u l ws k).length ≤ l.length + k
  | 0 => Nat.le_refl _
  | k + 1 => by
    have h := say_len f u l ws k
    by_cases hk : k < ws.length
    · have := said_len f u (sayL f u l ws k) (ws.getD k zW)
      rw [say_succ hk]; omega
    · unfold sayL at h ⊢
      rw [List.take_of_length_le (by omega)] at h ⊢
      omega
theorem good_get {ws : List aW} (h : goodW ws) (k : Nat) : k < ws.length → i64R (ws.getD k zW).f_Signer ∧ okM (ws.getD k zW).f_M := fun hk => h _ (getD_mem hk)
end Go.Proofs.Ytalapplihdmenaa.Q
