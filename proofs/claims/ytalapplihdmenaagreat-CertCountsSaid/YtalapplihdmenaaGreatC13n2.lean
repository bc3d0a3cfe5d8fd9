import Derived.Test.YtalapplihdmenaaGreatC13n1
namespace Go.Proofs.YtalapplihdmenaaGreat.Q
open Go Go.RowKit
set_option linter.unusedVariables false
set_option linter.unusedSimpArgs false
set_option maxRecDepth 100000
set_option maxHeartbeats 4000000
section
variable (f : Int) (u : Int) (rows : List (authn_pair × Bool)) (s : Int) (tb : Bool) (nb : Bool) (b : List UInt8)
abbrev Z4 : HS := .live (.box 98 [dI (3 * f + 1), dI u, .mref 1])
abbrev Z5 : HS := .live (mpK f_authn_pair kBool rows)
abbrev Z6 : List AV := [pv 0 0, vI s, slV tb nb kU8 b, aa, aa, aa, pv 2 0, vI 11, vB (!(decide (isKnown f u s))), aa, aa, aa, aa, aa, vB (decide (((b.length : Nat) : Int) > 16777216))]
abbrev Z7 : HS := .live (.box 35 [dI 0, .d (.val (.slice none 0 0))])
abbrev Z8 : SV := dU ([] : List UInt8)
abbrev Z9 : List SV := [dI 0, Z8]
abbrev Za : List AV := [pv 0 0, vI s, slV tb nb kU8 b, aa, aa, aa, pv 2 0, vI 0, vB (!(decide (isKnown f u s))), aa, aa, aa, aa, aa, vB (decide (((b.length : Nat) : Int) > 16777216))]
abbrev Zb : List AV := [pv 0 0, vI s, slV tb nb kU8 b, aa, aa, aa, pv 2 0, vI 30, vB (!(decide (isKnown f u s)))]
end
theorem authn_Sign (f : Int) (u : Int) (rows : List (authn_pair × Bool)) (s : Int) (tb : Bool) (nb : Bool) (b : List UInt8) (hf : 0 ≤ f ∧ f ≤ 2) (hu : 0 ≤ u ∧ u ≤ 8) (hs : -9223372036854775808 ≤ s ∧ s ≤ 9223372036854775807) (hb : b.length ≤ 140737488355328) : Holds Tryz.prog 51 ⟨[pv 0 0, vI s, slV tb nb kU8 b], [.box 98 [dI (3 * f + 1), dI u, .mref 1], mpK f_authn_pair kBool rows], .tup [.agg [dI (signV f u s b).f_Signer, dU (signV f u s b).f_Body], .one (dI (signE f u s b))], [.live (.box 98 [dI (3 * f + 1), dI u, .mref 1]), .live (mpK f_authn_pair kBool (signT f u rows s b))]⟩ := by
 refine Holds.of Tryz.func51 rfl (N := 31) Tryz.ntmps51 rfl fun w0 B0 S0 U0 => ?_
 show T _ (mkBase 31 2 w0 S0 U0 B0) ⟨[pv 0 0, vI s, slV tb nb kU8 b], [(Z4 f u), (Z5 rows)]⟩ _ _
 refine sR [] ?_
 refine T.seq ?_
 refine T.block ?_
 refine sR [hR 2 rfl rfl (rCa (authn_Known f u rows s ‹_› ‹_› ‹_›) Tryz.func49 [0, 1] [(.tmp 9, pv 0 0), (.tmp 10, vI s)] 2 2)] ?_
 by_cases hq1 : isKnown f u s
 ·refine cF (cn (dT hq1)) ?_
  refine sR [] ?_
  by_cases hq2 : ((b.length : Nat) : Int) > 16777216
  ·refine cT (dT hq2) ?_
   refine sR [] ?_
   refine T.ret (rB (rT ?_))
   refine eN ⟨(Z6 f u s tb nb b), [(Z4 f u), (Z5 rows), Z7]⟩ ?_
   refine Ends.turn (s' := ⟨(Z6 f u s tb nb b), [(Z4 f u), (Z5 rows), .live (.box 35 Z9)]⟩) (fun _ _ hG => Gs.less (s := ⟨(Z6 f u s tb nb b), [(Z4 f u), (Z5 rows), Z7]⟩) ⟨.inl rfl, (kk2 (kk4 (kk8 trivial)))⟩ (kk2 ⟨(.inr ⟨rfl, ⟨.inl rfl, ⟨(.inr ⟨rfl, rfl, rfl⟩), trivial⟩⟩⟩), trivial⟩) hG) ?_
   exact eX [.c 6 2 35 0 35 [dI 0, Z8] (.agg Z9), .t 7 (.one (dI 11))] ⟨⟨rfl, rfl, by kernel_rfl, by kernel_rfl, .inl ⟨2, wide_35, rfl, Nat.le_of_ble_eq_true rfl⟩⟩, ⟨⟨rfl, by kernel_rfl⟩, trivial⟩⟩ [0, 1] (by have e1 : ((signV f u s b).f_Signer : Int) = 0 := (by (simp [signE, signV, signT, zE, *]; done)); have e2 : ((signV f u s b).f_Body : List UInt8) = ([] : List UInt8) := (by (simp [signE, signV, signT, zE, *]; done)); have e3 : ((signE f u s b) : Int) = 11 := (by (simp [signE, signV, signT, zE, *]; done)); have hE := congr (congr (congrArg (fun (q1 : Int) (q2 : List UInt8) (q3 : Int) => (.tup [.agg [dI q1, dU q2], .one (dI q3)] : AV)) e1) e2) e3; exact hE) (ix ⟨⟨rfl, (by have e1 : (rows : List (authn_pair × Bool)) = (signT f u rows s b) := (by (simp [signE, signV, signT, zE, *]; done)); have hE := congrArg (fun (q1 : List (authn_pair × Bool)) => (.live (mpK f_authn_pair kBool q1) : HS)) e1; exact Eq.trans (by kernel_rfl) hE)⟩, trivial⟩)
  refine cF (dF hq2) ?_
  refine T.skip ?_
  refine nB ?_
  refine nT ?_
  refine sD [[], [0], [0, 1], [0, 1, 2], [], [], [5], [4, 5, 6], [0, 1, 2, 3, 4, 5, 6, 7]] [hR 6 rfl rfl (q_strOf () b (ys := (.d (dsl tb nb kU8 b))) (rhs := []) Tryz.underlying33 Tryz.underlying5 Tryz.underlying9 (src_sl tb nb kU8 b) (lt_of rfl) trivial),
    hR 8 rfl rfl (r_mapUpdate 1 rows (authn_pair.mk s b) true (kd := kBool) (ak := .tv (.agg [dI s, dS b])) (tv := .one (dB true)) Tryz.underlying96 mkey_authn_pair ⟨[.int .i64 s, strV b], rfl, rfl⟩ rfl ⟨.inl rfl, trivial⟩ ⟨rfl, trivial⟩)] ?_
  refine sR [hR 2 rfl rfl (rCa (clone_u8 tb nb b ‹_›) Tryz.func69 [3] [(.tmp 28, slV tb nb kU8 b)] 0 1)] ?_
  refine T.ret ?_
  refine eN ⟨(Za f u s tb nb b), [(Z4 f u), .live (mpK f_authn_pair kBool (mput rows (authn_pair.mk s b) true)), .live (.box 35 [dI s, .own 3 kU8.sz 0 b.length]), .live (arrK 5 kU8 b)]⟩ ?_
  refine Ends.turn (s' := ⟨(Za f u s tb nb b), [(Z4 f u), .live (mpK f_authn_pair kBool (mput rows (authn_pair.mk s b) true)), .live (.box 35 [dI s, dU b]), .dead]⟩) (fun _ _ hG => Gs.freeze (s := ⟨(Za f u s tb nb b), [(Z4 f u), .live (mpK f_authn_pair kBool (mput rows (authn_pair.mk s b) true)), .live (.box 35 [dI s, .own 3 kU8.sz 0 b.length]), .live (arrK 5 kU8 b)]⟩) 3 (el := elOf kU8 b) (sz := kU8.sz) (n := b.length) rfl ⟨.inl rfl, (kk2 (kk4 (kk8 trivial)))⟩ ⟨(.inr ⟨by decide, .inl rfl⟩), ⟨(.inr ⟨by decide, .inl rfl⟩), ⟨(.inr ⟨by decide, .inr ⟨rfl, ⟨.inl rfl, ⟨(.inr ⟨rfl, rfl, rfl, (fun h => by cases h), rfl, rfl, Nat.le_of_eq (Nat.zero_add _), fun i j _ => by rw [Nat.zero_add]⟩), trivial⟩⟩⟩⟩), ⟨(.inl ⟨rfl, rfl⟩), trivial⟩⟩⟩⟩ hG) ?_
  exact eX [.c 6 2 35 0 35 [dI s, dU b] (.agg [dI s, dU b]), .t 7 (.one (dI 0))] ⟨⟨rfl, rfl, by kernel_rfl, by kernel_rfl, .inl ⟨2, wide_35, rfl, Nat.le_of_ble_eq_true rfl⟩⟩, ⟨⟨rfl, by kernel_rfl⟩, trivial⟩⟩ [0, 1] (by have e1 : ((signV f u s b).f_Signer : Int) = s := (by (simp [signE, signV, signT, zE, *]; done)); have e2 : ((signV f u s b).f_Body : List UInt8) = b := (by (simp [signE, signV, signT, zE, *]; done)); have e3 : ((signE f u s b) : Int) = 0 := (by (simp [signE, signV, signT, zE, *]; done)); have hE := congr (congr (congrArg (fun (q1 : Int) (q2 : List UInt8) (q3 : Int) => (.tup [.agg [dI q1, dU q2], .one (dI q3)] : AV)) e1) e2) e3; exact hE) (ix ⟨⟨rfl, (by have e1 : ((mput rows (authn_pair.mk s b) true) : List (authn_pair × Bool)) = (signT f u rows s b) := (by (simp [signE, signV, signT, zE, *]; done)); have hE := congrArg (fun (q1 : List (authn_pair × Bool)) => (.live (mpK f_authn_pair kBool q1) : HS)) e1; exact Eq.trans (by kernel_rfl) hE)⟩, trivial⟩)
 refine cT (cn (dF hq1)) ?_
 refine sR [] ?_
 refine T.ret (rB (rT ?_))
 refine eN ⟨(Zb f u s tb nb b), [(Z4 f u), (Z5 rows), Z7]⟩ ?_
 refine Ends.turn (s' := ⟨(Zb f u s tb nb b), [(Z4 f u), (Z5 rows), .live (.box 35 Z9)]⟩) (fun _ _ hG => Gs.less (s := ⟨(Zb f u s tb nb b), [(Z4 f u), (Z5 rows), Z7]⟩) ⟨.inl rfl, (kk8 trivial)⟩ (kk2 ⟨(.inr ⟨rfl, ⟨.inl rfl, ⟨(.inr ⟨rfl, rfl, rfl⟩), trivial⟩⟩⟩), trivial⟩) hG) ?_
 exact eX [.c 6 2 35 0 35 [dI 0, Z8] (.agg Z9), .t 7 (.one (dI 30))] ⟨⟨rfl, rfl, by kernel_rfl, by kernel_rfl, .inl ⟨2, wide_35, rfl, Nat.le_of_ble_eq_true rfl⟩⟩, ⟨⟨rfl, by kernel_rfl⟩, trivial⟩⟩ [0, 1] (by have e1 : ((signV f u s b).f_Signer : Int) = 0 := (by (simp [signE, signV, signT, zE, *]; done)); have e2 : ((signV f u s b).f_Body : List UInt8) = ([] : List UInt8) := (by (simp [signE, signV, signT, zE, *]; done)); have e3 : ((signE f u s b) : Int) = 30 := (by (simp [signE, signV, signT, zE, *]; done)); have hE := congr (congr (congrArg (fun (q1 : Int) (q2 : List UInt8) (q3 : Int) => (.tup [.agg [dI q1, dU q2], .one (dI q3)] : AV)) e1) e2) e3; exact hE) (ix ⟨⟨rfl, (by have e1 : (rows : List (authn_pair × Bool)) = (signT f u rows s b) := (by (simp [signE, signV, signT, zE, *]; done)); have hE := congrArg (fun (q1 : List (authn_pair × Bool)) => (.live (mpK f_authn_pair kBool q1) : HS)) e1; exact Eq.trans (by kernel_rfl) hE)⟩, trivial⟩)
theorem wide_33 : Wide Tryz.prog 33 none := ⟨_, Tryz.underlying33, (fun _ h => by cases h), (fun _ _ h => by cases h)⟩
theorem iat_4 : Tryz.prog.info? 4 = some Tryz.t4 := by kernel_rfl
theorem zerom_4 : ZeroM Tryz.prog 4 [.bool false] := ⟨_, _, iat_4, rfl, rfl, fun _ => rfl⟩
theorem authn_Check (f : Int) (u : Int) (rows : List (authn_pair × Bool)) (te : Bool) (e : aE) (hf : 0 ≤ f ∧ f ≤ 2) (hu : 0 ≤ u ∧ u ≤ 8) (hs : -9223372036854775808 ≤ e.f_Signer ∧ e.f_Signer ≤ 9223372036854775807) : Holds Tryz.prog 21 ⟨[pv 0 0, .tv (.agg [dI e.f_Signer, .d (dsl te false kU8 e.f_Body)])], [.box 98 [dI (3 * f + 1), dI u, .mref 1], mpK f_authn_pair kBool rows], vI (checkE f u rows e), [.live (.box 98 [dI (3 * f + 1), dI u, .mref 1]), .live (mpK f_authn_pair kBool rows)]⟩ := by
 refine Holds.of Tryz.func21 rfl (N := 28) Tryz.ntmps21 rfl fun w0 B0 S0 U0 => ?_
 show T _ (mkBase 28 2 w0 S0 U0 B0) ⟨[pv 0 0, .tv (.agg [dI e.f_Signer, .d (dsl te false kU8 e.f_Body)])], [.live (.box 98 [dI (3 * f + 1), dI u, .mref 1]), .live (mpK f_authn_pair kBool rows)]⟩ _ _
 refine sR [] ?_
 refine T.seq ?_
 refine sR [hR 3 rfl rfl (rCa (authn_Known f u rows e.f_Signer ‹_› ‹_› ‹_›) Tryz.func49 [0, 1] [(.tmp 7, pv 0 0), (.tmp 9, vI e.f_Signer)] 2 2)] ?_
 by_cases hq1 : isKnown f u e.f_Signer
 ·refine cF (cn (dT hq1)) ?_
  refine T.skip (nT (T.seq ?_))
  refine sD [[], [0], [0, 1], [0, 1, 2], [], [4], [], [6], [6, 7], [4, 5, 6, 7, 8], [0, 1, 2, 3, 4, 5, 6, 7, 8, 9], [0, 1, 2, 3, 4, 5, 6, 7, 8, 9, 10], [0, 1, 2, 3, 4, 5, 6, 7, 8, 9, 10, 11], [0, 1, 2, 3, 4, 5, 6, 7, 8, 9, 10, 11], [0, 1, 2, 3, 4, 5, 6, 7, 8, 9, 10, 11, 12], [0, 1, 2, 3, 4, 5, 6, 7, 8, 9, 10, 11, 12, 13, 14]] [hR 8 rfl rfl (q_strOf () e.f_Body (ys := (.d (dsl te false kU8 e.f_Body))) (rhs := []) Tryz.underlying33 Tryz.underlying5 Tryz.underlying9 (src_sl te false kU8 e.f_Body) (lt_of rfl) trivial),
    hR 10 rfl rfl (r_lookup2 1 rows (authn_pair.mk e.f_Signer e.f_Body) (.one (dB (mget rows (authn_pair.mk e.f_Signer e.f_Body) false))) (ak := .tv (.agg [dI e.f_Signer, dS e.f_Body])) (kd := kBool) Tryz.underlying96 mkey_authn_pair ⟨[.int .i64 e.f_Signer, strV e.f_Body], rfl, rfl⟩ zerom_4 ⟨.inl rfl, trivial⟩ rfl (lt_of rfl) trivial)] ?_
  refine sR [] ?_
  by_cases hq2 : (mhas rows (authn_pair.mk e.f_Signer e.f_Body)) = true
  ·refine cF (cn hq2) ?_
   refine T.skip (nT ?_)
   refine sR [] ?_
   refine T.ret ?_
   exact eRt 4 (.one (dI 0)) [0, 1] (by have e1 : ((checkE f u rows e) : Int) = 0 := (by (simp [checkE, *]; done)); have hE := cI e1; exact hE) (ix (ix trivial))
  replace hq2 := Bool.eq_false_iff.2 hq2
  refine cT (cn hq2) ?_
  refine sR [] ?_
  refine T.ret (rT ?_)
  exact eRt 4 (.one (dI 31)) [0, 1] (by have e1 : ((checkE f u rows e) : Int) = 31 := (by (simp [checkE, *]; done)); have hE := cI e1; exact hE) (ix (ix trivial))
 refine cT (cn (dF hq1)) ?_
 refine sR [] ?_
 refine T.ret (rT ?_)
 exact eRt 4 (.one (dI 30)) [0, 1] (by have e1 : ((checkE f u rows e) : Int) = 30 := (by (simp [checkE, *]; done)); have hE := cI e1; exact hE) (ix (ix trivial))
theorem ref03_Same (ta : Bool) (tb : Bool) (a : aE) (b : aE) : Holds Tryz.prog 59 ⟨[.tv (.agg [dI a.f_Signer, .d (dsl ta false kU8 a.f_Body)]), .tv (.agg [dI b.f_Signer, .d (dsl tb false kU8 b.f_Body)])], [], vB (decide (a = b)), []⟩ := by
 refine Holds.of Tryz.func59 rfl (N := 17) Tryz.ntmps59 rfl fun w0 B0 S0 U0 => ?_
 show T _ (mkBase 17 0 w0 S0 U0 B0) ⟨[.tv (.agg [dI a.f_Signer, .d (dsl ta false kU8 a.f_Body)]), .tv (.agg [dI b.f_Signer, .d (dsl tb false kU8 b.f_Body)])], []⟩ _ _
 refine sR [] ?_
 by_cases hq1 : a.f_Signer = b.f_Signer
 ·refine sR [hY 6 (dT hq1),
    hY 7 (dT hq1),
    hY 8 (dT hq1),
    hY 9 (dT hq1),
    hS 10 (oY rfl rfl rfl rfl (lt_of rfl) (dT hq1) (rCa (ref01_Same ta false tb false a.f_Body b.f_Body ) Tryz.func30 [] [(.tmp 12, slV ta false kU8 a.f_Body), (.tmp 14, slV tb false kU8 b.f_Body)] 0 0)),
    hP 11 (dT hq1)] ?_
  refine T.ret ?_
  exact eRt 4 (.one (dB (decide (a.f_Body = b.f_Body)))) [] (by have e1 : ((decide (a = b)) : Bool) = (decide (a.f_Body = b.f_Body)) := (by simp [api_Envelope_iff, *]); have hE := cB e1; exact hE) trivial
 refine sR [hN 6 true (dF hq1),
   hN 7 true (dF hq1),
   hN 8 true (dF hq1),
   hN 9 true (dF hq1),
   hN 10 true (dF hq1),
   hP 11 (dF hq1)] ?_
 refine T.ret ?_
 exact eRt 4 (.one (dB false)) [] (by have e1 : ((decide (a = b)) : Bool) = false := (by simp [api_Envelope_iff, *]); have hE := cB e1; exact hE) trivial
theorem ref03_New (f : Int) (u : Int) : Holds Tryz.prog 25 ⟨[vI f, vI u], [], pv 0 0, [.live (.box 75 [dB true, dI (fOf f), dI (cOf u), .own 1 (kE false).sz 0 ([] : List aE).length]), .live (arrK 35 (kE false) ([] : List aE))]⟩ := by
 refine Holds.of Tryz.func25 rfl (N := 13) Tryz.ntmps25 rfl fun w0 B0 S0 U0 => ?_
 show T _ (mkBase 13 0 w0 S0 U0 B0) ⟨[vI f, vI u], []⟩ _ _
 refine sR [] ?_
 refine sR [hR 1 rfl rfl (r_min (k := .i64) (a := f) (b := 2) (lt_of rfl) ⟨rfl, trivial⟩),
   hR 2 rfl rfl (r_max (k := .i64) (a := 0) (b := min f 2) (lt_of rfl) ⟨rfl, trivial⟩),
   hR 4 rfl rfl (r_min (k := .i64) (a := u) (b := 8) (lt_of rfl) ⟨rfl, trivial⟩),
   hR 5 rfl rfl (r_max (k := .i64) (a := 0) (b := min u 8) (lt_of rfl) ⟨rfl, trivial⟩)] ?_
 refine T.ret ?_
 refine eN ⟨[vI f, vI u, aa, aa, pv 0 0], [.live (.box 75 [dB true, dI (max 0 (min f 2)), dI (max 0 (min u 8)), .d (.val (.slice none 0 0))])]⟩ ?_
 refine Ends.turn (s' := ⟨[vI f, vI u, aa, aa, pv 0 0], [.live (.box 75 [dB true, dI (max 0 (min f 2)), dI (max 0 (min u 8)), .own 1 (kE false).sz 0 0]), .live (arrK 35 (kE false) ([] : List aE))]⟩) (fun _ _ hG => Gs.absentB 1 0 3 35 (kE false) (Tb := 75) (cs := [dB true, dI (max 0 (min f 2)), dI (max 0 (min u 8)), .d (.val (.slice none 0 0))]) rfl rfl rfl hG) ?_
 exact eRt 4 (.one (.ptr 0 0)) [0, 1] rfl ⟨⟨rfl, (by have e1 : (max 0 (min f 2) : Int) = (fOf f) := (by (simp only [fOf, cOf]; omega)); have e2 : (max 0 (min u 8) : Int) = (cOf u) := (by (simp only [fOf, cOf]; omega)); have e3 : (0 : Nat) = ([] : List aE).length := (by rfl); have hE := congr (congr (congrArg (fun (q1 : Int) (q2 : Int) (q3 : Nat) => (.live (.box 75 [dB true, dI q1, dI q2, .own 1 (kE false).sz 0 q3]) : HS)) e1) e2) e3; exact Eq.trans (by kernel_rfl) hE)⟩, (ix trivial)⟩
theorem ref03_N (f : Int) (u : Int) (l : List aE) (hf : 0 ≤ f ∧ f ≤ 2) (hu : 0 ≤ u ∧ u ≤ 8) : Holds Tryz.prog 35 ⟨[pv 0 0], [.box 75 [dB true, dI f, dI u, .own 1 (kE false).sz 0 l.length], arrK 35 (kE false) l], vI (3 * f + 1), [.live (.box 75 [dB true, dI f, dI u, .own 1 (kE false).sz 0 l.length]), .live (arrK 35 (kE false) l)]⟩ := by
 refine Holds.of Tryz.func35 rfl (N := 14) Tryz.ntmps35 rfl fun w0 B0 S0 U0 => ?_
 show T _ (mkBase 14 2 w0 S0 U0 B0) ⟨[pv 0 0], [.live (.box 75 [dB true, dI f, dI u, .own 1 (kE false).sz 0 l.length]), .live (arrK 35 (kE false) l)]⟩ _ _
 refine sR [] ?_
 refine T.seq ?_
 refine sR [] ?_
 refine cF (b := (!true)) rfl ?_
 refine T.skip (nT ?_)
 refine sR [hR 4 rfl rfl (r_bin (u1 := .int .i64 3) (u2 := .int .i64 f) (v := .int .i64 (3 * f)) (b_mul (by rw [IntKind.wrap_i64]; omega)) (lt_of rfl) ⟨rfl, trivial⟩),
   hR 5 rfl rfl (r_bin (u1 := .int .i64 (3 * f)) (u2 := .int .i64 1) (v := .int .i64 ((3 * f) + 1)) (b_add (by rw [IntKind.wrap_i64]; omega)) (lt_of rfl) ⟨rfl, trivial⟩)] ?_
 refine T.ret ?_
 exact eRt 2 (.one (dI ((3 * f) + 1))) [0, 1] (cI (by rfl)) (ix (ix trivial))
theorem ref03_Quorum (f : Int) (u : Int) (l : List aE) (hf : 0 ≤ f ∧ f ≤ 2) (hu : 0 ≤ u ∧ u ≤ 8) : Holds Tryz.prog 29 ⟨[pv 0 0], [.box 75 [dB true, dI f, dI u, .own 1 (kE false).sz 0 l.length], arrK 35 (kE false) l], vI (2 * f + 1), [.live (.box 75 [dB true, dI f, dI u, .own 1 (kE false).sz 0 l.length]), .live (arrK 35 (kE false) l)]⟩ := by
 refine Holds.of Tryz.func29 rfl (N := 14) Tryz.ntmps29 rfl fun w0 B0 S0 U0 => ?_
 show T _ (mkBase 14 2 w0 S0 U0 B0) ⟨[pv 0 0], [.live (.box 75 [dB true, dI f, dI u, .own 1 (kE false).sz 0 l.length]), .live (arrK 35 (kE false) l)]⟩ _ _
 refine sR [] ?_
 refine T.seq ?_
 refine sR [] ?_
 refine cF (b := (!true)) rfl ?_
 refine T.skip (nT ?_)
 refine sR [hR 4 rfl rfl (r_bin (u1 := .int .i64 2) (u2 := .int .i64 f) (v := .int .i64 (2 * f)) (b_mul (by rw [IntKind.wrap_i64]; omega)) (lt_of rfl) ⟨rfl, trivial⟩),
   hR 5 rfl rfl (r_bin (u1 := .int .i64 (2 * f)) (u2 := .int .i64 1) (v := .int .i64 ((2 * f) + 1)) (b_add (by rw [IntKind.wrap_i64]; omega)) (lt_of rfl) ⟨rfl, trivial⟩)] ?_
 refine T.ret ?_
 exact eRt 2 (.one (dI ((2 * f) + 1))) [0, 1] (cI (by rfl)) (ix (ix trivial))
theorem ref03_Primary (f : Int) (u : Int) (l : List aE) (s : Int) (hf : 0 ≤ f ∧ f ≤ 2) (hu : 0 ≤ u ∧ u ≤ 8) : Holds Tryz.prog 17 ⟨[pv 0 0, vI s], [.box 75 [dB true, dI f, dI u, .own 1 (kE false).sz 0 l.length], arrK 35 (kE false) l], vI (primaryA f s), [.live (.box 75 [dB true, dI f, dI u, .own 1 (kE false).sz 0 l.length]), .live (arrK 35 (kE false) l)]⟩ := by
 refine Holds.of Tryz.func17 rfl (N := 18) Tryz.ntmps17 rfl fun w0 B0 S0 U0 => ?_
 show T _ (mkBase 18 2 w0 S0 U0 B0) ⟨[pv 0 0, vI s], [.live (.box 75 [dB true, dI f, dI u, .own 1 (kE false).sz 0 l.length]), .live (arrK 35 (kE false) l)]⟩ _ _
 refine sR [] ?_
 refine T.seq ?_
 refine sR [hY0 6,
   hY0 7,
   hP0 8] ?_
 by_cases hq1 : s < 0
 ·refine cT (dT hq1) ?_
  refine sR [] ?_
  refine T.ret (rT ?_)
  exact eRt 4 (.one (dI 0)) [0, 1] (by have e1 : ((primaryA f s) : Int) = 0 := (by (simp [isClient, isReplica, isKnown, primaryA, orgA, *]; done)); have hE := cI e1; exact hE) (ix (ix trivial))
 refine cF (dF hq1) ?_
 refine T.skip (nT ?_)
 refine sR [hR 2 rfl rfl (rCa (ref03_N f u l ‹_› ‹_›) Tryz.func35 [0, 1] [(.tmp 15, pv 0 0)] 2 2),
   hR 3 rfl rfl (r_bin (u1 := .int .i64 s) (u2 := .int .i64 (3 * f + 1)) (v := .int .i64 (s % (3 * f + 1))) (b_remP (by omega) (by omega)) (lt_of rfl) trivial)] ?_
 refine T.ret ?_
 exact eRt 4 (.one (dI (s % (3 * f + 1)))) [0, 1] (by have e1 : ((primaryA f s) : Int) = s % (3 * f + 1) := (by (simp [isClient, isReplica, isKnown, primaryA, orgA, *]; done)); have hE := cI e1; exact hE) (ix (ix trivial))
theorem ref03_Client (f : Int) (u : Int) (l : List aE) (s : Int) (hf : 0 ≤ f ∧ f ≤ 2) (hu : 0 ≤ u ∧ u ≤ 8) (hs : -9223372036854775808 ≤ s ∧ s ≤ 9223372036854775807) : Holds Tryz.prog 100 ⟨[pv 0 0, vI s], [.box 75 [dB true, dI f, dI u, .own 1 (kE false).sz 0 l.length], arrK 35 (kE false) l], vB (decide (isClient u s)), [.live (.box 75 [dB true, dI f, dI u, .own 1 (kE false).sz 0 l.length]), .live (arrK 35 (kE false) l)]⟩ := by
 refine Holds.of Tryz.func100 rfl (N := 16) Tryz.ntmps100 rfl fun w0 B0 S0 U0 => ?_
 show T _ (mkBase 16 2 w0 S0 U0 B0) ⟨[pv 0 0, vI s], [.live (.box 75 [dB true, dI f, dI u, .own 1 (kE false).sz 0 l.length]), .live (arrK 35 (kE false) l)]⟩ _ _
 refine sR [] ?_
 by_cases hq1 : s ≥ 1000
 ·refine sR [hY 3 (dT hq1),
    hS 4 (oY rfl rfl rfl rfl (lt_of rfl) (dT hq1) (r_bin (u1 := .int .i64 s) (u2 := .int .i64 1000) (v := .int .i64 (s - 1000)) (b_sub (by rw [IntKind.wrap_i64]; omega)) (lt_of rfl) ⟨rfl, trivial⟩)),
    hY 5 (dT hq1),
    hY 6 (dT hq1),
    hY 7 (dT hq1),
    hY 8 (dT hq1),
    hY 9 (dT hq1),
    hP 10 (dT hq1)] ?_
  refine T.ret ?_
  exact eRt 4 (.one (dB (decide ((s - 1000) < u)))) [0, 1] (by have e1 : ((decide (isClient u s)) : Bool) = (decide ((s - 1000) < u)) := (by (simp [isClient, isReplica, isKnown, primaryA, orgA, *]; done)); have hE := cB e1; exact hE) (ix (ix trivial))
 refine sR [hN 3 true (dF hq1),
   hN 4 true (dF hq1),
   hN 5 true (dF hq1),
   hN 6 true (dF hq1),
   hN 7 true (dF hq1),
   hN 8 true (dF hq1),
   hN 9 true (dF hq1),
   hP 10 (dF hq1)] ?_
 refine T.ret ?_
 exact eRt 4 (.one (dB false)) [0, 1] (by have e1 : ((decide (isClient u s)) : Bool) = false := (by (simp [isClient, isReplica, isKnown, primaryA, orgA, *]; done)); have hE := cB e1; exact hE) (ix (ix trivial))
theorem ref03_Replica (f : Int) (u : Int) (l : List aE) (s : Int) (hf : 0 ≤ f ∧ f ≤ 2) (hu : 0 ≤ u ∧ u ≤ 8) : Holds Tryz.prog 78 ⟨[pv 0 0, vI s], [.box 75 [dB true, dI f, dI u, .own 1 (kE false).sz 0 l.length], arrK 35 (kE false) l], vB (decide (isReplica f s)), [.live (.box 75 [dB true, dI f, dI u, .own 1 (kE false).sz 0 l.length]), .live (arrK 35 (kE false) l)]⟩ := by
 refine Holds.of Tryz.func78 rfl (N := 13) Tryz.ntmps78 rfl fun w0 B0 S0 U0 => ?_
 show T _ (mkBase 13 2 w0 S0 U0 B0) ⟨[pv 0 0, vI s], [.live (.box 75 [dB true, dI f, dI u, .own 1 (kE false).sz 0 l.length]), .live (arrK 35 (kE false) l)]⟩ _ _
 refine sR [] ?_
 by_cases hq1 : s ≥ 0
 ·refine sR [hY 3 (dT hq1),
    hY 4 (dT hq1),
    hS 5 (oY rfl rfl rfl rfl (lt_of rfl) (dT hq1) (rCa (ref03_N f u l ‹_› ‹_›) Tryz.func35 [0, 1] [(.tmp 9, pv 0 0)] 2 2)),
    hY 6 (dT hq1),
    hP 7 (dT hq1)] ?_
  refine T.ret ?_
  exact eRt 4 (.one (dB (decide (s < (3 * f + 1))))) [0, 1] (by have e1 : ((decide (isReplica f s)) : Bool) = (decide (s < (3 * f + 1))) := (by (simp [isClient, isReplica, isKnown, primaryA, orgA, *]; done)); have hE := cB e1; exact hE) (ix (ix trivial))
 refine sR [hN 3 true (dF hq1),
   hN 4 true (dF hq1),
   hN 5 true (dF hq1),
   hN 6 true (dF hq1),
   hP 7 (dF hq1)] ?_
 refine T.ret ?_
 exact eRt 4 (.one (dB false)) [0, 1] (by have e1 : ((decide (isReplica f s)) : Bool) = false := (by (simp [isClient, isReplica, isKnown, primaryA, orgA, *]; done)); have hE := cB e1; exact hE) (ix (ix trivial))
theorem ref03_Known (f : Int) (u : Int) (l : List aE) (s : Int) (hf : 0 ≤ f ∧ f ≤ 2) (hu : 0 ≤ u ∧ u ≤ 8) (hs : -9223372036854775808 ≤ s ∧ s ≤ 9223372036854775807) : Holds Tryz.prog 70 ⟨[pv 0 0, vI s], [.box 75 [dB true, dI f, dI u, .own 1 (kE false).sz 0 l.length], arrK 35 (kE false) l], vB (decide (isKnown f u s)), [.live (.box 75 [dB true, dI f, dI u, .own 1 (kE false).sz 0 l.length]), .live (arrK 35 (kE false) l)]⟩ := by
 refine Holds.of Tryz.func70 rfl (N := 13) Tryz.ntmps70 rfl fun w0 B0 S0 U0 => ?_
 show T _ (mkBase 13 2 w0 S0 U0 B0) ⟨[pv 0 0, vI s], [.live (.box 75 [dB true, dI f, dI u, .own 1 (kE false).sz 0 l.length]), .live (arrK 35 (kE false) l)]⟩ _ _
 refine sR [] ?_
 by_cases hq1 : isReplica f s
 ·refine sR [hR 2 rfl rfl (rCa (ref03_Replica f u l s ‹_› ‹_›) Tryz.func78 [0, 1] [(.tmp 5, pv 0 0), (.tmp 6, vI s)] 2 2),
    hN 4 false (dT hq1),
    hN 5 false (dT hq1),
    hN 6 false (dT hq1),
    hP 7 (dT hq1)] ?_
  refine T.ret ?_
  exact eRt 4 (.one (dB true)) [0, 1] (by have e1 : ((decide (isKnown f u s)) : Bool) = true := (by (simp [isKnown, orgA, *]; done)); have hE := cB e1; exact hE) (ix (ix trivial))
 refine sR [hR 2 rfl rfl (rCa (ref03_Replica f u l s ‹_› ‹_›) Tryz.func78 [0, 1] [(.tmp 5, pv 0 0), (.tmp 6, vI s)] 2 2),
   hY 4 (dF hq1),
   hY 5 (dF hq1),
   hS 6 (oY rfl rfl rfl rfl (lt_of rfl) (dF hq1) (rCa (ref03_Client f u l s ‹_› ‹_› ‹_›) Tryz.func100 [0, 1] [(.tmp 9, pv 0 0), (.tmp 10, vI s)] 2 2)),
   hP 7 (dF hq1)] ?_
 refine T.ret ?_
 exact eRt 4 (.one (dB (decide (isClient u s)))) [0, 1] (by have e1 : ((decide (isKnown f u s)) : Bool) = (decide (isClient u s)) := (by (simp [isKnown, orgA, *]; done)); have hE := cB e1; exact hE) (ix (ix trivial))
section
variable (f : Int) (u : Int) (l : List aE) (te : Bool) (e : aE) (k : Nat)
abbrev Zc : AV := .tv (.agg [dI e.f_Signer, .d (dsl te false kU8 e.f_Body)])
abbrev Zd : HS := .live (.box 75 [dB true, dI f, dI u, .own 1 (kE false).sz 0 l.length])
abbrev Ze : List HS := [(Zd f u l), .live (arrK 35 (kE false) l), .live (.box 35 [dI e.f_Signer, .d (dsl te false kU8 e.f_Body)])]
end
theorem ref03_Has (f : Int) (u : Int) (l : List aE) (te : Bool) (e : aE) (hl : l.length ≤ 9223372036854775806) : Holds Tryz.prog 71 ⟨[pv 0 0, .tv (.agg [dI e.f_Signer, .d (dsl te false kU8 e.f_Body)])], [.box 75 [dB true, dI f, dI u, .own 1 (kE false).sz 0 l.length], arrK 35 (kE false) l], vB (decide (e ∈ l)), [.live (.box 75 [dB true, dI f, dI u, .own 1 (kE false).sz 0 l.length]), .live (arrK 35 (kE false) l)]⟩ := by
 refine Holds.of Tryz.func71 rfl (N := 39) Tryz.ntmps71 rfl fun w0 B0 S0 U0 => ?_
 show T _ (mkBase 39 2 w0 S0 U0 B0) ⟨[pv 0 0, (Zc te e)], [(Zd f u l), .live (arrK 35 (kE false) l)]⟩ _ _
 refine sR [] ?_
 refine T.seq ?_
 refine sR [] ?_
 refine T.block ?_
 refine T.loop (ι := Nat) (fun (k : Nat) => ⟨[pv 0 0, (Zc te e), aa, pv 2 0, vB false, vI ((k : Nat) : Int)], (Ze f u l te e)⟩) (fun (k : Nat) => (k ≤ l.length) ∧ (∀ j, j < k → ¬ l.getD j zE = e)) (fun (k : Nat) => l.length - k) (0) ⟨(Nat.zero_le _), (fun j hj => absurd hj (Nat.not_lt_zero _))⟩ (fun _ _ hG => Gs.iI [0, 1, 2] (bm 6 59) rfl rfl hG) ?_
 rintro k ⟨hk, hb⟩
 show T _ _ ⟨[pv 0 0, (Zc te e), aa, pv 2 0, vB false, vI ((k : Nat) : Int)], (Ze f u l te e)⟩ _ _
 replace hk : k ≤ l.length := hk
 replace hb : ∀ j, j < k → ¬ l.getD j zE = e := hb
 refine T.seq ?_
 refine sR [] ?_
 by_cases hq1 : ((k : Nat) : Int) < ((l.length : Nat) : Int)
 ·refine cT (dT hq1) ?_
  refine T.skip (nT (T.seq ?_))
  refine T.block ?_
  by_cases hq2 : (l.getD k zE).f_Signer = e.f_Signer
  ·refine sD [[], [0], [0, 1], [0, 1, 2], [], [0, 1, 2, 3, 4], [0, 1, 2, 3, 4, 5], [0, 1, 2, 3, 4, 5, 6], [], [8], [0, 1, 2, 3, 4, 5, 6, 7, 8, 9], [0, 1, 2, 3, 4, 5, 6, 7, 8, 9, 10], [0, 1, 2, 3, 4, 5, 6, 7, 8, 9, 10, 11], [0, 1, 2, 3, 4, 5, 6, 7, 8, 9, 10, 11, 12], [0, 1, 2, 3, 4, 5, 6, 7, 8, 9, 10, 11, 12, 13], [0, 1, 2, 3, 4, 5, 6, 7, 8, 9, 10, 11, 12, 13, 14], [0, 1, 2, 3, 4, 5, 6, 7, 8, 9, 10, 11], [0, 1, 2, 3, 4, 5, 6, 7, 8, 9, 10, 11, 12, 13, 14, 15, 16], [0, 1, 2, 3, 4, 5, 6, 7, 8, 9, 10, 11, 12, 13, 14, 15, 16, 17], [0, 1, 2, 3, 4, 5, 6, 7, 8, 9, 10, 11, 12, 13, 14, 15, 16, 17, 18], [0, 1, 2, 3, 4, 5, 6, 7, 8, 9, 10, 11], [0, 1, 2, 3, 4, 5, 6, 7, 8, 9, 10, 11, 20], [0, 1, 2, 3, 4, 5, 6, 7, 8, 9, 10, 11, 12, 13, 14, 15, 16, 17, 18, 19, 20, 21], [0, 1, 2, 3, 4, 5, 6, 7, 8, 9, 10, 11, 12, 13, 14, 15, 16, 17, 18, 19, 20, 21, 22]] [hR 5 rfl rfl (r_indexO (k := .i64) (l := 1) (sz := (kE false).sz) (off := 0) (n := l.length) (i := ((k : Nat) : Int)) (m := k) (o' := k * (kE false).sz + 0) Tryz.underlying36 iat_35 rfl rfl (by omega) (by simp) (lt_of rfl) trivial),
     hR 7 rfl rfl (r_loadA (l := 1) (off := k * (kE false).sz + 0) (i := k) (j := 0) (T := 35) (sz := (kE false).sz) (n := l.length) (el := elOf (kE false) l) (c := .val (.int .i64 (l.getD k zE).f_Signer)) wide_3 rfl (by omega) (by decide) rfl (lt_of rfl) trivial),
     hY 12 (dT hq2),
     hY 13 (dT hq2),
     hY 14 (dT hq2),
     hY 15 (dT hq2),
     hY 16 (dT hq2),
     hS 17 (oY rfl rfl rfl rfl (lt_of rfl) (dT hq2) (r_indexO (k := .i64) (l := 1) (sz := (kE false).sz) (off := 0) (n := l.length) (i := ((k : Nat) : Int)) (m := k) (o' := k * (kE false).sz + 0) Tryz.underlying36 iat_35 rfl rfl (by omega) (by simp) (lt_of rfl) (by exact trivial))),
     hY 18 (dT hq2),
     hS 19 (oY rfl rfl rfl rfl (lt_of rfl) (dT hq2) (r_loadA (l := 1) (off := k * (kE false).sz + 1) (i := k) (j := 1) (T := 35) (sz := (kE false).sz) (n := l.length) (el := elOf (kE false) l) (c := dsl false false kU8 (l.getD k zE).f_Body) wide_33 rfl (by omega) (by decide) rfl (lt_of rfl) (by exact trivial))),
     hY 20 (dT hq2),
     hY 21 (dT hq2),
     hS 22 (oY rfl rfl rfl rfl (lt_of rfl) (dT hq2) (rCa (ref01_Same false false te false (l.getD k zE).f_Body e.f_Body ) Tryz.func30 [] [(.tmp 34, slV false false kU8 (l.getD k zE).f_Body), (.tmp 36, slV te false kU8 e.f_Body)] 0 0)),
     hP 23 (dT hq2)] ?_
   by_cases hq3 : (l.getD k zE).f_Body = e.f_Body
   ·refine cT (dT hq3) ?_
    refine sR [] ?_
    refine T.ret (rB (rT (rT (rB (rT ?_)))))
    exact eRt 4 (.one (dB true)) [0, 1] (by have e1 : ((decide (e ∈ l)) : Bool) = true := (by exact dT (mem_get (z := zE) (k := k) (by omega) (by rw [api_Envelope_iff]; exact ⟨by assumption, by assumption⟩))); have hE := cB e1; exact hE) (ix (ix trivial))
   refine cF (dF hq3) ?_
   refine T.skip ?_
   refine nB ?_
   refine nT ?_
   refine xK [hR 1 rfl rfl (r_bin (u1 := .int .i64 ((k : Nat) : Int)) (u2 := .int .i64 1) (v := .int .i64 ((k + 1 : Nat) : Int)) (b_add (by rw [IntKind.wrap_i64]; omega)) (lt_of rfl) ⟨rfl, trivial⟩)] ?_
   refine nL (k + 1) ⟨(show (k + 1) ≤ l.length from (by omega)), (show ∀ j, j < (k + 1) → ¬ l.getD j zE = e from (all_succ hb (by rw [api_Envelope_iff]; intro h1; exact absurd h1.2 ‹_›)))⟩ (show (l.length - (k + 1) : Nat) < l.length - k from (by omega)) (fun _ _ hG => Gs.iI [0, 1, 2] (bm 6 59) rfl rfl hG)
  refine sD [[], [0], [0, 1], [0, 1, 2], [], [0, 1, 2, 3, 4], [0, 1, 2, 3, 4, 5], [0, 1, 2, 3, 4, 5, 6], [], [8], [0, 1, 2, 3, 4, 5, 6, 7, 8, 9], [0, 1, 2, 3, 4, 5, 6, 7, 8, 9, 10], [0, 1, 2, 3, 4, 5, 6, 7, 8, 9, 10, 11], [0, 1, 2, 3, 4, 5, 6, 7, 8, 9, 10, 11, 12], [0, 1, 2, 3, 4, 5, 6, 7, 8, 9, 10, 11, 12, 13], [0, 1, 2, 3, 4, 5, 6, 7, 8, 9, 10, 11, 12, 13, 14], [0, 1, 2, 3, 4, 5, 6, 7, 8, 9, 10, 11], [0, 1, 2, 3, 4, 5, 6, 7, 8, 9, 10, 11, 12, 13, 14, 15, 16], [0, 1, 2, 3, 4, 5, 6, 7, 8, 9, 10, 11, 12, 13, 14, 15, 16, 17], [0, 1, 2, 3, 4, 5, 6, 7, 8, 9, 10, 11, 12, 13, 14, 15, 16, 17, 18], [0, 1, 2, 3, 4, 5, 6, 7, 8, 9, 10, 11], [0, 1, 2, 3, 4, 5, 6, 7, 8, 9, 10, 11, 20], [0, 1, 2, 3, 4, 5, 6, 7, 8, 9, 10, 11, 12, 13, 14, 15, 16, 17, 18, 19, 20, 21], [0, 1, 2, 3, 4, 5, 6, 7, 8, 9, 10, 11, 12, 13, 14, 15, 16, 17, 18, 19, 20, 21, 22]] [hR 5 rfl rfl (r_indexO (k := .i64) (l := 1) (sz := (kE false).sz) (off := 0) (n := l.length) (i := ((k : Nat) : Int)) (m := k) (o' := k * (kE false).sz + 0) Tryz.underlying36 iat_35 rfl rfl (by omega) (by simp) (lt_of rfl) trivial),
    hR 7 rfl rfl (r_loadA (l := 1) (off := k * (kE false).sz + 0) (i := k) (j := 0) (T := 35) (sz := (kE false).sz) (n := l.length) (el := elOf (kE false) l) (c := .val (.int .i64 (l.getD k zE).f_Signer)) wide_3 rfl (by omega) (by decide) rfl (lt_of rfl) trivial),
    hN 12 true (dF hq2),
    hN 13 true (dF hq2),
    hN 14 true (dF hq2),
    hN 15 true (dF hq2),
    hN 16 true (dF hq2),
    hN 17 true (dF hq2),
    hN 18 true (dF hq2),
    hN 19 true (dF hq2),
    hN 20 true (dF hq2),
    hN 21 true (dF hq2),
    hN 22 true (dF hq2),
    hP 23 (dF hq2)] ?_
  refine cF (b := false) rfl ?_
  refine T.skip ?_
  refine nB ?_
  refine nT ?_
  refine xK [hR 1 rfl rfl (r_bin (u1 := .int .i64 ((k : Nat) : Int)) (u2 := .int .i64 1) (v := .int .i64 ((k + 1 : Nat) : Int)) (b_add (by rw [IntKind.wrap_i64]; omega)) (lt_of rfl) ⟨rfl, trivial⟩)] ?_
  refine nL (k + 1) ⟨(show (k + 1) ≤ l.length from (by omega)), (show ∀ j, j < (k + 1) → ¬ l.getD j zE = e from (all_succ hb (by rw [api_Envelope_iff]; intro h1; exact absurd h1.1 ‹_›)))⟩ (show (l.length - (k + 1) : Nat) < l.length - k from (by omega)) (fun _ _ hG => Gs.iI [0, 1, 2] (bm 6 59) rfl rfl hG)
 refine cF (dF hq1) ?_
 refine T.exit ?_
 refine xT ?_
 refine xT ?_
 refine xH ?_
 refine nT ?_
 refine sR [] ?_
 refine T.ret ?_
 exact eRt 4 (.one (dB false)) [0, 1] (cB (by exact dF (not_mem_get (z := zE) (k := k) (by omega) hb))) (ix (ix trivial))
end Go.Proofs.YtalapplihdmenaaGreat.Q
