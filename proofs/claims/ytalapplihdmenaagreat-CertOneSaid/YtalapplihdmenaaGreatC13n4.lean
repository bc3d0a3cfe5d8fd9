import Derived.Test.YtalapplihdmenaaGreatC13n3
namespace Go.Proofs.YtalapplihdmenaaGreat.Q
open Go Go.RowKit
set_option linter.unusedVariables false
set_option linter.unusedSimpArgs false
set_option maxRecDepth 100000
set_option maxHeartbeats 4000000
theorem ref03_N (f : Int) (u : Int) (l : List aE) (hf : 0 ≤ f ∧ f ≤ 2) (hu : 0 ≤ u ∧ u ≤ 8) : Holds Tryz.prog 35 ⟨[pv 0 0], [.box 75 [dB true, dI f, dI u, .own 1 (kE false).sz 0 l.length], arrK 35 (kE false) l], vI (3 * f + 1), [.live (.box 75 [dB true, dI f, dI u, .own 1 (kE false).sz 0 l.length]), .live (arrK 35 (kE false) l)]⟩ := by
 refine Holds.of Tryz.func35 rfl (N := 14) Tryz.ntmps35 rfl fun w0 B0 S0 U0 => ?_
 show T _ (mkBase 14 2 w0 S0 U0 B0) ⟨[pv 0 0], [.live (.box 75 [dB true, dI f, dI u, .own 1 (kE false).sz 0 l.length]), .live (arrK 35 (kE false) l)]⟩ _ _
 refine sR [] ?_
 refine T.seq ?_
 refine sR [] ?_
 refine cF (b := (!true)) rfl ?_
 refine T.skip (nT ?_)
 refine sR [hR 4 rfl rfl (r_bin (u1 := .int .i64 3) (u2 := .int .i64 f) (v := .int .i64 (3 * f)) (b_mul (by rw [IntKind.wrap_i64]; omega)) (lt_of rfl) ⟨rfl, trivial⟩),
   hR 5 rfl rfl (r_bin (u1 := .int .i64 (3 * f)) (u2 := .int .i64 1) (v := .int .i64 ((3 * f) + 1)) (b_add (by rw [IntKind.wrap_i64]; omega)) (lt_of rfl) ⟨rfl, trivial⟩)] ?_
 refine T.ret ?_
 exact eRt 2 (.one (dI ((3 * f) + 1))) [0, 1] (cI (by rfl)) (ix (ix trivial))
theorem ref03_Primary (f : Int) (u : Int) (l : List aE) (s : Int) (hf : 0 ≤ f ∧ f ≤ 2) (hu : 0 ≤ u ∧ u ≤ 8) : Holds Tryz.prog 17 ⟨[pv 0 0, vI s], [.box 75 [dB true, dI f, dI u, .own 1 (kE false).sz 0 l.length], arrK 35 (kE false) l], vI (primaryA f s), [.live (.box 75 [dB true, dI f, dI u, .own 1 (kE false).sz 0 l.length]), .live (arrK 35 (kE false) l)]⟩ := by
 refine Holds.of Tryz.func17 rfl (N := 18) Tryz.ntmps17 rfl fun w0 B0 S0 U0 => ?_
 show T _ (mkBase 18 2 w0 S0 U0 B0) ⟨[pv 0 0, vI s], [.live (.box 75 [dB true, dI f, dI u, .own 1 (kE false).sz 0 l.length]), .live (arrK 35 (kE false) l)]⟩ _ _
 refine sR [] ?_
 refine T.seq ?_
 refine sR [hY0 6,
   hY0 7,
   hP0 8] ?_
 by_cases hq1 : s < 0
 ·refine cT (dT hq1) ?_
  refine sR [] ?_
  refine T.ret (rT ?_)
  exact eRt 4 (.one (dI 0)) [0, 1] (by have e1 : ((primaryA f s) : Int) = 0 := (by (simp [isClient, isReplica, isKnown, primaryA, orgA, *]; done)); have hE := cI e1; exact hE) (ix (ix trivial))
 refine cF (dF hq1) ?_
 refine T.skip (nT ?_)
 refine sR [hR 2 rfl rfl (rCa (ref03_N f u l ‹_› ‹_›) Tryz.func35 [0, 1] [(.tmp 15, pv 0 0)] 2 2),
   hR 3 rfl rfl (r_bin (u1 := .int .i64 s) (u2 := .int .i64 (3 * f + 1)) (v := .int .i64 (s % (3 * f + 1))) (b_remP (by omega) (by omega)) (lt_of rfl) trivial)] ?_
 refine T.ret ?_
 exact eRt 4 (.one (dI (s % (3 * f + 1)))) [0, 1] (by have e1 : ((primaryA f s) : Int) = s % (3 * f + 1) := (by (simp [isClient, isReplica, isKnown, primaryA, orgA, *]; done)); have hE := cI e1; exact hE) (ix (ix trivial))
theorem ref03_Client (f : Int) (u : Int) (l : List aE) (s : Int) (hf : 0 ≤ f ∧ f ≤ 2) (hu : 0 ≤ u ∧ u ≤ 8) (hs : -9223372036854775808 ≤ s ∧ s ≤ 9223372036854775807) : Holds Tryz.prog 100 ⟨[pv 0 0, vI s], [.box 75 [dB true, dI f, dI u, .own 1 (kE false).sz 0 l.length], arrK 35 (kE false) l], vB (decide (isClient u s)), [.live (.box 75 [dB true, dI f, dI u, .own 1 (kE false).sz 0 l.length]), .live (arrK 35 (kE false) l)]⟩ := by
 refine Holds.of Tryz.func100 rfl (N := 16) Tryz.ntmps100 rfl fun w0 B0 S0 U0 => ?_
 show T _ (mkBase 16 2 w0 S0 U0 B0) ⟨[pv 0 0, vI s], [.live (.box 75 [dB true, dI f, dI u, .own 1 (kE false).sz 0 l.length]), .live (arrK 35 (kE false) l)]⟩ _ _
 refine sR [] ?_
 by_cases hq1 : s ≥ 1000
 ·refine sR [hY 3 (dT hq1),
    hS 4 (oY rfl rfl rfl rfl (lt_of rfl) (dT hq1) (r_bin (u1 := .int .i64 s) (u2 := .int .i64 1000) (v := .int .i64 (s - 1000)) (b_sub (by rw [IntKind.wrap_i64]; omega)) (lt_of rfl) ⟨rfl, trivial⟩)),
    hY 5 (dT hq1),
    hY 6 (dT hq1),
    hY 7 (dT hq1),
    hY 8 (dT hq1),
    hY 9 (dT hq1),
    hP 10 (dT hq1)] ?_
  refine T.ret ?_
  exact eRt 4 (.one (dB (decide ((s - 1000) < u)))) [0, 1] (by have e1 : ((decide (isClient u s)) : Bool) = (decide ((s - 1000) < u)) := (by (simp [isClient, isReplica, isKnown, primaryA, orgA, *]; done)); have hE := cB e1; exact hE) (ix (ix trivial))
 refine sR [hN 3 true (dF hq1),
   hN 4 true (dF hq1),
   hN 5 true (dF hq1),
   hN 6 true (dF hq1),
   hN 7 true (dF hq1),
   hN 8 true (dF hq1),
   hN 9 true (dF hq1),
   hP 10 (dF hq1)] ?_
 refine T.ret ?_
 exact eRt 4 (.one (dB false)) [0, 1] (by have e1 : ((decide (isClient u s)) : Bool) = false := (by (simp [isClient, isReplica, isKnown, primaryA, orgA, *]; done)); have hE := cB e1; exact hE) (ix (ix trivial))
theorem ref03_Replica (f : Int) (u : Int) (l : List aE) (s : Int) (hf : 0 ≤ f ∧ f ≤ 2) (hu : 0 ≤ u ∧ u ≤ 8) : Holds Tryz.prog 78 ⟨[pv 0 0, vI s], [.box 75 [dB true, dI f, dI u, .own 1 (kE false).sz 0 l.length], arrK 35 (kE false) l], vB (decide (isReplica f s)), [.live (.box 75 [dB true, dI f, dI u, .own 1 (kE false).sz 0 l.length]), .live (arrK 35 (kE false) l)]⟩ := by
 refine Holds.of Tryz.func78 rfl (N := 13) Tryz.ntmps78 rfl fun w0 B0 S0 U0 => ?_
 show T _ (mkBase 13 2 w0 S0 U0 B0) ⟨[pv 0 0, vI s], [.live (.box 75 [dB true, dI f, dI u, .own 1 (kE false).sz 0 l.length]), .live (arrK 35 (kE false) l)]⟩ _ _
 refine sR [] ?_
 by_cases hq1 : s ≥ 0
 ·refine sR [hY 3 (dT hq1),
    hY 4 (dT hq1),
    hS 5 (oY rfl rfl rfl rfl (lt_of rfl) (dT hq1) (rCa (ref03_N f u l ‹_› ‹_›) Tryz.func35 [0, 1] [(.tmp 9, pv 0 0)] 2 2)),
    hY 6 (dT hq1),
    hP 7 (dT hq1)] ?_
  refine T.ret ?_
  exact eRt 4 (.one (dB (decide (s < (3 * f + 1))))) [0, 1] (by have e1 : ((decide (isReplica f s)) : Bool) = (decide (s < (3 * f + 1))) := (by (simp [isClient, isReplica, isKnown, primaryA, orgA, *]; done)); have hE := cB e1; exact hE) (ix (ix trivial))
 refine sR [hN 3 true (dF hq1),
   hN 4 true (dF hq1),
   hN 5 true (dF hq1),
   hN 6 true (dF hq1),
   hP 7 (dF hq1)] ?_
 refine T.ret ?_
 exact eRt 4 (.one (dB false)) [0, 1] (by have e1 : ((decide (isReplica f s)) : Bool) = false := (by (simp [isClient, isReplica, isKnown, primaryA, orgA, *]; done)); have hE := cB e1; exact hE) (ix (ix trivial))
theorem ref03_Known (f : Int) (u : Int) (l : List aE) (s : Int) (hf : 0 ≤ f ∧ f ≤ 2) (hu : 0 ≤ u ∧ u ≤ 8) (hs : -9223372036854775808 ≤ s ∧ s ≤ 9223372036854775807) : Holds Tryz.prog 70 ⟨[pv 0 0, vI s], [.box 75 [dB true, dI f, dI u, .own 1 (kE false).sz 0 l.length], arrK 35 (kE false) l], vB (decide (isKnown f u s)), [.live (.box 75 [dB true, dI f, dI u, .own 1 (kE false).sz 0 l.length]), .live (arrK 35 (kE false) l)]⟩ := by
 refine Holds.of Tryz.func70 rfl (N := 13) Tryz.ntmps70 rfl fun w0 B0 S0 U0 => ?_
 show T _ (mkBase 13 2 w0 S0 U0 B0) ⟨[pv 0 0, vI s], [.live (.box 75 [dB true, dI f, dI u, .own 1 (kE false).sz 0 l.length]), .live (arrK 35 (kE false) l)]⟩ _ _
 refine sR [] ?_
 by_cases hq1 : isReplica f s
 ·refine sR [hR 2 rfl rfl (rCa (ref03_Replica f u l s ‹_› ‹_›) Tryz.func78 [0, 1] [(.tmp 5, pv 0 0), (.tmp 6, vI s)] 2 2),
    hN 4 false (dT hq1),
    hN 5 false (dT hq1),
    hN 6 false (dT hq1),
    hP 7 (dT hq1)] ?_
  refine T.ret ?_
  exact eRt 4 (.one (dB true)) [0, 1] (by have e1 : ((decide (isKnown f u s)) : Bool) = true := (by (simp [isKnown, orgA, *]; done)); have hE := cB e1; exact hE) (ix (ix trivial))
 refine sR [hR 2 rfl rfl (rCa (ref03_Replica f u l s ‹_› ‹_›) Tryz.func78 [0, 1] [(.tmp 5, pv 0 0), (.tmp 6, vI s)] 2 2),
   hY 4 (dF hq1),
   hY 5 (dF hq1),
   hS 6 (oY rfl rfl rfl rfl (lt_of rfl) (dF hq1) (rCa (ref03_Client f u l s ‹_› ‹_› ‹_›) Tryz.func100 [0, 1] [(.tmp 9, pv 0 0), (.tmp 10, vI s)] 2 2)),
   hP 7 (dF hq1)] ?_
 refine T.ret ?_
 exact eRt 4 (.one (dB (decide (isClient u s)))) [0, 1] (by have e1 : ((decide (isKnown f u s)) : Bool) = (decide (isClient u s)) := (by (simp [isKnown, orgA, *]; done)); have hE := cB e1; exact hE) (ix (ix trivial))
section
variable (f : Int) (u : Int) (l : List aE) (te : Bool) (e : aE) (k : Nat)
abbrev Z12 : AV := .tv (.agg [dI e.f_Signer, .d (dsl te false kU8 e.f_Body)])
abbrev Z13 : HS := .live (.box 75 [dB true, dI f, dI u, .own 1 (kE false).sz 0 l.length])
abbrev Z14 : List HS := [(Z13 f u l), .live (arrK 35 (kE false) l), .live (.box 35 [dI e.f_Signer, .d (dsl te false kU8 e.f_Body)])]
end
theorem ref03_Has (f : Int) (u : Int) (l : List aE) (te : Bool) (e : aE) (hl : l.length ≤ 9223372036854775806) : Holds Tryz.prog 71 ⟨[pv 0 0, .tv (.agg [dI e.f_Signer, .d (dsl te false kU8 e.f_Body)])], [.box 75 [dB true, dI f, dI u, .own 1 (kE false).sz 0 l.length], arrK 35 (kE false) l], vB (decide (e ∈ l)), [.live (.box 75 [dB true, dI f, dI u, .own 1 (kE false).sz 0 l.length]), .live (arrK 35 (kE false) l)]⟩ := by
 refine Holds.of Tryz.func71 rfl (N := 39) Tryz.ntmps71 rfl fun w0 B0 S0 U0 => ?_
 show T _ (mkBase 39 2 w0 S0 U0 B0) ⟨[pv 0 0, (Z12 te e)], [(Z13 f u l), .live (arrK 35 (kE false) l)]⟩ _ _
 refine sR [] ?_
 refine T.seq ?_
 refine sR [] ?_
 refine T.block ?_
 refine T.loop (ι := Nat) (fun (k : Nat) => ⟨[pv 0 0, (Z12 te e), aa, pv 2 0, vB false, vI ((k : Nat) : Int)], (Z14 f u l te e)⟩) (fun (k : Nat) => (k ≤ l.length) ∧ (∀ j, j < k → ¬ l.getD j zE = e)) (fun (k : Nat) => l.length - k) (0) ⟨(Nat.zero_le _), (fun j hj => absurd hj (Nat.not_lt_zero _))⟩ (fun _ _ hG => Gs.iI [0, 1, 2] (bm 6 59) rfl rfl hG) ?_
 rintro k ⟨hk, hb⟩
 show T _ _ ⟨[pv 0 0, (Z12 te e), aa, pv 2 0, vB false, vI ((k : Nat) : Int)], (Z14 f u l te e)⟩ _ _
 replace hk : k ≤ l.length := hk
 replace hb : ∀ j, j < k → ¬ l.getD j zE = e := hb
 refine T.seq ?_
 refine sR [] ?_
 by_cases hq1 : ((k : Nat) : Int) < ((l.length : Nat) : Int)
 ·refine cT (dT hq1) ?_
  refine T.skip (nT (T.seq ?_))
  refine T.block ?_
  by_cases hq2 : (l.getD k zE).f_Signer = e.f_Signer
  ·refine sD [[], [0], [0, 1], [0, 1, 2], [], [0, 1, 2, 3, 4], [0, 1, 2, 3, 4, 5], [0, 1, 2, 3, 4, 5, 6], [], [8], [0, 1, 2, 3, 4, 5, 6, 7, 8, 9], [0, 1, 2, 3, 4, 5, 6, 7, 8, 9, 10], [0, 1, 2, 3, 4, 5, 6, 7, 8, 9, 10, 11], [0, 1, 2, 3, 4, 5, 6, 7, 8, 9, 10, 11, 12], [0, 1, 2, 3, 4, 5, 6, 7, 8, 9, 10, 11, 12, 13], [0, 1, 2, 3, 4, 5, 6, 7, 8, 9, 10, 11, 12, 13, 14], [0, 1, 2, 3, 4, 5, 6, 7, 8, 9, 10, 11], [0, 1, 2, 3, 4, 5, 6, 7, 8, 9, 10, 11, 12, 13, 14, 15, 16], [0, 1, 2, 3, 4, 5, 6, 7, 8, 9, 10, 11, 12, 13, 14, 15, 16, 17], [0, 1, 2, 3, 4, 5, 6, 7, 8, 9, 10, 11, 12, 13, 14, 15, 16, 17, 18], [0, 1, 2, 3, 4, 5, 6, 7, 8, 9, 10, 11], [0, 1, 2, 3, 4, 5, 6, 7, 8, 9, 10, 11, 20], [0, 1, 2, 3, 4, 5, 6, 7, 8, 9, 10, 11, 12, 13, 14, 15, 16, 17, 18, 19, 20, 21], [0, 1, 2, 3, 4, 5, 6, 7, 8, 9, 10, 11, 12, 13, 14, 15, 16, 17, 18, 19, 20, 21, 22]] [hR 5 rfl rfl (r_indexO (k := .i64) (l := 1) (sz := (kE false).sz) (off := 0) (n := l.length) (i := ((k : Nat) : Int)) (m := k) (o' := k * (kE false).sz + 0) Tryz.underlying36 iat_35 rfl rfl (by omega) (by simp) (lt_of rfl) trivial),
     hR 7 rfl rfl (r_loadA (l := 1) (off := k * (kE false).sz + 0) (i := k) (j := 0) (T := 35) (sz := (kE false).sz) (n := l.length) (el := elOf (kE false) l) (c := .val (.int .i64 (l.getD k zE).f_Signer)) wide_3 rfl (by omega) (by decide) rfl (lt_of rfl) trivial),
     hY 12 (dT hq2),
     hY 13 (dT hq2),
     hY 14 (dT hq2),
     hY 15 (dT hq2),
     hY 16 (dT hq2),
     hS 17 (oY rfl rfl rfl rfl (lt_of rfl) (dT hq2) (r_indexO (k := .i64) (l := 1) (sz := (kE false).sz) (off := 0) (n := l.length) (i := ((k : Nat) : Int)) (m := k) (o' := k * (kE false).sz + 0) Tryz.underlying36 iat_35 rfl rfl (by omega) (by simp) (lt_of rfl) (by exact trivial))),
     hY 18 (dT hq2),
     hS 19 (oY rfl rfl rfl rfl (lt_of rfl) (dT hq2) (r_loadA (l := 1) (off := k * (kE false).sz + 1) (i := k) (j := 1) (T := 35) (sz := (kE false).sz) (n := l.length) (el := elOf (kE false) l) (c := dsl false false kU8 (l.getD k zE).f_Body) wide_33 rfl (by omega) (by decide) rfl (lt_of rfl) (by exact trivial))),
     hY 20 (dT hq2),
     hY 21 (dT hq2),
     hS 22 (oY rfl rfl rfl rfl (lt_of rfl) (dT hq2) (rCa (ref01_Same false false te false (l.getD k zE).f_Body e.f_Body ) Tryz.func30 [] [(.tmp 34, slV false false kU8 (l.getD k zE).f_Body), (.tmp 36, slV te false kU8 e.f_Body)] 0 0)),
     hP 23 (dT hq2)] ?_
   by_cases hq3 : (l.getD k zE).f_Body = e.f_Body
   ·refine cT (dT hq3) ?_
    refine sR [] ?_
    refine T.ret (rB (rT (rT (rB (rT ?_)))))
    exact eRt 4 (.one (dB true)) [0, 1] (by have e1 : ((decide (e ∈ l)) : Bool) = true := (by exact dT (mem_get (z := zE) (k := k) (by omega) (by rw [api_Envelope_iff]; exact ⟨by assumption, by assumption⟩))); have hE := cB e1; exact hE) (ix (ix trivial))
   refine cF (dF hq3) ?_
   refine T.skip ?_
   refine nB ?_
   refine nT ?_
   refine xK [hR 1 rfl rfl (r_bin (u1 := .int .i64 ((k : Nat) : Int)) (u2 := .int .i64 1) (v := .int .i64 ((k + 1 : Nat) : Int)) (b_add (by rw [IntKind.wrap_i64]; omega)) (lt_of rfl) ⟨rfl, trivial⟩)] ?_
   refine nL (k + 1) ⟨(show (k + 1) ≤ l.length from (by omega)), (show ∀ j, j < (k + 1) → ¬ l.getD j zE = e from (all_succ hb (by rw [api_Envelope_iff]; intro h1; exact absurd h1.2 ‹_›)))⟩ (show (l.length - (k + 1) : Nat) < l.length - k from (by omega)) (fun _ _ hG => Gs.iI [0, 1, 2] (bm 6 59) rfl rfl hG)
  refine sD [[], [0], [0, 1], [0, 1, 2], [], [0, 1, 2, 3, 4], [0, 1, 2, 3, 4, 5], [0, 1, 2, 3, 4, 5, 6], [], [8], [0, 1, 2, 3, 4, 5, 6, 7, 8, 9], [0, 1, 2, 3, 4, 5, 6, 7, 8, 9, 10], [0, 1, 2, 3, 4, 5, 6, 7, 8, 9, 10, 11], [0, 1, 2, 3, 4, 5, 6, 7, 8, 9, 10, 11, 12], [0, 1, 2, 3, 4, 5, 6, 7, 8, 9, 10, 11, 12, 13], [0, 1, 2, 3, 4, 5, 6, 7, 8, 9, 10, 11, 12, 13, 14], [0, 1, 2, 3, 4, 5, 6, 7, 8, 9, 10, 11], [0, 1, 2, 3, 4, 5, 6, 7, 8, 9, 10, 11, 12, 13, 14, 15, 16], [0, 1, 2, 3, 4, 5, 6, 7, 8, 9, 10, 11, 12, 13, 14, 15, 16, 17], [0, 1, 2, 3, 4, 5, 6, 7, 8, 9, 10, 11, 12, 13, 14, 15, 16, 17, 18], [0, 1, 2, 3, 4, 5, 6, 7, 8, 9, 10, 11], [0, 1, 2, 3, 4, 5, 6, 7, 8, 9, 10, 11, 20], [0, 1, 2, 3, 4, 5, 6, 7, 8, 9, 10, 11, 12, 13, 14, 15, 16, 17, 18, 19, 20, 21], [0, 1, 2, 3, 4, 5, 6, 7, 8, 9, 10, 11, 12, 13, 14, 15, 16, 17, 18, 19, 20, 21, 22]] [hR 5 rfl rfl (r_indexO (k := .i64) (l := 1) (sz := (kE false).sz) (off := 0) (n := l.length) (i := ((k : Nat) : Int)) (m := k) (o' := k * (kE false).sz + 0) Tryz.underlying36 iat_35 rfl rfl (by omega) (by simp) (lt_of rfl) trivial),
    hR 7 rfl rfl (r_loadA (l := 1) (off := k * (kE false).sz + 0) (i := k) (j := 0) (T := 35) (sz := (kE false).sz) (n := l.length) (el := elOf (kE false) l) (c := .val (.int .i64 (l.getD k zE).f_Signer)) wide_3 rfl (by omega) (by decide) rfl (lt_of rfl) trivial),
    hN 12 true (dF hq2),
    hN 13 true (dF hq2),
    hN 14 true (dF hq2),
    hN 15 true (dF hq2),
    hN 16 true (dF hq2),
    hN 17 true (dF hq2),
    hN 18 true (dF hq2),
    hN 19 true (dF hq2),
    hN 20 true (dF hq2),
    hN 21 true (dF hq2),
    hN 22 true (dF hq2),
    hP 23 (dF hq2)] ?_
  refine cF (b := false) rfl ?_
  refine T.skip ?_
  refine nB ?_
  refine nT ?_
  refine xK [hR 1 rfl rfl (r_bin (u1 := .int .i64 ((k : Nat) : Int)) (u2 := .int .i64 1) (v := .int .i64 ((k + 1 : Nat) : Int)) (b_add (by rw [IntKind.wrap_i64]; omega)) (lt_of rfl) ⟨rfl, trivial⟩)] ?_
  refine nL (k + 1) ⟨(show (k + 1) ≤ l.length from (by omega)), (show ∀ j, j < (k + 1) → ¬ l.getD j zE = e from (all_succ hb (by rw [api_Envelope_iff]; intro h1; exact absurd h1.1 ‹_›)))⟩ (show (l.length - (k + 1) : Nat) < l.length - k from (by omega)) (fun _ _ hG => Gs.iI [0, 1, 2] (bm 6 59) rfl rfl hG)
 refine cF (dF hq1) ?_
 refine T.exit ?_
 refine xT ?_
 refine xT ?_
 refine xH ?_
 refine nT ?_
 refine sR [] ?_
 refine T.ret ?_
 exact eRt 4 (.one (dB false)) [0, 1] (cB (by exact dF (not_mem_get (z := zE) (k := k) (by omega) hb))) (ix (ix trivial))
theorem elem_36 : Elem Tryz.prog 36 35 2 32 := ⟨Tryz.underlying36, _, _, iat_35, rfl, rfl, rfl, rfl, by decide⟩
section
variable (f : Int) (u : Int) (l : List aE) (s : Int) (tb : Bool) (nb : Bool) (b : List UInt8)
abbrev Z16 : HS := .live (.box 75 [dB true, dI f, dI u, .own 1 (kE false).sz 0 l.length])
abbrev Z17 : HObj := arrK 35 (kE false) l
abbrev Z18 : HS := .live ((Z17 l))
abbrev Z19 : AV := vB (!(decide (isKnown f u s)))
abbrev Z1a : AV := vB (decide (((b.length : Nat) : Int) > 16777216))
abbrev Z1b : List AV := [pv 0 0, vI s, slV tb nb kU8 b, aa, aa, aa, pv 2 0, vI 11, aa, aa, aa, aa, (Z19 f u s), aa, aa, aa, (Z1a b)]
abbrev Z1c : HS := .live (.box 35 [dI 0, .d (.val (.slice none 0 0))])
abbrev Z1d : HS := .live (.box 75 [dB true, dI f, dI u, .own 3 (kE false).sz 0 l.length])
abbrev Z1e : List HS := [(Z1d f u l), .dead, Z1c, (Z18 l)]
abbrev Z1f : SV := dU ([] : List UInt8)
abbrev Z1g : List SV := [dI 0, Z1f]
abbrev Z1h : List AV := [pv 0 0, vI s, slV tb nb kU8 b, aa, aa, aa, pv 2 0, vI 0, pv 5 0, aa, aa, aa, (Z19 f u s), aa, aa, aa, (Z1a b)]
abbrev Z1i : List SV := [dI s, dU b]
abbrev Z1j : HS := .live (.box 35 (Z1i s b))
abbrev Z1k : List AV := [pv 0 0, vI s, slV tb nb kU8 b, aa, aa, aa, pv 2 0, vI 0, pv 5 0, aa, aa, aa, (Z19 f u s), aa, aa, aa, (Z1a b), aa, aa, aa, aa, aa, aa, aa, aa, aa, vB (!(decide ((aE.mk s b) ∈ l)))]
abbrev Z1l : List AV := [pv 0 0, vI s, slV tb nb kU8 b, aa, aa, aa, pv 2 0, vI 30, aa, aa, aa, aa, (Z19 f u s)]
end
theorem ref03_Sign (f : Int) (u : Int) (l : List aE) (s : Int) (tb : Bool) (nb : Bool) (b : List UInt8) (hf : 0 ≤ f ∧ f ≤ 2) (hu : 0 ≤ u ∧ u ≤ 8) (hs : -9223372036854775808 ≤ s ∧ s ≤ 9223372036854775807) (hb : b.length ≤ 140737488355328) (hl : l.length ≤ 2147483648) : Holds Tryz.prog 52 ⟨[pv 0 0, vI s, slV tb nb kU8 b], [.box 75 [dB true, dI f, dI u, .own 1 (kE false).sz 0 l.length], arrK 35 (kE false) l], .tup [.agg [dI (signV f u s b).f_Signer, dU (signV f u s b).f_Body], .one (dI (signE f u s b))], [.live (.box 75 [dB true, dI f, dI u, .own 2 (kE false).sz 0 (signL f u l s b).length]), .dead, .live (arrK 35 (kE false) (signL f u l s b))]⟩ := by
 refine Holds.of Tryz.func52 rfl (N := 38) Tryz.ntmps52 rfl fun w0 B0 S0 U0 => ?_
 show T _ (mkBase 38 2 w0 S0 U0 B0) ⟨[pv 0 0, vI s, slV tb nb kU8 b], [(Z16 f u l), (Z18 l)]⟩ _ _
 refine sR [] ?_
 refine T.seq ?_
 refine sR [hR 2 rfl rfl (rCa (ref03_Known f u l s ‹_› ‹_› ‹_›) Tryz.func70 [0, 1] [(.tmp 9, pv 0 0), (.tmp 10, vI s)] 2 2)] ?_
 by_cases hq1 : isKnown f u s
 ·refine cF (cn (dT hq1)) ?_
  refine T.skip (nT (T.seq ?_))
  refine sR [] ?_
  by_cases hq2 : ((b.length : Nat) : Int) > 16777216
  ·refine cT (dT hq2) ?_
   refine sR [] ?_
   refine T.ret (rT ?_)
   refine eN ⟨(Z1b f u s tb nb b), [(Z16 f u l), (Z18 l), Z1c]⟩ ?_
   refine Ends.turn (s' := ⟨(Z1b f u s tb nb b), (Z1e f u l)⟩) (fun _ _ hG => Gs.move (s := ⟨(Z1b f u s tb nb b), [(Z16 f u l), (Z18 l), Z1c]⟩) 1 3 (o := (Z17 l)) rfl rfl rfl ⟨.inl rfl, (kk16 trivial)⟩ ⟨(.inr (.inr ⟨by decide, by decide, (.inr ⟨rfl, ⟨.inl rfl, (kk2 ⟨(.inr rfl), trivial⟩)⟩⟩)⟩)), ⟨(.inl ⟨rfl, rfl⟩), ⟨(.inr (.inr ⟨by decide, by decide, (.inl rfl)⟩)), ⟨(.inr (.inl ⟨rfl, rfl⟩)), trivial⟩⟩⟩⟩ hG) ?_
   refine eN ⟨(Z1b f u s tb nb b), (Z1e f u l)⟩ ?_
   refine Ends.turn (s' := ⟨(Z1b f u s tb nb b), [(Z1d f u l), .dead, .live (.box 35 Z1g), (Z18 l)]⟩) (fun _ _ hG => Gs.less (s := ⟨(Z1b f u s tb nb b), (Z1e f u l)⟩) ⟨.inl rfl, (kk16 trivial)⟩ (kk2 ⟨(.inr ⟨rfl, ⟨.inl rfl, ⟨(.inr ⟨rfl, rfl, rfl⟩), trivial⟩⟩⟩), ⟨.inl rfl, trivial⟩⟩) hG) ?_
   exact eX [.c 6 2 35 0 35 [dI 0, Z1f] (.agg Z1g), .t 7 (.one (dI 11))] ⟨⟨rfl, rfl, by kernel_rfl, by kernel_rfl, .inl ⟨2, wide_35, rfl, Nat.le_of_ble_eq_true rfl⟩⟩, ⟨⟨rfl, by kernel_rfl⟩, trivial⟩⟩ [0, 1, 3] (by have e1 : ((signV f u s b).f_Signer : Int) = 0 := (by (simp [signE, signV, signL, putL, zE, *]; done)); have e2 : ((signV f u s b).f_Body : List UInt8) = ([] : List UInt8) := (by (simp [signE, signV, signL, putL, zE, *]; done)); have e3 : ((signE f u s b) : Int) = 11 := (by (simp [signE, signV, signL, putL, zE, *]; done)); have hE := congr (congr (congrArg (fun (q1 : Int) (q2 : List UInt8) (q3 : Int) => (.tup [.agg [dI q1, dU q2], .one (dI q3)] : AV)) e1) e2) e3; exact hE) ⟨⟨rfl, (by have e1 : (l.length : Nat) = (signL f u l s b).length := (by (simp [signE, signV, signL, putL, zE, *]; done)); have hE := congrArg (fun (q1 : Nat) => (.live (.box 75 [dB true, dI f, dI u, .own 3 (kE false).sz 0 q1]) : HS)) e1; exact Eq.trans (by kernel_rfl) hE)⟩, ⟨⟨rfl, (by have e1 : (l : List aE) = (signL f u l s b) := (by (simp [signE, signV, signL, putL, zE, *]; done)); have hE := congrArg (fun (q1 : List aE) => (.live (arrK 35 (kE false) q1) : HS)) e1; exact Eq.trans (by kernel_rfl) hE)⟩, trivial⟩⟩
  refine cF (dF hq2) ?_
  refine T.skip (nT ?_)
  refine sR [hR 1 rfl rfl (q_buildSlice 3 5 kU8 kU8_ok ([] : List UInt8) [] (cs := []) Tryz.underlying33 iat_5 rfl zero_5 rfl rfl rfl (Nat.le_of_ble_eq_true rfl) part_ok (by kernel_rfl) (wk_eq (by kernel_rfl)) (lt_of rfl) trivial),
    hR 3 rfl rfl (q_appendO 3 4 5 1 kU8 kU8_ok ([] : List UInt8) b b ([] : List UInt8).length (sy := (.d (dsl tb nb kU8 b))) (rhs := []) elem_33 (by omega) (src_sl tb nb kU8 b) (by simp) (by (simp [maxLen, -List.getD_eq_getElem?_getD] <;> omega)) (by (simp [maxLen, -List.getD_eq_getElem?_getD] <;> omega)) (lt_of rfl) trivial)] ?_
  refine T.seq ?_
  refine tN ⟨(Z1h f u s tb nb b), [(Z16 f u l), (Z18 l), Z1c, .dead, .live (arrK 5 kU8 b), .live (.box 35 [dI s, .own 4 kU8.sz 0 b.length])]⟩ ?_
  refine T.turn (s' := ⟨(Z1h f u s tb nb b), [(Z16 f u l), (Z18 l), Z1c, .dead, .dead, (Z1j s b)]⟩) (fun _ _ hG => Gs.freeze (s := ⟨(Z1h f u s tb nb b), [(Z16 f u l), (Z18 l), Z1c, .dead, .live (arrK 5 kU8 b), .live (.box 35 [dI s, .own 4 kU8.sz 0 b.length])]⟩) 4 (el := elOf kU8 b) (sz := kU8.sz) (n := b.length) rfl ⟨.inl rfl, (kk16 trivial)⟩ ⟨(.inr ⟨by decide, .inl rfl⟩), ⟨(.inr ⟨by decide, .inl rfl⟩), ⟨(.inr ⟨by decide, .inl rfl⟩), ⟨(.inr ⟨by decide, .inl rfl⟩), ⟨(.inl ⟨rfl, rfl⟩), ⟨(.inr ⟨by decide, .inr ⟨rfl, ⟨.inl rfl, ⟨(.inr ⟨rfl, rfl, rfl, (fun h => by cases h), rfl, rfl, Nat.le_of_eq (Nat.zero_add _), fun i j _ => by rw [Nat.zero_add]⟩), trivial⟩⟩⟩⟩), trivial⟩⟩⟩⟩⟩⟩ hG) ?_
  refine sR [hR 2 rfl rfl (rCa (ref03_Has f u l false (aE.mk s b) (by omega)) Tryz.func71 [0, 1] [(.tmp 23, pv 0 0), (.tmp 24, .tv (.agg (Z1i s b)))] 2 2)] ?_
  by_cases hq3 : (aE.mk s b) ∈ l
  ·refine cF (cn (dT hq3)) ?_
   refine T.skip (nT ?_)
   refine sR [] ?_
   refine T.ret ?_
   refine eN ⟨(Z1k f u l s tb nb b), [(Z16 f u l), (Z18 l), (Z1j s b), .dead, .dead, (Z1j s b)]⟩ ?_
   refine Ends.turn (s' := ⟨(Z1k f u l s tb nb b), [.live (.box 75 [dB true, dI f, dI u, .own 6 (kE false).sz 0 l.length]), .dead, (Z1j s b), .dead, .dead, (Z1j s b), (Z18 l)]⟩) (fun _ _ hG => Gs.move (s := ⟨(Z1k f u l s tb nb b), [(Z16 f u l), (Z18 l), (Z1j s b), .dead, .dead, (Z1j s b)]⟩) 1 6 (o := (Z17 l)) rfl rfl rfl ⟨.inl rfl, (kk2 (kk8 (kk16 trivial)))⟩ ⟨(.inr (.inr ⟨by decide, by decide, (.inr ⟨rfl, ⟨.inl rfl, (kk2 ⟨(.inr rfl), trivial⟩)⟩⟩)⟩)), ⟨(.inl ⟨rfl, rfl⟩), ⟨(.inr (.inr ⟨by decide, by decide, (.inl rfl)⟩)), ⟨(.inr (.inr ⟨by decide, by decide, (.inl rfl)⟩)), ⟨(.inr (.inr ⟨by decide, by decide, (.inl rfl)⟩)), ⟨(.inr (.inr ⟨by decide, by decide, (.inl rfl)⟩)), ⟨(.inr (.inl ⟨rfl, rfl⟩)), trivial⟩⟩⟩⟩⟩⟩⟩ hG) ?_
   exact eX [.c 6 2 35 0 35 [dI s, dU b] (.agg (Z1i s b)), .t 7 (.one (dI 0))] ⟨⟨rfl, rfl, by kernel_rfl, by kernel_rfl, .inl ⟨2, wide_35, rfl, Nat.le_of_ble_eq_true rfl⟩⟩, ⟨⟨rfl, by kernel_rfl⟩, trivial⟩⟩ [0, 1, 6] (by have e1 : ((signV f u s b).f_Signer : Int) = s := (by (simp [signE, signV, signL, putL, zE, *]; done)); have e2 : ((signV f u s b).f_Body : List UInt8) = b := (by (simp [signE, signV, signL, putL, zE, *]; done)); have e3 : ((signE f u s b) : Int) = 0 := (by (simp [signE, signV, signL, putL, zE, *]; done)); have hE := congr (congr (congrArg (fun (q1 : Int) (q2 : List UInt8) (q3 : Int) => (.tup [.agg [dI q1, dU q2], .one (dI q3)] : AV)) e1) e2) e3; exact hE) ⟨⟨rfl, (by have e1 : (l.length : Nat) = (signL f u l s b).length := (by (simp [signE, signV, signL, putL, zE, *]; done)); have hE := congrArg (fun (q1 : Nat) => (.live (.box 75 [dB true, dI f, dI u, .own 6 (kE false).sz 0 q1]) : HS)) e1; exact Eq.trans (by kernel_rfl) hE)⟩, ⟨⟨rfl, (by have e1 : (l : List aE) = (signL f u l s b) := (by (simp [signE, signV, signL, putL, zE, *]; done)); have hE := congrArg (fun (q1 : List aE) => (.live (arrK 35 (kE false) q1) : HS)) e1; exact Eq.trans (by kernel_rfl) hE)⟩, trivial⟩⟩
  refine cT (cn (dF hq3)) ?_
  refine xD [[], [], [1], [1, 2], [1, 2, 3], [], [5], [1, 2, 3, 4, 5, 6], [0, 1, 2, 3, 4, 5, 6, 7], [0, 1, 2, 3, 4, 5, 6, 7, 8], [0, 1, 2, 3, 4, 5, 6, 7, 8, 9]] [hR 6 rfl rfl (q_buildSlice 6 35 (kE false) (k_api_Envelope_ok false) [(aE.mk s b)] [⟨0, .tmp 32, .agg (Z1i s b), 0⟩] (cs := [dI s, dU b]) Tryz.underlying36 iat_35 rfl zero_35 rfl rfl rfl (Nat.le_of_ble_eq_true rfl) (part_cons rfl rfl (Nat.le_of_ble_eq_true rfl) part_ok) (by kernel_rfl) (wk_eq (by kernel_rfl)) (lt_of rfl) trivial),
    hR 7 rfl rfl (q_appendO 1 7 35 32 (kE false) (k_api_Envelope_ok false) l [(aE.mk s b)] (l ++ [(aE.mk s b)]) l.length (sy := (.own 6 (kE false).sz 0 [(aE.mk s b)].length)) (rhs := [(6, .live (arrK 35 (kE false) [(aE.mk s b)]))]) elem_36 (by omega) (src_own 6 35 (kE false) [(aE.mk s b)]) (by rw [List.take_length]) (by (simp [maxLen, -List.getD_eq_getElem?_getD] <;> omega)) (by (simp [maxLen, -List.getD_eq_getElem?_getD] <;> omega)) (lt_of rfl) trivial)] (by kernel_rfl) (by kernel_rfl) (by kernel_rfl) (by kernel_rfl) (by kernel_rfl) (by kernel_rfl) ?_
  refine nT ?_
  refine sR [] ?_
  refine T.ret ?_
  exact eX [.c 6 2 35 0 35 [dI s, dU b] (.agg (Z1i s b)), .t 7 (.one (dI 0))] ⟨⟨rfl, rfl, by kernel_rfl, by kernel_rfl, .inl ⟨2, wide_35, rfl, Nat.le_of_ble_eq_true rfl⟩⟩, ⟨⟨rfl, by kernel_rfl⟩, trivial⟩⟩ [0, 1, 7] (by have e1 : ((signV f u s b).f_Signer : Int) = s := (by (simp [signE, signV, signL, putL, zE, *]; done)); have e2 : ((signV f u s b).f_Body : List UInt8) = b := (by (simp [signE, signV, signL, putL, zE, *]; done)); have e3 : ((signE f u s b) : Int) = 0 := (by (simp [signE, signV, signL, putL, zE, *]; done)); have hE := congr (congr (congrArg (fun (q1 : Int) (q2 : List UInt8) (q3 : Int) => (.tup [.agg [dI q1, dU q2], .one (dI q3)] : AV)) e1) e2) e3; exact hE) ⟨⟨rfl, (by have e1 : ((l ++ [(aE.mk s b)]).length : Nat) = (signL f u l s b).length := (by (simp [signE, signV, signL, putL, zE, *]; done)); have hE := congrArg (fun (q1 : Nat) => (.live (.box 75 [dB true, dI f, dI u, .own 7 (kE false).sz 0 q1]) : HS)) e1; exact Eq.trans (by kernel_rfl) hE)⟩, ⟨⟨rfl, (by have e1 : (l ++ [(aE.mk s b)] : List aE) = (signL f u l s b) := (by (simp [signE, signV, signL, putL, zE, *]; done)); have hE := congrArg (fun (q1 : List aE) => (.live (arrK 35 (kE false) q1) : HS)) e1; exact Eq.trans (by kernel_rfl) hE)⟩, trivial⟩⟩
 refine cT (cn (dF hq1)) ?_
 refine sR [] ?_
 refine T.ret (rT ?_)
 refine eN ⟨(Z1l f u s tb nb b), [(Z16 f u l), (Z18 l), Z1c]⟩ ?_
 refine Ends.turn (s' := ⟨(Z1l f u s tb nb b), (Z1e f u l)⟩) (fun _ _ hG => Gs.move (s := ⟨(Z1l f u s tb nb b), [(Z16 f u l), (Z18 l), Z1c]⟩) 1 3 (o := (Z17 l)) rfl rfl rfl ⟨.inl rfl, (kk4 (kk8 trivial))⟩ ⟨(.inr (.inr ⟨by decide, by decide, (.inr ⟨rfl, ⟨.inl rfl, (kk2 ⟨(.inr rfl), trivial⟩)⟩⟩)⟩)), ⟨(.inl ⟨rfl, rfl⟩), ⟨(.inr (.inr ⟨by decide, by decide, (.inl rfl)⟩)), ⟨(.inr (.inl ⟨rfl, rfl⟩)), trivial⟩⟩⟩⟩ hG) ?_
 refine eN ⟨(Z1l f u s tb nb b), (Z1e f u l)⟩ ?_
 refine Ends.turn (s' := ⟨(Z1l f u s tb nb b), [(Z1d f u l), .dead, .live (.box 35 Z1g), (Z18 l)]⟩) (fun _ _ hG => Gs.less (s := ⟨(Z1l f u s tb nb b), (Z1e f u l)⟩) ⟨.inl rfl, (kk4 (kk8 trivial))⟩ (kk2 ⟨(.inr ⟨rfl, ⟨.inl rfl, ⟨(.inr ⟨rfl, rfl, rfl⟩), trivial⟩⟩⟩), ⟨.inl rfl, trivial⟩⟩) hG) ?_
 exact eX [.c 6 2 35 0 35 [dI 0, Z1f] (.agg Z1g), .t 7 (.one (dI 30))] ⟨⟨rfl, rfl, by kernel_rfl, by kernel_rfl, .inl ⟨2, wide_35, rfl, Nat.le_of_ble_eq_true rfl⟩⟩, ⟨⟨rfl, by kernel_rfl⟩, trivial⟩⟩ [0, 1, 3] (by have e1 : ((signV f u s b).f_Signer : Int) = 0 := (by (simp [signE, signV, signL, putL, zE, *]; done)); have e2 : ((signV f u s b).f_Body : List UInt8) = ([] : List UInt8) := (by (simp [signE, signV, signL, putL, zE, *]; done)); have e3 : ((signE f u s b) : Int) = 30 := (by (simp [signE, signV, signL, putL, zE, *]; done)); have hE := congr (congr (congrArg (fun (q1 : Int) (q2 : List UInt8) (q3 : Int) => (.tup [.agg [dI q1, dU q2], .one (dI q3)] : AV)) e1) e2) e3; exact hE) ⟨⟨rfl, (by have e1 : (l.length : Nat) = (signL f u l s b).length := (by (simp [signE, signV, signL, putL, zE, *]; done)); have hE := congrArg (fun (q1 : Nat) => (.live (.box 75 [dB true, dI f, dI u, .own 3 (kE false).sz 0 q1]) : HS)) e1; exact Eq.trans (by kernel_rfl) hE)⟩, ⟨⟨rfl, (by have e1 : (l : List aE) = (signL f u l s b) := (by (simp [signE, signV, signL, putL, zE, *]; done)); have hE := congrArg (fun (q1 : List aE) => (.live (arrK 35 (kE false) q1) : HS)) e1; exact Eq.trans (by kernel_rfl) hE)⟩, trivial⟩⟩
theorem clip_u8 (tb : Bool) (nb : Bool) (b : List UInt8) : Holds Tryz.prog 136 ⟨[slV tb nb kU8 b], [], clV tb nb kU8 b, []⟩ := by
 refine Holds.of Tryz.func136 rfl (N := 9) Tryz.ntmps136 rfl fun w0 B0 S0 U0 => ?_
 show T _ (mkBase 9 0 w0 S0 U0 B0) ⟨[slV tb nb kU8 b], []⟩ _ _
 refine sR [] ?_
 refine sR [hR 5 rfl rfl (q_clip tb nb kU8 b (p := ((b.length : Nat) : Int)) (q := ((b.length : Nat) : Int)) Tryz.underlying33 iat_5 rfl (by omega) (by omega) (lt_of rfl) trivial)] ?_
 refine T.ret ?_
 exact eRt 2 (.one (.cl tb nb kU8.sz b.length (elOf kU8 b))) [] rfl trivial
abbrev Z1m (n : Nat) : AV := dv (.int .u64 ((n : Nat) : Int))
abbrev Z1n (m : Nat) : AV := vI ((m : Nat) : Int)
abbrev Z1o (j : Nat) : AV := vI ((j - 1 : Nat) : Int)
theorem wire_spell (tb : Bool) (nb : Bool) (b : List UInt8) (n : Nat) (m : Nat) (hb : b.length ≤ 140737488355000) (hn : n < 18446744073709551616) (hm : m ≤ 7) : Holds Tryz.prog 130 ⟨[slV tb nb kU8 b, dv (.int .u64 ((n : Nat) : Int)), vI ((m + 1 : Nat) : Int)], [], ownV 0 kU8 0 (b ++ (spellB n (m + 1))).length, [.live (arrK 5 kU8 (b ++ (spellB n (m + 1))))]⟩ := by
 refine Holds.of Tryz.func130 rfl (N := 22) Tryz.ntmps130 rfl fun w0 B0 S0 U0 => ?_
 show T _ (mkBase 22 0 w0 S0 U0 B0) ⟨[slV tb nb kU8 b, (Z1m n), vI ((m + 1 : Nat) : Int)], []⟩ _ _
 refine sR [] ?_
 refine sR [hR 1 rfl rfl (rCa (clip_u8 tb nb b ) Tryz.func136 [] [(.tmp 7, slV tb nb kU8 b)] 0 0)] ?_
 refine T.seq ?_
 refine T.block ?_
 refine T.ofTL ?_
 refine TL.peel ?_
 refine T.seq ?_
 refine sR [] ?_
 by_cases hq1 : ((m + 1 : Nat) : Int) > 0
 ·refine cT (dT hq1) ?_
  refine T.skip (nT ?_)
  refine T.block ?_
  refine sR [hR 1 rfl rfl (r_bin (u1 := .int .i64 ((m + 1 : Nat) : Int)) (u2 := .int .i64 1) (v := .int .i64 ((m : Nat) : Int)) (b_sub (by rw [IntKind.wrap_i64]; omega)) (lt_of rfl) ⟨rfl, trivial⟩)] ?_
  refine xR [hR 3 rfl rfl (r_bin (u1 := .int .i64 8) (u2 := .int .i64 ((m : Nat) : Int)) (v := .int .i64 ((8 * m : Nat) : Int)) (b_mul (by rw [IntKind.wrap_i64]; omega)) (lt_of rfl) ⟨rfl, trivial⟩),
    hR 4 rfl rfl (r_bin (u1 := .int .u64 ((n : Nat) : Int)) (u2 := .int .i64 ((8 * m : Nat) : Int)) (v := .int .u64 ((n / 2 ^ (8 * m) : Nat) : Int)) (b_shrN (n := 8 * m) rfl (Nat.le_trans (by omega) (by decide : 64 ≤ _))) (lt_of rfl) trivial),
    hR 5 rfl rfl (r_conv (u := .int .u64 ((n / 2 ^ (8 * m) : Nat) : Int)) (v := .int .u8 (((UInt8.ofNat (n / 2 ^ (8 * m))).toNat : Nat) : Int)) (c_byte Tryz.underlying120 Tryz.underlying5) (lt_of rfl) trivial),
    hR 6 rfl rfl (q_buildSlice 0 5 kU8 kU8_ok [(UInt8.ofNat (n / 2 ^ (8 * m)))] [⟨0, .tmp 18, .one (.d (.val (.int .u8 (((UInt8.ofNat (n / 2 ^ (8 * m))).toNat : Nat) : Int)))), 0⟩] (cs := [.d (.val (.int .u8 (((UInt8.ofNat (n / 2 ^ (8 * m))).toNat : Nat) : Int)))]) Tryz.underlying33 iat_5 rfl zero_5 rfl rfl rfl (Nat.le_of_ble_eq_true rfl) (part_cons rfl rfl (Nat.le_of_ble_eq_true rfl) part_ok) (by kernel_rfl) (wk_eq (by kernel_rfl)) (lt_of rfl) trivial),
    hR 7 rfl rfl (q_appendC 1 5 1 tb nb kU8 kU8_ok b [(UInt8.ofNat (n / 2 ^ (8 * m)))] (b ++ [(UInt8.ofNat (n / 2 ^ (8 * m)))]) (sy := (.own 0 kU8.sz 0 [(UInt8.ofNat (n / 2 ^ (8 * m)))].length)) (rhs := [(0, .live (arrK 5 kU8 [(UInt8.ofNat (n / 2 ^ (8 * m)))]))]) elem_33 (by (simp [maxLen, -List.getD_eq_getElem?_getD] <;> omega)) (src_own 0 5 kU8 [(UInt8.ofNat (n / 2 ^ (8 * m)))]) rfl (by (simp [maxLen, -List.getD_eq_getElem?_getD] <;> omega)) (by (simp [maxLen, -List.getD_eq_getElem?_getD] <;> omega)) (lt_of rfl) trivial)] (by kernel_rfl) (by kernel_rfl) ?_
  refine nB ?_
  refine nP ?_
  refine TL.loop (ι := Nat × (List UInt8)) (fun (x_ : Nat × (List UInt8)) => ⟨[ownV 0 kU8 0 x_.2.length, (Z1m n), vI ((x_.1 : Nat) : Int)], [.live (arrK 5 kU8 x_.2)]⟩) (fun (x_ : Nat × (List UInt8)) => (x_.1 ≤ m) ∧ (x_.2 ++ spellB n x_.1 = b ++ spellB n (m + 1))) (fun (x_ : Nat × (List UInt8)) => x_.1) (m, b ++ [UInt8.ofNat (n / 2 ^ (8 * m))]) ⟨(Nat.le_refl _), (by rw [List.append_assoc]; rfl)⟩ (fun _ _ hG => Gs.i2 [1] [true, true, true] (t1 := [ownV 1 kU8 0 (b ++ [UInt8.ofNat (n / 2 ^ (8 * m))]).length, (Z1m n), (Z1n m)]) (t2 := [ownV 1 kU8 0 (b ++ [(UInt8.ofNat (n / 2 ^ (8 * m)))]).length, (Z1m n), (Z1n m)]) (h1 := [.live (arrK 5 kU8 (b ++ [UInt8.ofNat (n / 2 ^ (8 * m))]))]) (h2 := [.live (arrK 5 kU8 (b ++ [(UInt8.ofNat (n / 2 ^ (8 * m)))]))]) (congrArg (fun (q1 : Nat) => ([ownV 1 kU8 0 q1, (Z1m n), (Z1n m)] : List AV)) (by rfl)) (congrArg (fun (q1 : List UInt8) => ([.live (arrK 5 kU8 q1)] : List HS)) (by rfl)) hG) ?_
  rintro ⟨j, acc⟩ ⟨hj, he⟩
  show T _ _ ⟨[ownV 0 kU8 0 acc.length, (Z1m n), vI ((j : Nat) : Int)], [.live (arrK 5 kU8 acc)]⟩ _ _
  replace hj : j ≤ m := hj
  replace he : acc ++ spellB n j = b ++ spellB n (m + 1) := he
  have hacc := spell_lenE he
  refine T.seq ?_
  refine sR [] ?_
  by_cases hq2 : ((j : Nat) : Int) > 0
  ·refine cT (dT hq2) ?_
   refine T.skip (nT ?_)
   refine T.block ?_
   refine sR [hR 1 rfl rfl (r_bin (u1 := .int .i64 ((j : Nat) : Int)) (u2 := .int .i64 1) (v := .int .i64 ((j - 1 : Nat) : Int)) (b_sub (by rw [IntKind.wrap_i64]; omega)) (lt_of rfl) ⟨rfl, trivial⟩)] ?_
   refine xR [hR 3 rfl rfl (r_bin (u1 := .int .i64 8) (u2 := .int .i64 ((j - 1 : Nat) : Int)) (v := .int .i64 ((8 * (j - 1) : Nat) : Int)) (b_mul (by rw [IntKind.wrap_i64]; omega)) (lt_of rfl) ⟨rfl, trivial⟩),
     hR 4 rfl rfl (r_bin (u1 := .int .u64 ((n : Nat) : Int)) (u2 := .int .i64 ((8 * (j - 1) : Nat) : Int)) (v := .int .u64 ((n / 2 ^ (8 * (j - 1)) : Nat) : Int)) (b_shrN (n := 8 * (j - 1)) rfl (Nat.le_trans (by omega) (by decide : 64 ≤ _))) (lt_of rfl) trivial),
     hR 5 rfl rfl (r_conv (u := .int .u64 ((n / 2 ^ (8 * (j - 1)) : Nat) : Int)) (v := .int .u8 (((UInt8.ofNat (n / 2 ^ (8 * (j - 1)))).toNat : Nat) : Int)) (c_byte Tryz.underlying120 Tryz.underlying5) (lt_of rfl) trivial),
     hR 6 rfl rfl (q_buildSlice 1 5 kU8 kU8_ok [(UInt8.ofNat (n / 2 ^ (8 * (j - 1))))] [⟨0, .tmp 18, .one (.d (.val (.int .u8 (((UInt8.ofNat (n / 2 ^ (8 * (j - 1)))).toNat : Nat) : Int)))), 0⟩] (cs := [.d (.val (.int .u8 (((UInt8.ofNat (n / 2 ^ (8 * (j - 1)))).toNat : Nat) : Int)))]) Tryz.underlying33 iat_5 rfl zero_5 rfl rfl rfl (Nat.le_of_ble_eq_true rfl) (part_cons rfl rfl (Nat.le_of_ble_eq_true rfl) part_ok) (by kernel_rfl) (wk_eq (by kernel_rfl)) (lt_of rfl) trivial),
     hR 7 rfl rfl (q_appendO 0 2 5 1 kU8 kU8_ok acc [(UInt8.ofNat (n / 2 ^ (8 * (j - 1))))] (acc ++ [(UInt8.ofNat (n / 2 ^ (8 * (j - 1))))]) acc.length (sy := (.own 1 kU8.sz 0 [(UInt8.ofNat (n / 2 ^ (8 * (j - 1))))].length)) (rhs := [(1, .live (arrK 5 kU8 [(UInt8.ofNat (n / 2 ^ (8 * (j - 1))))]))]) elem_33 (by omega) (src_own 1 5 kU8 [(UInt8.ofNat (n / 2 ^ (8 * (j - 1))))]) (by rw [List.take_length]) (by (simp [maxLen, -List.getD_eq_getElem?_getD] <;> omega)) (by (simp [maxLen, -List.getD_eq_getElem?_getD] <;> omega)) (lt_of rfl) trivial)] (by kernel_rfl) (by kernel_rfl) ?_
   refine nB ?_
   refine nL (j - 1, acc ++ [UInt8.ofNat (n / 2 ^ (8 * (j - 1)))]) ⟨(show (j - 1) ≤ m from (by omega)), (show (acc ++ [UInt8.ofNat (n / 2 ^ (8 * (j - 1)))]) ++ spellB n (j - 1) = b ++ spellB n (m + 1) from (spell_step he (by omega)))⟩ (show ((j - 1) : Nat) < j from (by omega)) (fun _ _ hG => Gs.i2 [2] [true, true, true] (t1 := [ownV 2 kU8 0 (acc ++ [UInt8.ofNat (n / 2 ^ (8 * (j - 1)))]).length, (Z1m n), (Z1o j)]) (t2 := [ownV 2 kU8 0 (acc ++ [(UInt8.ofNat (n / 2 ^ (8 * (j - 1))))]).length, (Z1m n), (Z1o j)]) (h1 := [.live (arrK 5 kU8 (acc ++ [UInt8.ofNat (n / 2 ^ (8 * (j - 1)))]))]) (h2 := [.live (arrK 5 kU8 (acc ++ [(UInt8.ofNat (n / 2 ^ (8 * (j - 1))))]))]) (congrArg (fun (q1 : Nat) => ([ownV 2 kU8 0 q1, (Z1m n), (Z1o j)] : List AV)) (by rfl)) (congrArg (fun (q1 : List UInt8) => ([.live (arrK 5 kU8 q1)] : List HS)) (by rfl)) hG)
  refine cF (dF hq2) ?_
  refine T.exit ?_
  refine xT ?_
  refine xT ?_
  refine xH ?_
  refine nT ?_
  refine sR [] ?_
  refine T.ret ?_
  exact eRt 6 (.one (.own 0 kU8.sz 0 acc.length)) [0] (by have e1 : ((b ++ (spellB n (m + 1))).length : Nat) = acc.length := (by (rw [spell_end he (by omega)])); have hE := congrArg (fun (q1 : Nat) => (ownV 0 kU8 0 q1 : AV)) e1; exact hE) ⟨⟨rfl, (by have e1 : (acc : List UInt8) = b ++ (spellB n (m + 1)) := (by (rw [spell_end he (by omega)])); have hE := congrArg (fun (q1 : List UInt8) => (.live (arrK 5 kU8 q1) : HS)) e1; exact Eq.trans (by kernel_rfl) hE)⟩, trivial⟩
 exact absurd (by omega) hq1
end Go.Proofs.YtalapplihdmenaaGreat.Q
