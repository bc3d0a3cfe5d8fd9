import Derived.Test.YtalapplihdmenaaGreatC13n4
namespace Go.Proofs.YtalapplihdmenaaGreat.Q
open Go Go.RowKit
set_option linter.unusedVariables false
set_option linter.unusedSimpArgs false
set_option maxRecDepth 100000
set_option maxHeartbeats 4000000
abbrev Z1e (B : List UInt8) : SV := dU B
abbrev Z1f : TV := .one (dI 0)
theorem ref01_rCount (B : List UInt8) (a : Nat) (e : Int) (most : Int) (ha : a ≤ B.length) (hB : B.length ≤ 140737488350000) : Holds Tryz.prog 134 ⟨[pv 0 0, vI most], [.box 170 [dU B, dI ((a : Nat) : Int), dI e]], vI ((rdC (B.drop a) e most : Nat) : Int), [.live (.box 170 [dU B, dI ((rfA B a e 4 (limE most ((B.drop a).take 4)) : Nat) : Int), dI (rdE (B.drop a) e 4 (limE most ((B.drop a).take 4)))])]⟩ := by
 refine Holds.of Tryz.func134 rfl (N := 39) Tryz.ntmps134 rfl fun w0 B0 S0 U0 => ?_
 show T _ (mkBase 39 1 w0 S0 U0 B0) ⟨[pv 0 0, vI most], [.live (.box 170 [(Z1e B), dI ((a : Nat) : Int), dI e])]⟩ _ _
 have hn4 := rfN_lt4 B a
 refine sR [] ?_
 refine T.seq ?_
 refine sR [] ?_
 by_cases hq1 : e ≠ 0
 ·have hr := rf_e (B := B) (a := a) hq1 4 (limE most ((B.drop a).take 4))
  refine cT (dT hq1) ?_
  refine sR [] ?_
  refine T.ret (rT ?_)
  exact eRt 4 (Z1f) [0] (by have e1 : (((rdC (B.drop a) e most : Nat) : Int) : Int) = 0 := (by (simp only [rdC]; (rw [if_neg hr.1]; rfl))); have hE := cI e1; exact hE) ⟨⟨rfl, (by have e1 : (((a : Nat) : Int) : Int) = ((rfA B a e 4 (limE most ((B.drop a).take 4)) : Nat) : Int) := (by (rw [rfA_no hr.1])); have e2 : (e : Int) = (rdE (B.drop a) e 4 (limE most ((B.drop a).take 4))) := (by exact hr.2.symm); have hE := congr (congrArg (fun (q1 : Int) (q2 : Int) => (.live (.box 170 [(Z1e B), dI q1, dI q2]) : HS)) e1) e2; exact Eq.trans (by kernel_rfl) hE)⟩, trivial⟩
 refine cF (dF hq1) ?_
 refine T.skip (nT ?_)
 refine sR [hR 1 rfl rfl (rCa (ref01_number B a e 4 ‹_› ‹_› (by omega)) Tryz.func131 [0] [(.tmp 13, pv 0 0), (.const (.int .i64 4), vI 4)] 1 1)] ?_
 refine T.seq ?_
 refine sR [] ?_
 by_cases hq2 : a + 4 ≤ B.length
 ·refine cF (cn (dT hq2)) ?_
  refine T.skip (nT (T.seq ?_))
  refine sR [hR 1 rfl rfl (r_conv (u := .int .u64 ((rfN B a 4 : Nat) : Int)) (v := .int .i64 ((rfN B a 4 : Nat) : Int)) (c_int Tryz.underlying120 Tryz.underlying3 (by rw [IntKind.wrap_i64]; omega)) (lt_of rfl) trivial),
    hR 3 rfl rfl (r_max (k := .i64) (a := 0) (b := most) (lt_of rfl) ⟨rfl, trivial⟩)] ?_
  by_cases hq3 : ((rfN B a 4 : Nat) : Int) > (max 0 most)
  ·have hr := rf_m (n := 4) (k := 4) (c := 11) (m := (limE most ((B.drop a).take 4))) rfl ‹_› ‹_› (by rw [lim_of ‹_›, if_pos ‹_›]) (by decide)
   refine cT (dT hq3) ?_
   refine sR [] ?_
   refine sR [] ?_
   refine T.ret (rT ?_)
   exact eRt 4 (Z1f) [0] (by have e1 : (((rdC (B.drop a) e most : Nat) : Int) : Int) = 0 := (by (simp only [rdC]; (rw [if_neg hr.1]; rfl))); have hE := cI e1; exact hE) ⟨⟨rfl, (by have e1 : (((a : Nat) : Int) : Int) = ((rfA B a e 4 (limE most ((B.drop a).take 4)) : Nat) : Int) := (by (rw [rfA_no hr.1])); have e2 : (11 : Int) = (rdE (B.drop a) e 4 (limE most ((B.drop a).take 4))) := (by exact hr.2.symm); have hE := congr (congrArg (fun (q1 : Int) (q2 : Int) => (.live (.box 170 [(Z1e B), dI q1, dI q2]) : HS)) e1) e2; exact Eq.trans (by kernel_rfl) hE)⟩, trivial⟩
  have hr := rf_ok (n := 4) (k := 4) (m := (limE most ((B.drop a).take 4))) rfl ‹_› ‹_› (by rw [lim_of ‹_›, if_neg ‹_›])
  refine cF (dF hq3) ?_
  refine T.skip (nT ?_)
  refine sR [hR 4 rfl rfl (r_bin (u1 := .int .i64 ((a : Nat) : Int)) (u2 := .int .i64 4) (v := .int .i64 ((a + 4 : Nat) : Int)) (b_add (by rw [IntKind.wrap_i64]; omega)) (lt_of rfl) ⟨rfl, trivial⟩)] ?_
  refine sR [hR 1 rfl rfl (r_conv (u := .int .u64 ((rfN B a 4 : Nat) : Int)) (v := .int .i64 ((rfN B a 4 : Nat) : Int)) (c_int Tryz.underlying120 Tryz.underlying3 (by rw [IntKind.wrap_i64]; omega)) (lt_of rfl) trivial)] ?_
  refine T.ret ?_
  exact eRt 4 (.one (dI ((rfN B a 4 : Nat) : Int))) [0] (by have e1 : (((rdC (B.drop a) e most : Nat) : Int) : Int) = ((rfN B a 4 : Nat) : Int) := (by (simp only [rdC]; (rw [if_pos hr.1, ← rfN_ok ‹_›]; done))); have hE := cI e1; exact hE) ⟨⟨rfl, (by have e1 : (((a + 4 : Nat) : Int) : Int) = ((rfA B a e 4 (limE most ((B.drop a).take 4)) : Nat) : Int) := (by (rw [rfA_ok hr.1]; rfl)); have e2 : (e : Int) = (rdE (B.drop a) e 4 (limE most ((B.drop a).take 4))) := (by (rw [hr.2]; omega)); have hE := congr (congrArg (fun (q1 : Int) (q2 : Int) => (.live (.box 170 [(Z1e B), dI q1, dI q2]) : HS)) e1) e2; exact Eq.trans (by kernel_rfl) hE)⟩, trivial⟩
 have hr := rf_short (n := 4) (k := 4) rfl ‹_› hq2 ha (limE most ((B.drop a).take 4))
 refine cT (cn (dF hq2)) ?_
 refine sR [] ?_
 refine sR [] ?_
 refine T.ret (rT ?_)
 exact eRt 4 (Z1f) [0] (by have e1 : (((rdC (B.drop a) e most : Nat) : Int) : Int) = 0 := (by (simp only [rdC]; (rw [if_neg hr.1]; rfl))); have hE := cI e1; exact hE) ⟨⟨rfl, (by have e1 : (((a : Nat) : Int) : Int) = ((rfA B a e 4 (limE most ((B.drop a).take 4)) : Nat) : Int) := (by (rw [rfA_no hr.1])); have e2 : (10 : Int) = (rdE (B.drop a) e 4 (limE most ((B.drop a).take 4))) := (by exact hr.2.symm); have hE := congr (congrArg (fun (q1 : Int) (q2 : Int) => (.live (.box 170 [(Z1e B), dI q1, dI q2]) : HS)) e1) e2; exact Eq.trans (by kernel_rfl) hE)⟩, trivial⟩
abbrev Z1g (a : Nat) : SV := dI ((a : Nat) : Int)
theorem ref01_rEnd (B : List UInt8) (a : Nat) (e : Int) (ha : a ≤ B.length) (hB : B.length ≤ 140737488350000) : Holds Tryz.prog 125 ⟨[pv 0 0], [.box 170 [dU B, dI ((a : Nat) : Int), dI e]], .tup [], [.live (.box 170 [dU B, dI ((a : Nat) : Int), dI (rdX (B.drop a) e)])]⟩ := by
 refine Holds.of Tryz.func125 rfl (N := 22) Tryz.ntmps125 rfl fun w0 B0 S0 U0 => ?_
 show T _ (mkBase 22 1 w0 S0 U0 B0) ⟨[pv 0 0], [.live (.box 170 [dU B, (Z1g a), dI e])]⟩ _ _
 by_cases hq1 : e = 0
 ·refine sD [[], [0], [0, 1], [0, 1, 2], [0, 1, 2, 3], [0, 1, 2, 3, 4], [0, 1, 2, 3, 4, 5], [0, 1, 2, 3, 4, 5, 6], [0, 1, 2, 3, 4, 5, 6, 7], [0, 1, 2, 3, 4, 5, 6, 7, 8], [0, 1, 2, 3, 4, 5], [0, 1, 2, 3, 4, 5, 10], [0, 1, 2, 3, 4, 5, 10, 11], [0, 1, 2, 3, 4, 5, 10, 11, 12], [0, 1, 2, 3, 4, 5, 10, 11, 12, 13], [0, 1, 2, 3, 4, 5, 6, 7, 8, 9, 10, 11, 12, 13, 14], [0, 1, 2, 3, 4, 5, 6, 7, 8, 9, 10, 11, 12, 13, 14, 15]] [hY 6 (dT hq1),
    hY 7 (dT hq1),
    hY 8 (dT hq1),
    hY 9 (dT hq1),
    hY 10 (dT hq1),
    hY 11 (dT hq1),
    hY 12 (dT hq1),
    hY 13 (dT hq1),
    hY 14 (dT hq1),
    hY 15 (dT hq1),
    hP 16 (dT hq1)] ?_
  by_cases hq2 : ((a : Nat) : Int) < ((B.length : Nat) : Int)
  ·refine cT (dT hq2) ?_
   refine xK [] ?_
   exact tE (.inr rfl) [] trivial [0] rfl rfl rfl rfl rfl rfl ⟨⟨rfl, (by have e1 : (13 : Int) = (rdX (B.drop a) e) := (by (simp only [rdX, List.length_drop]; rw [if_pos ⟨by assumption, by omega⟩])); have hE := congrArg (fun (q1 : Int) => (.live (.box 170 [dU B, (Z1g a), dI q1]) : HS)) e1; exact Eq.trans (by kernel_rfl) hE)⟩, trivial⟩
  refine cF (dF hq2) ?_
  refine T.skip ?_
  exact tE (.inr rfl) [] trivial [0] rfl rfl rfl rfl rfl rfl ⟨⟨rfl, (by have e1 : (e : Int) = (rdX (B.drop a) e) := (by (simp only [rdX, List.length_drop]; rw [if_neg (fun h => by (have := h.2; omega))])); have hE := congrArg (fun (q1 : Int) => (.live (.box 170 [dU B, (Z1g a), dI q1]) : HS)) e1; exact Eq.trans (by kernel_rfl) hE)⟩, trivial⟩
 refine sD [[], [0], [0, 1], [0, 1, 2], [0, 1, 2, 3], [0, 1, 2, 3, 4], [0, 1, 2, 3, 4, 5], [0, 1, 2, 3, 4, 5, 6], [0, 1, 2, 3, 4, 5, 6, 7], [0, 1, 2, 3, 4, 5, 6, 7, 8], [0, 1, 2, 3, 4, 5], [0, 1, 2, 3, 4, 5, 10], [0, 1, 2, 3, 4, 5, 10, 11], [0, 1, 2, 3, 4, 5, 10, 11, 12], [0, 1, 2, 3, 4, 5, 10, 11, 12, 13], [0, 1, 2, 3, 4, 5, 6, 7, 8, 9, 10, 11, 12, 13, 14], [0, 1, 2, 3, 4, 5, 6, 7, 8, 9, 10, 11, 12, 13, 14, 15]] [hN 6 true (dF hq1),
   hN 7 true (dF hq1),
   hN 8 true (dF hq1),
   hN 9 true (dF hq1),
   hN 10 true (dF hq1),
   hN 11 true (dF hq1),
   hN 12 true (dF hq1),
   hN 13 true (dF hq1),
   hN 14 true (dF hq1),
   hN 15 true (dF hq1),
   hP 16 (dF hq1)] ?_
 refine cF (b := false) rfl ?_
 refine T.skip ?_
 exact tE (.inr rfl) [] trivial [0] rfl rfl rfl rfl rfl rfl ⟨⟨rfl, (by have e1 : (e : Int) = (rdX (B.drop a) e) := (by (simp only [rdX, List.length_drop]; rw [if_neg (fun h => by exact absurd h.1 ‹_›)])); have hE := congrArg (fun (q1 : Int) => (.live (.box 170 [dU B, (Z1g a), dI q1]) : HS)) e1; exact Eq.trans (by kernel_rfl) hE)⟩, trivial⟩
section
variable (B : List UInt8) (a : Nat) (e : Int) (most : Int)
abbrev Z1h : SV := dU B
abbrev Z1i : AV := vI ((a : Nat) : Int)
abbrev Z1j : AV := vI ((rdC (B.drop a) e most : Nat) : Int)
abbrev Z1k : AV := vB (decide (((rdC (B.drop a) e most : Nat) : Int) > (((B.length : Nat) : Int) - ((rfA B a e 4 (limE most ((B.drop a).take 4)) : Nat) : Int))))
abbrev Z1l : AV := vB (decide ((rdE (B.drop a) e 4 (limE most ((B.drop a).take 4))) ≠ 0))
abbrev Z1m : HS := .live (.box 170 [(Z1h B), dI ((rfA B a e 4 (limE most ((B.drop a).take 4)) : Nat) : Int), dI (rdE (B.drop a) e 4 (limE most ((B.drop a).take 4)))])
abbrev Z1n := (rfA B a e 4 (limE most ((B.drop a).take 4)))
end
theorem ref01_rBytes (B : List UInt8) (a : Nat) (e : Int) (most : Int) (ha : a ≤ B.length) (hB : B.length ≤ 140737488350000) : Holds Tryz.prog 132 ⟨[pv 0 0, vI most], [.box 170 [dU B, dI ((a : Nat) : Int), dI e]], ownV 1 kU8 0 (rdY (B.drop a) e most).length, [.live (.box 170 [dU B, dI ((rfYA B a e most : Nat) : Int), dI (rdYE (B.drop a) e most)]), .live (arrK 5 kU8 (rdY (B.drop a) e most))]⟩ := by
 refine Holds.of Tryz.func132 rfl (N := 72) Tryz.ntmps132 rfl fun w0 B0 S0 U0 => ?_
 show T _ (mkBase 72 1 w0 S0 U0 B0) ⟨[pv 0 0, vI most], [.live (.box 170 [(Z1h B), dI ((a : Nat) : Int), dI e])]⟩ _ _
 have hrc := rdC_lt (B.drop a) e most
 have hra := rfA_le (B := B) (a := a) (e := e) (n := 4) (m := (limE most ((B.drop a).take 4))) ha
 refine sR [] ?_
 refine sR [] ?_
 refine sR [hR 2 rfl rfl (rCa (ref01_rCount B a e most ‹_› ‹_›) Tryz.func134 [0] [(.tmp 12, pv 0 0), (.tmp 13, vI most)] 1 1)] ?_
 refine T.seq ?_
 by_cases hq1 : (rdE (B.drop a) e 4 (limE most ((B.drop a).take 4))) = 0
 ·refine sD [[], [0], [0, 1], [0, 1, 2], [0, 1, 2, 3], [0, 1, 2, 3, 4], [0, 1, 2, 3, 4, 5], [0, 1, 2, 3, 4, 5], [0, 1, 2, 3, 4, 5, 7], [0, 1, 2, 3, 4, 5, 7, 8], [0, 1, 2, 3, 4, 5, 7, 8, 9], [0, 1, 2, 3, 4, 5, 7, 8, 9, 10], [0, 1, 2, 3, 4, 5], [0, 1, 2, 3, 4, 5, 12], [0, 1, 2, 3, 4, 5, 12, 13], [0, 1, 2, 3, 4, 5, 12, 13, 14], [0, 1, 2, 3, 4, 5, 7, 8, 9, 10, 11, 12, 13, 14, 15], [0, 1, 2, 3, 4, 5, 6, 7, 8, 9, 10, 11, 12, 13, 14, 15, 16], [0, 1, 2, 3, 4, 5, 6, 7, 8, 9, 10, 11, 12, 13, 14, 15, 16, 17]] [hY 6 (dT hq1),
    hY 7 (dT hq1),
    hY 8 (dT hq1),
    hY 9 (dT hq1),
    hY 10 (dT hq1),
    hY 11 (dT hq1),
    hY 12 (dT hq1),
    hY 13 (dT hq1),
    hY 14 (dT hq1),
    hY 15 (dT hq1),
    hS 16 (oY rfl rfl rfl rfl (lt_of rfl) (dT hq1) (r_bin (u1 := .int .i64 ((B.length : Nat) : Int)) (u2 := .int .i64 ((rfA B a e 4 (limE most ((B.drop a).take 4)) : Nat) : Int)) (v := .int .i64 (((B.length : Nat) : Int) - ((rfA B a e 4 (limE most ((B.drop a).take 4)) : Nat) : Int))) (b_sub (by rw [IntKind.wrap_i64]; omega)) (lt_of rfl) (by exact trivial))),
    hY 17 (dT hq1),
    hP 18 (dT hq1)] ?_
  by_cases hq2 : ((rdC (B.drop a) e most : Nat) : Int) > (((B.length : Nat) : Int) - ((rfA B a e 4 (limE most ((B.drop a).take 4)) : Nat) : Int))
  ·have hy := rfY_short ‹_› hq2 ha
   refine cT (dT hq2) ?_
   refine sR [] ?_
   refine xK [] ?_
   refine nT (T.seq ?_)
   refine sR [] ?_
   refine cT (b := true) rfl ?_
   refine sR [] ?_
   refine T.ret (rT ?_)
   refine eN ⟨[pv 0 0, vI most, aa, aa, dv (.slice none 0 0), (Z1i a), (Z1j B a e most), aa, aa, aa, aa, aa, aa, aa, aa, aa, aa, aa, aa, aa, aa, aa, aa, aa, aa, aa, aa, aa, aa, aa, aa, aa, aa, (Z1k B a e most), aa, aa, aa, aa, aa, aa, aa, aa, aa, aa, aa, vB true], [.live (.box 170 [(Z1h B), dI ((a : Nat) : Int), dI 10])]⟩ ?_
   refine Ends.turn (s' := ⟨[pv 0 0, vI most, aa, aa, ownV 1 kU8 0 0, (Z1i a), (Z1j B a e most), aa, aa, aa, aa, aa, aa, aa, aa, aa, aa, aa, aa, aa, aa, aa, aa, aa, aa, aa, aa, aa, aa, aa, aa, aa, aa, (Z1k B a e most), aa, aa, aa, aa, aa, aa, aa, aa, aa, aa, aa, vB true], [.live (.box 170 [(Z1h B), dI ((a : Nat) : Int), dI 10]), .live (arrK 5 kU8 ([] : List UInt8))]⟩) (fun _ _ hG => Gs.absent 1 4 5 kU8 rfl rfl hG) ?_
   exact eRt 4 (.one (.own 1 kU8.sz 0 0)) [0, 1] (by have e1 : ((rdY (B.drop a) e most).length : Nat) = 0 := (by (rw [hy.1]; rfl)); have hE := congrArg (fun (q1 : Nat) => (ownV 1 kU8 0 q1 : AV)) e1; exact hE) ⟨⟨rfl, (by have e1 : (((a : Nat) : Int) : Int) = ((rfYA B a e most : Nat) : Int) := (by omega); have e2 : (10 : Int) = (rdYE (B.drop a) e most) := (by omega); have hE := congr (congrArg (fun (q1 : Int) (q2 : Int) => (.live (.box 170 [(Z1h B), dI q1, dI q2]) : HS)) e1) e2; exact Eq.trans (by kernel_rfl) hE)⟩, ⟨⟨rfl, (by have e1 : (([] : List UInt8) : List UInt8) = (rdY (B.drop a) e most) := (by exact hy.1.symm); have hE := congrArg (fun (q1 : List UInt8) => (.live (arrK 5 kU8 q1) : HS)) e1; exact Eq.trans (by kernel_rfl) hE)⟩, trivial⟩⟩
  have hy := rfY_ok ‹_› hq2 ha
  refine cF (dF hq2) ?_
  refine T.skip (nT (T.seq ?_))
  refine sR [] ?_
  by_cases hq3 : (rdE (B.drop a) e 4 (limE most ((B.drop a).take 4))) ≠ 0
  ·refine cT (dT hq3) ?_
   refine sR [] ?_
   refine T.ret (rT ?_)
   refine eN ⟨[pv 0 0, vI most, aa, aa, dv (.slice none 0 0), (Z1i a), (Z1j B a e most), aa, aa, aa, aa, aa, aa, aa, aa, aa, aa, aa, aa, aa, aa, aa, aa, aa, aa, aa, aa, aa, aa, aa, aa, aa, aa, (Z1k B a e most), aa, aa, aa, aa, aa, aa, aa, aa, aa, aa, aa, (Z1l B a e most)], [(Z1m B a e most)]⟩ ?_
   refine Ends.turn (s' := ⟨[pv 0 0, vI most, aa, aa, ownV 1 kU8 0 0, (Z1i a), (Z1j B a e most), aa, aa, aa, aa, aa, aa, aa, aa, aa, aa, aa, aa, aa, aa, aa, aa, aa, aa, aa, aa, aa, aa, aa, aa, aa, aa, (Z1k B a e most), aa, aa, aa, aa, aa, aa, aa, aa, aa, aa, aa, (Z1l B a e most)], [(Z1m B a e most), .live (arrK 5 kU8 ([] : List UInt8))]⟩) (fun _ _ hG => Gs.absent 1 4 5 kU8 rfl rfl hG) ?_
   exact eRt 4 (.one (.own 1 kU8.sz 0 0)) [0, 1] (congrArg (fun (q1 : Nat) => (ownV 1 kU8 0 q1 : AV)) (by omega)) ⟨⟨rfl, (by have e1 : (((rfA B a e 4 (limE most ((B.drop a).take 4)) : Nat) : Int) : Int) = ((rfYA B a e most : Nat) : Int) := (by omega); have e2 : ((rdE (B.drop a) e 4 (limE most ((B.drop a).take 4))) : Int) = (rdYE (B.drop a) e most) := (by omega); have hE := congr (congrArg (fun (q1 : Int) (q2 : Int) => (.live (.box 170 [(Z1h B), dI q1, dI q2]) : HS)) e1) e2; exact Eq.trans (by kernel_rfl) hE)⟩, ⟨⟨rfl, (by have e1 : (([] : List UInt8) : List UInt8) = (rdY (B.drop a) e most) := (by omega); have hE := congrArg (fun (q1 : List UInt8) => (.live (arrK 5 kU8 q1) : HS)) e1; exact Eq.trans (by kernel_rfl) hE)⟩, trivial⟩⟩
  refine cF (dF hq3) ?_
  refine T.skip (nT ?_)
  refine sD [[], [], [1], [1, 2], [1, 2, 3], [], [5], [5, 6], [5, 6, 7], [], [9], [9, 10], [9, 10, 11], [], [9, 10, 11, 12, 13], [1, 2, 3, 4, 5, 6, 7, 8, 9, 10, 11, 12, 13, 14], [0, 1, 2, 3, 4, 5, 6, 7, 8, 9, 10, 11, 12, 13, 14, 15], [0, 1, 2, 3, 4, 5, 6, 7, 8, 9, 10, 11, 12, 13, 14, 15, 16]] [hR 0 rfl rfl (q_buildSlice 1 5 kU8 kU8_ok ([] : List UInt8) [] (cs := []) Tryz.underlying33 iat_5 rfl zero_5 rfl rfl rfl (Nat.le_of_ble_eq_true rfl) part_ok (by kernel_rfl) (wk_eq (by kernel_rfl)) (lt_of rfl) trivial),
    hR 14 rfl rfl (r_bin (u1 := .int .i64 ((rfA B a e 4 (limE most ((B.drop a).take 4)) : Nat) : Int)) (u2 := .int .i64 ((rdC (B.drop a) e most : Nat) : Int)) (v := .int .i64 (((rfA B a e 4 (limE most ((B.drop a).take 4))) + (rdC (B.drop a) e most) : Nat) : Int)) (b_add (by rw [IntKind.wrap_i64]; omega)) (lt_of rfl) trivial),
    hR 15 rfl rfl (q_slice false false kU8 B ((B.take ((rfA B a e 4 (limE most ((B.drop a).take 4))) + (rdC (B.drop a) e most))).drop (rfA B a e 4 (limE most ((B.drop a).take 4)))) (rfA B a e 4 (limE most ((B.drop a).take 4))) ((rfA B a e 4 (limE most ((B.drop a).take 4))) + (rdC (B.drop a) e most)) (lo := some (.tmp 54, ((rfA B a e 4 (limE most ((B.drop a).take 4)) : Nat) : Int))) (hi := some (.tmp 60, (((rfA B a e 4 (limE most ((B.drop a).take 4))) + (rdC (B.drop a) e most) : Nat) : Int))) Tryz.underlying33 iat_5 rfl rfl rfl rfl rfl (by omega) (by omega) rfl (lt_of rfl) trivial),
    hR 16 rfl rfl (q_appendO 1 2 5 1 kU8 kU8_ok ([] : List UInt8) ((B.take ((rfA B a e 4 (limE most ((B.drop a).take 4))) + (rdC (B.drop a) e most))).drop (rfA B a e 4 (limE most ((B.drop a).take 4)))) ((B.take ((rfA B a e 4 (limE most ((B.drop a).take 4))) + (rdC (B.drop a) e most))).drop (rfA B a e 4 (limE most ((B.drop a).take 4)))) ([] : List UInt8).length (sy := (dU ((B.take ((Z1n B a e most) + (rdC (B.drop a) e most))).drop (Z1n B a e most)))) (rhs := []) elem_33 (by omega) (src_sl false false kU8 ((B.take ((rfA B a e 4 (limE most ((B.drop a).take 4))) + (rdC (B.drop a) e most))).drop (rfA B a e 4 (limE most ((B.drop a).take 4))))) (by simp) (by (simp [maxLen, -List.getD_eq_getElem?_getD] <;> omega)) (by (simp [maxLen, -List.getD_eq_getElem?_getD] <;> omega)) (lt_of rfl) trivial)] ?_
  refine sR [hR 5 rfl rfl (r_bin (u1 := .int .i64 ((rfA B a e 4 (limE most ((B.drop a).take 4)) : Nat) : Int)) (u2 := .int .i64 ((rdC (B.drop a) e most : Nat) : Int)) (v := .int .i64 (((rfA B a e 4 (limE most ((B.drop a).take 4))) + (rdC (B.drop a) e most) : Nat) : Int)) (b_add (by rw [IntKind.wrap_i64]; omega)) (lt_of rfl) trivial)] ?_
  refine sR [] ?_
  refine T.ret ?_
  exact eRt 4 (.one (.own 2 kU8.sz 0 ((B.take ((Z1n B a e most) + (rdC (B.drop a) e most))).drop (Z1n B a e most)).length)) [0, 2] (by have e1 : ((rdY (B.drop a) e most).length : Nat) = ((B.take ((rfA B a e 4 (limE most ((B.drop a).take 4))) + (rdC (B.drop a) e most))).drop (rfA B a e 4 (limE most ((B.drop a).take 4)))).length := (by (rw [hy.2.2.2.1, hy.1, hy.2.1]; done)); have hE := congrArg (fun (q1 : Nat) => (ownV 2 kU8 0 q1 : AV)) e1; exact hE) ⟨⟨rfl, (by have e1 : ((((rfA B a e 4 (limE most ((B.drop a).take 4))) + (rdC (B.drop a) e most) : Nat) : Int) : Int) = ((rfYA B a e most : Nat) : Int) := (by omega); have e2 : ((rdE (B.drop a) e 4 (limE most ((B.drop a).take 4))) : Int) = (rdYE (B.drop a) e most) := (by omega); have hE := congr (congrArg (fun (q1 : Int) (q2 : Int) => (.live (.box 170 [(Z1h B), dI q1, dI q2]) : HS)) e1) e2; exact Eq.trans (by kernel_rfl) hE)⟩, ⟨⟨rfl, (by have e1 : (((B.take ((rfA B a e 4 (limE most ((B.drop a).take 4))) + (rdC (B.drop a) e most))).drop (rfA B a e 4 (limE most ((B.drop a).take 4)))) : List UInt8) = (rdY (B.drop a) e most) := (by (rw [hy.2.2.2.1, hy.1, hy.2.1]; done)); have hE := congrArg (fun (q1 : List UInt8) => (.live (arrK 5 kU8 q1) : HS)) e1; exact Eq.trans (by kernel_rfl) hE)⟩, trivial⟩⟩
 have hy := rfY_fail hq1
 refine sD [[], [0], [0, 1], [0, 1, 2], [0, 1, 2, 3], [0, 1, 2, 3, 4], [0, 1, 2, 3, 4, 5], [0, 1, 2, 3, 4, 5], [0, 1, 2, 3, 4, 5, 7], [0, 1, 2, 3, 4, 5, 7, 8], [0, 1, 2, 3, 4, 5, 7, 8, 9], [0, 1, 2, 3, 4, 5, 7, 8, 9, 10], [0, 1, 2, 3, 4, 5], [0, 1, 2, 3, 4, 5, 12], [0, 1, 2, 3, 4, 5, 12, 13], [0, 1, 2, 3, 4, 5, 12, 13, 14], [0, 1, 2, 3, 4, 5, 7, 8, 9, 10, 11, 12, 13, 14, 15], [0, 1, 2, 3, 4, 5, 6, 7, 8, 9, 10, 11, 12, 13, 14, 15, 16], [0, 1, 2, 3, 4, 5, 6, 7, 8, 9, 10, 11, 12, 13, 14, 15, 16, 17]] [hN 6 true (dF hq1),
   hN 7 true (dF hq1),
   hN 8 true (dF hq1),
   hN 9 true (dF hq1),
   hN 10 true (dF hq1),
   hN 11 true (dF hq1),
   hN 12 true (dF hq1),
   hN 13 true (dF hq1),
   hN 14 true (dF hq1),
   hN 15 true (dF hq1),
   hN 16 true (dF hq1),
   hN 17 true (dF hq1),
   hP 18 (dF hq1)] ?_
 refine cF (b := false) rfl ?_
 refine T.skip (nT (T.seq ?_))
 refine sR [] ?_
 by_cases hq4 : (rdE (B.drop a) e 4 (limE most ((B.drop a).take 4))) ≠ 0
 ·refine cT (dT hq4) ?_
  refine sR [] ?_
  refine T.ret (rT ?_)
  refine eN ⟨[pv 0 0, vI most, aa, aa, dv (.slice none 0 0), (Z1i a), (Z1j B a e most), aa, aa, aa, aa, aa, aa, aa, aa, aa, aa, aa, aa, aa, aa, aa, aa, aa, aa, aa, aa, aa, aa, aa, aa, aa, aa, vB false, aa, aa, aa, aa, aa, aa, aa, aa, aa, aa, aa, (Z1l B a e most)], [(Z1m B a e most)]⟩ ?_
  refine Ends.turn (s' := ⟨[pv 0 0, vI most, aa, aa, ownV 1 kU8 0 0, (Z1i a), (Z1j B a e most), aa, aa, aa, aa, aa, aa, aa, aa, aa, aa, aa, aa, aa, aa, aa, aa, aa, aa, aa, aa, aa, aa, aa, aa, aa, aa, vB false, aa, aa, aa, aa, aa, aa, aa, aa, aa, aa, aa, (Z1l B a e most)], [(Z1m B a e most), .live (arrK 5 kU8 ([] : List UInt8))]⟩) (fun _ _ hG => Gs.absent 1 4 5 kU8 rfl rfl hG) ?_
  exact eRt 4 (.one (.own 1 kU8.sz 0 0)) [0, 1] (by have e1 : ((rdY (B.drop a) e most).length : Nat) = 0 := (by (rw [hy.1]; rfl)); have hE := congrArg (fun (q1 : Nat) => (ownV 1 kU8 0 q1 : AV)) e1; exact hE) ⟨⟨rfl, (by have e1 : (((rfA B a e 4 (limE most ((B.drop a).take 4)) : Nat) : Int) : Int) = ((rfYA B a e most : Nat) : Int) := (by omega); have e2 : ((rdE (B.drop a) e 4 (limE most ((B.drop a).take 4))) : Int) = (rdYE (B.drop a) e most) := (by omega); have hE := congr (congrArg (fun (q1 : Int) (q2 : Int) => (.live (.box 170 [(Z1h B), dI q1, dI q2]) : HS)) e1) e2; exact Eq.trans (by kernel_rfl) hE)⟩, ⟨⟨rfl, (by have e1 : (([] : List UInt8) : List UInt8) = (rdY (B.drop a) e most) := (by exact hy.1.symm); have hE := congrArg (fun (q1 : List UInt8) => (.live (arrK 5 kU8 q1) : HS)) e1; exact Eq.trans (by kernel_rfl) hE)⟩, trivial⟩⟩
 refine cF (dF hq4) ?_
 refine T.skip (nT ?_)
 refine sD [[], [], [1], [1, 2], [1, 2, 3], [], [5], [5, 6], [5, 6, 7], [], [9], [9, 10], [9, 10, 11], [], [9, 10, 11, 12, 13], [1, 2, 3, 4, 5, 6, 7, 8, 9, 10, 11, 12, 13, 14], [0, 1, 2, 3, 4, 5, 6, 7, 8, 9, 10, 11, 12, 13, 14, 15], [0, 1, 2, 3, 4, 5, 6, 7, 8, 9, 10, 11, 12, 13, 14, 15, 16]] [hR 0 rfl rfl (q_buildSlice 1 5 kU8 kU8_ok ([] : List UInt8) [] (cs := []) Tryz.underlying33 iat_5 rfl zero_5 rfl rfl rfl (Nat.le_of_ble_eq_true rfl) part_ok (by kernel_rfl) (wk_eq (by kernel_rfl)) (lt_of rfl) trivial),
   hR 14 rfl rfl (r_bin (u1 := .int .i64 ((rfA B a e 4 (limE most ((B.drop a).take 4)) : Nat) : Int)) (u2 := .int .i64 ((rdC (B.drop a) e most : Nat) : Int)) (v := .int .i64 (((rfA B a e 4 (limE most ((B.drop a).take 4))) + (rdC (B.drop a) e most) : Nat) : Int)) (b_add (by rw [IntKind.wrap_i64]; omega)) (lt_of rfl) trivial),
   hR 15 rfl rfl (q_slice false false kU8 B ((B.take ((rfA B a e 4 (limE most ((B.drop a).take 4))) + (rdC (B.drop a) e most))).drop (rfA B a e 4 (limE most ((B.drop a).take 4)))) (rfA B a e 4 (limE most ((B.drop a).take 4))) ((rfA B a e 4 (limE most ((B.drop a).take 4))) + (rdC (B.drop a) e most)) (lo := some (.tmp 54, ((rfA B a e 4 (limE most ((B.drop a).take 4)) : Nat) : Int))) (hi := some (.tmp 60, (((rfA B a e 4 (limE most ((B.drop a).take 4))) + (rdC (B.drop a) e most) : Nat) : Int))) Tryz.underlying33 iat_5 rfl rfl rfl rfl rfl (by omega) (by omega) rfl (lt_of rfl) trivial),
   hR 16 rfl rfl (q_appendO 1 2 5 1 kU8 kU8_ok ([] : List UInt8) ((B.take ((rfA B a e 4 (limE most ((B.drop a).take 4))) + (rdC (B.drop a) e most))).drop (rfA B a e 4 (limE most ((B.drop a).take 4)))) ((B.take ((rfA B a e 4 (limE most ((B.drop a).take 4))) + (rdC (B.drop a) e most))).drop (rfA B a e 4 (limE most ((B.drop a).take 4)))) ([] : List UInt8).length (sy := (dU ((B.take ((Z1n B a e most) + (rdC (B.drop a) e most))).drop (Z1n B a e most)))) (rhs := []) elem_33 (by omega) (src_sl false false kU8 ((B.take ((rfA B a e 4 (limE most ((B.drop a).take 4))) + (rdC (B.drop a) e most))).drop (rfA B a e 4 (limE most ((B.drop a).take 4))))) (by simp) (by omega) (by omega) (lt_of rfl) trivial)] ?_
 refine sR [hR 5 rfl rfl (r_bin (u1 := .int .i64 ((rfA B a e 4 (limE most ((B.drop a).take 4)) : Nat) : Int)) (u2 := .int .i64 ((rdC (B.drop a) e most : Nat) : Int)) (v := .int .i64 (((rfA B a e 4 (limE most ((B.drop a).take 4))) + (rdC (B.drop a) e most) : Nat) : Int)) (b_add (by rw [IntKind.wrap_i64]; omega)) (lt_of rfl) trivial)] ?_
 refine sR [] ?_
 refine T.ret ?_
 exact eRt 4 (.one (.own 2 kU8.sz 0 ((B.take ((Z1n B a e most) + (rdC (B.drop a) e most))).drop (Z1n B a e most)).length)) [0, 2] (congrArg (fun (q1 : Nat) => (ownV 2 kU8 0 q1 : AV)) (by omega)) ⟨⟨rfl, (by have e1 : ((((rfA B a e 4 (limE most ((B.drop a).take 4))) + (rdC (B.drop a) e most) : Nat) : Int) : Int) = ((rfYA B a e most : Nat) : Int) := (by omega); have e2 : ((rdE (B.drop a) e 4 (limE most ((B.drop a).take 4))) : Int) = (rdYE (B.drop a) e most) := (by omega); have hE := congr (congrArg (fun (q1 : Int) (q2 : Int) => (.live (.box 170 [(Z1h B), dI q1, dI q2]) : HS)) e1) e2; exact Eq.trans (by kernel_rfl) hE)⟩, ⟨⟨rfl, (by have e1 : (((B.take ((rfA B a e 4 (limE most ((B.drop a).take 4))) + (rdC (B.drop a) e most))).drop (rfA B a e 4 (limE most ((B.drop a).take 4)))) : List UInt8) = (rdY (B.drop a) e most) := (by omega); have hE := congrArg (fun (q1 : List UInt8) => (.live (arrK 5 kU8 q1) : HS)) e1; exact Eq.trans (by kernel_rfl) hE)⟩, trivial⟩⟩
section
variable (t : UInt8) (tl : Bool) (nl : Bool) (sl_ : Bool) (l : List (List UInt8)) (k : Nat) (k2 : Nat)
abbrev Z1o : AV := dv (.int .u8 ((t.toNat : Nat) : Int))
abbrev Z1p : AV := slV tl nl (kSl sl_ kU8) l
abbrev Z1q : AV := vI ((l.length : Nat) : Int)
abbrev Z1r : St := ⟨[(Z1o t), (Z1p tl nl sl_ l), aa, aa, dv (strV []), vI ((szP (l.take k) : Nat) : Int), aa, aa, aa, aa, aa, (Z1p tl nl sl_ l), (Z1q l), vI ((k : Nat) : Int)], []⟩
abbrev Z1t : AV := vI ((k + 1 : Nat) : Int)
abbrev Z1v : St := ⟨[(Z1o t), (Z1p tl nl sl_ l), aa, aa, aa, aa, aa, aa, ownV 0 kU8 0 (ofR t l.length (l.take k2)).length, aa, aa, (Z1p tl nl sl_ l), (Z1q l), aa, aa, aa, aa, aa, aa, aa, aa, aa, aa, aa, aa, aa, aa, aa, aa, aa, aa, aa, (Z1p tl nl sl_ l), (Z1q l), vI ((k2 : Nat) : Int)], [.live (arrK 5 kU8 (ofR t l.length (l.take k2)))]⟩
abbrev Z1w : AV := vI ((k2 + 1 : Nat) : Int)
end
theorem term_Of (t : UInt8) (tl : Bool) (nl : Bool) (sl_ : Bool) (l : List (List UInt8)) (hs : szP l ≤ 140737488354000) : Holds Tryz.prog 102 ⟨[dv (.int .u8 ((t.toNat : Nat) : Int)), slV tl nl (kSl sl_ kU8) l], [], dv (strV (ofB t l)), []⟩ := by
 refine Holds.of Tryz.func102 rfl (N := 44) Tryz.ntmps102 rfl fun w0 B0 S0 U0 => ?_
 show T _ (mkBase 44 0 w0 S0 U0 B0) ⟨[(Z1o t), (Z1p tl nl sl_ l)], []⟩ _ _
 have hcn := szP_count l
 have hcl := cnt_len ((l.length : Nat) : Int)
 have hall := ofB_len t l
 refine sR [] ?_
 refine sR [] ?_
 refine T.seq ?_
 refine sR [] ?_
 refine T.block ?_
 refine T.loop (ι := Nat) (fun (k : Nat) => (Z1r t tl nl sl_ l k)) (fun (k : Nat) => (k ≤ l.length)) (fun (k : Nat) => l.length - k) (0) (Nat.zero_le _) (fun _ _ hG => Gs.iI [] (bm 14 14387) (t2 := [(Z1o t), (Z1p tl nl sl_ l), aa, aa, dv (strV []), vI 5, aa, aa, aa, aa, aa, (Z1p tl nl sl_ l), (Z1q l), vI 0]) (congrArg (fun (q1 : Int) => ([(Z1o t), (Z1p tl nl sl_ l), aa, aa, dv (strV []), vI q1, aa, aa, aa, aa, aa, (Z1p tl nl sl_ l), (Z1q l), vI 0] : List AV)) (by rfl)) rfl hG) ?_
 rintro k hk
 show T _ _ (Z1r t tl nl sl_ l k) _ _
 replace hk : k ≤ l.length := hk
 have hsz0 := szP_take l k
 refine sR [] ?_
 refine T.seq ?_
 by_cases hq1 : ((k : Nat) : Int) < ((l.length : Nat) : Int)
 ·have hkl : k < l.length := (by omega); have hsk := szP_succ hkl; have hst := szP_take l (k + 1)
  refine cT (dT hq1) ?_
  refine T.skip (nT (T.seq ?_))
  refine T.block ?_
  refine sR [hR 0 rfl rfl (q_index tl nl (kSl sl_ kU8) l k (k := .i64) (i := ((k : Nat) : Int)) Tryz.underlying79 iat_33 rfl rfl ‹_› (lt_of rfl) trivial)] ?_
  refine xR [hR 3 rfl rfl (r_bin (u1 := .int .i64 4) (u2 := .int .i64 (((l.getD k []).length : Nat) : Int)) (v := .int .i64 ((4 + (l.getD k []).length : Nat) : Int)) (b_add (by rw [IntKind.wrap_i64]; omega)) (lt_of rfl) ⟨rfl, trivial⟩),
    hR 4 rfl rfl (r_bin (u1 := .int .i64 ((szP (l.take k) : Nat) : Int)) (u2 := .int .i64 ((4 + (l.getD k []).length : Nat) : Int)) (v := .int .i64 (((szP (l.take k)) + (4 + (l.getD k []).length) : Nat) : Int)) (b_add (by rw [IntKind.wrap_i64]; omega)) (lt_of rfl) trivial)] (by kernel_rfl) (by kernel_rfl) ?_
  refine nB ?_
  refine nT ?_
  refine xK [hR 0 rfl rfl (r_bin (u1 := .int .i64 ((k : Nat) : Int)) (u2 := .int .i64 1) (v := .int .i64 ((k + 1 : Nat) : Int)) (b_add (by rw [IntKind.wrap_i64]; omega)) (lt_of rfl) ⟨rfl, trivial⟩)] ?_
  refine nL (k + 1) (show (k + 1) ≤ l.length from (by omega)) (show (l.length - (k + 1) : Nat) < l.length - k from (by omega)) (fun _ _ hG => Gs.iI [] (bm 14 14387) (t2 := [(Z1o t), (Z1p tl nl sl_ l), aa, aa, dv (strV []), vI (((szP (l.take k)) + (4 + (l.getD k []).length) : Nat) : Int), aa, aa, aa, aa, aa, (Z1p tl nl sl_ l), (Z1q l), (Z1t k)]) (by have e1 : (((szP (l.take (k + 1)) : Nat) : Int) : Int) = (((szP (l.take k)) + (4 + (l.getD k []).length) : Nat) : Int) := (by (rw [szP_succ hkl])); have hE := congrArg (fun (q1 : Int) => ([(Z1o t), (Z1p tl nl sl_ l), aa, aa, dv (strV []), vI q1, aa, aa, aa, aa, aa, (Z1p tl nl sl_ l), (Z1q l), (Z1t k)] : List AV)) e1; exact hE) rfl hG)
 refine cF (dF hq1) ?_
 refine T.exit ?_
 refine xT ?_
 refine xT ?_
 refine xH ?_
 refine nT ?_
 refine sR [hR 1 rfl rfl (q_make 0 5 1 kU8 ([] : List UInt8) 0 (szP (l.take k)) (p := 0) (q := ((szP (l.take k) : Nat) : Int)) elem_33 zero_5 rfl rfl (by omega) (by omega) (by (unfold maxLen; omega)) (by intro j hj; replace hj : j < 1 := hj; rcases j with _ | j <;> first | rfl | omega) (by simp) (lt_of rfl) ⟨rfl, trivial⟩),
   hR 3 rfl rfl (q_buildSlice 1 5 kU8 kU8_ok [t] [⟨0, .tmp 25, .one (.d (.val (.int .u8 ((t.toNat : Nat) : Int)))), 0⟩] (cs := [.d (.val (.int .u8 ((t.toNat : Nat) : Int)))]) Tryz.underlying33 iat_5 rfl zero_5 rfl rfl rfl (Nat.le_of_ble_eq_true rfl) (part_cons rfl rfl (Nat.le_of_ble_eq_true rfl) part_ok) (by kernel_rfl) (wk_eq (by kernel_rfl)) (lt_of rfl) trivial),
   hR 4 rfl rfl (q_appendO 0 2 5 1 kU8 kU8_ok ([] : List UInt8) [t] [t] ([] : List UInt8).length (sy := (.own 1 kU8.sz 0 [t].length)) (rhs := [(1, .live (arrK 5 kU8 [t]))]) elem_33 (by omega) (src_own 1 5 kU8 [t]) (by simp) (by (simp [maxLen, -List.getD_eq_getElem?_getD] <;> omega)) (by (simp [maxLen, -List.getD_eq_getElem?_getD] <;> omega)) (lt_of rfl) trivial)] ?_
 refine sR [hR 3 rfl rfl (r_call (wire_PutCount true false [t] ((l.length : Nat) : Int) (by (simp [maxLen, -List.getD_eq_getElem?_getD] <;> omega))) Tryz.func122 rfl (by decide) [3] [2] (l := [(.tmp 28, ownV 2 kU8 0 [t].length), (.tmp 30, (Z1q l))]) [(2, .live (arrK 5 kU8 [t]))] rfl 0 1 rfl rfl rfl rfl rfl rfl rfl rfl rfl ⟨.inr (.inl ⟨rfl, (fun h => by cases h), rfl, rfl, by simp, 5, [t].length, elOf kU8 [t], List.Mem.head _, (by exact Nat.le_of_eq (Nat.zero_add _)), fun i j => by rw [Nat.zero_add]⟩), ⟨.inl ⟨rfl, rfl⟩, trivial⟩⟩ rfl (by intro b hb; simp only [List.mem_cons, List.not_mem_nil, or_false] at hb; rcases hb with rfl; exact ⟨_, List.Mem.head _⟩) (.inr ⟨trivial, (And.intro (arr_nt kU8_nt) trivial)⟩) (lt_of rfl) trivial)] ?_
 refine T.seq ?_
 refine sR [] ?_
 refine T.block ?_
 refine T.loop (ι := Nat) (fun (k2 : Nat) => (Z1v t tl nl sl_ l k2)) (fun (k2 : Nat) => (k2 ≤ l.length)) (fun (k2 : Nat) => l.length - k2) (0) (Nat.zero_le _) (fun _ _ hG => Gs.i2 [3] (bm 35 30064777475) (t1 := [(Z1o t), (Z1p tl nl sl_ l), aa, aa, aa, aa, aa, aa, ownV 3 kU8 0 (ofR t l.length (l.take 0)).length, aa, aa, (Z1p tl nl sl_ l), (Z1q l), aa, aa, aa, aa, aa, aa, aa, aa, aa, aa, aa, aa, aa, aa, aa, aa, aa, aa, aa, (Z1p tl nl sl_ l), (Z1q l), vI 0]) (t2 := [(Z1o t), (Z1p tl nl sl_ l), aa, aa, aa, aa, aa, aa, ownV 3 kU8 0 ([t] ++ cntB ((l.length : Nat) : Int)).length, aa, aa, (Z1p tl nl sl_ l), (Z1q l), aa, aa, aa, aa, aa, aa, aa, aa, aa, aa, aa, aa, aa, aa, aa, aa, aa, aa, aa, (Z1p tl nl sl_ l), (Z1q l), vI 0]) (h1 := [.live (arrK 5 kU8 (ofR t l.length (l.take 0)))]) (h2 := [.live (arrK 5 kU8 ([t] ++ cntB ((l.length : Nat) : Int)))]) (congrArg (fun (q1 : Nat) => ([(Z1o t), (Z1p tl nl sl_ l), aa, aa, aa, aa, aa, aa, ownV 3 kU8 0 q1, aa, aa, (Z1p tl nl sl_ l), (Z1q l), aa, aa, aa, aa, aa, aa, aa, aa, aa, aa, aa, aa, aa, aa, aa, aa, aa, aa, aa, (Z1p tl nl sl_ l), (Z1q l), vI 0] : List AV)) (by rfl)) (congrArg (fun (q1 : List UInt8) => ([.live (arrK 5 kU8 q1)] : List HS)) (by rfl)) hG) ?_
 rintro k2 hk2
 show T _ _ (Z1v t tl nl sl_ l k2) _ _
 replace hk2 : k2 ≤ l.length := hk2
 have hol := ofR_len t l.length (l.take k2)
 have hsz0 := szP_take l k2
 refine sR [] ?_
 refine T.seq ?_
 by_cases hq2 : ((k2 : Nat) : Int) < ((l.length : Nat) : Int)
 ·have hkl : k2 < l.length := (by omega); have hsk := szP_succ hkl; have hst := szP_take l (k2 + 1)
  refine cT (dT hq2) ?_
  refine T.skip (nT (T.seq ?_))
  refine T.block ?_
  refine sR [hR 0 rfl rfl (q_index tl nl (kSl sl_ kU8) l k2 (k := .i64) (i := ((k2 : Nat) : Int)) Tryz.underlying79 iat_33 rfl rfl ‹_› (lt_of rfl) trivial)] ?_
  refine xK [hR 2 rfl rfl (r_call (wire_PutBytes true false (ofR t l.length (l.take k2)) sl_ false (l.getD k2 []) (by omega)) Tryz.func120 rfl (by decide) [1] [0] (l := [(.tmp 38, ownV 0 kU8 0 (ofR t l.length (l.take k2)).length), (.tmp 39, slV sl_ false kU8 (l.getD k2 []))]) [(0, .live (arrK 5 kU8 (ofR t l.length (l.take k2))))] rfl 0 1 rfl rfl rfl rfl rfl rfl rfl rfl rfl ⟨.inr (.inl ⟨rfl, (fun h => by cases h), rfl, rfl, by simp, 5, (ofR t l.length (l.take k2)).length, elOf kU8 (ofR t l.length (l.take k2)), List.Mem.head _, (by exact Nat.le_of_eq (Nat.zero_add _)), fun i j => by rw [Nat.zero_add]⟩), ⟨.inl ⟨rfl, rfl⟩, trivial⟩⟩ rfl (by intro b hb; simp only [List.mem_cons, List.not_mem_nil, or_false] at hb; rcases hb with rfl; exact ⟨_, List.Mem.head _⟩) (.inr ⟨trivial, (And.intro (arr_nt kU8_nt) trivial)⟩) (lt_of rfl) trivial)] ?_
  refine nB ?_
  refine nT ?_
  refine xK [hR 0 rfl rfl (r_bin (u1 := .int .i64 ((k2 : Nat) : Int)) (u2 := .int .i64 1) (v := .int .i64 ((k2 + 1 : Nat) : Int)) (b_add (by rw [IntKind.wrap_i64]; omega)) (lt_of rfl) ⟨rfl, trivial⟩)] ?_
  refine nL (k2 + 1) (show (k2 + 1) ≤ l.length from (by omega)) (show (l.length - (k2 + 1) : Nat) < l.length - k2 from (by omega)) (fun _ _ hG => Gs.i2 [1] (bm 35 30064777475) (t1 := [(Z1o t), (Z1p tl nl sl_ l), aa, aa, aa, aa, aa, aa, ownV 1 kU8 0 (ofR t l.length (l.take (k2 + 1))).length, aa, aa, (Z1p tl nl sl_ l), (Z1q l), aa, aa, aa, aa, aa, aa, aa, aa, aa, aa, aa, aa, aa, aa, aa, aa, aa, aa, aa, (Z1p tl nl sl_ l), (Z1q l), (Z1w k2)]) (t2 := [(Z1o t), (Z1p tl nl sl_ l), aa, aa, aa, aa, aa, aa, ownV 1 kU8 0 ((ofR t l.length (l.take k2)) ++ bytesB (l.getD k2 [])).length, aa, aa, (Z1p tl nl sl_ l), (Z1q l), aa, aa, aa, aa, aa, aa, aa, aa, aa, aa, aa, aa, aa, aa, aa, aa, aa, aa, aa, (Z1p tl nl sl_ l), (Z1q l), (Z1w k2)]) (h1 := [.live (arrK 5 kU8 (ofR t l.length (l.take (k2 + 1))))]) (h2 := [.live (arrK 5 kU8 ((ofR t l.length (l.take k2)) ++ bytesB (l.getD k2 [])))]) (by have e1 : ((ofR t l.length (l.take (k2 + 1))).length : Nat) = ((ofR t l.length (l.take k2)) ++ bytesB (l.getD k2 [])).length := (by (rw [ofR_succ hkl])); have hE := congrArg (fun (q1 : Nat) => ([(Z1o t), (Z1p tl nl sl_ l), aa, aa, aa, aa, aa, aa, ownV 1 kU8 0 q1, aa, aa, (Z1p tl nl sl_ l), (Z1q l), aa, aa, aa, aa, aa, aa, aa, aa, aa, aa, aa, aa, aa, aa, aa, aa, aa, aa, aa, (Z1p tl nl sl_ l), (Z1q l), (Z1w k2)] : List AV)) e1; exact hE) (by have e1 : ((ofR t l.length (l.take (k2 + 1))) : List UInt8) = (ofR t l.length (l.take k2)) ++ bytesB (l.getD k2 []) := (by (rw [ofR_succ hkl])); have hE := congrArg (fun (q1 : List UInt8) => ([.live (arrK 5 kU8 q1)] : List HS)) e1; exact hE) hG)
 refine cF (dF hq2) ?_
 refine T.exit ?_
 refine xT ?_
 refine xT ?_
 refine xH ?_
 refine nT ?_
 refine sR [hR 1 rfl rfl (q_strOf () (ofR t l.length (l.take k2)) (ys := (.own 0 kU8.sz 0 (ofR t l.length (l.take k2)).length)) (rhs := [(0, .live (arrK 5 kU8 (ofR t l.length (l.take k2))))]) Tryz.underlying33 Tryz.underlying5 Tryz.underlying40 (src_own 0 5 kU8 (ofR t l.length (l.take k2))) (lt_of rfl) trivial)] ?_
 refine T.ret ?_
 exact eRt 4 (.one (dS (ofR t l.length (l.take k2)))) [] (by have e1 : ((ofB t l) : List UInt8) = (ofR t l.length (l.take k2)) := (by (have hke : k2 = l.length := (by omega); rw [hke, ofR_all])); have hE := congrArg (fun (q1 : List UInt8) => (dv (strV q1) : AV)) e1; exact hE) trivial
abbrev Z1x (t : UInt8) : AV := dv (.int .u8 ((t.toNat : Nat) : Int))
abbrev Z1y (t : UInt8) (l : List (List UInt8)) (k : Nat) := (ofR t l.length (l.take k))
abbrev Z1z (k : Nat) : AV := vI ((k + 1 : Nat) : Int)
theorem ref02_Of (t : UInt8) (tl : Bool) (nl : Bool) (sl_ : Bool) (l : List (List UInt8)) (hs : szP l ≤ 140737488354000) : Holds Tryz.prog 34 ⟨[dv (.int .u8 ((t.toNat : Nat) : Int)), slV tl nl (kSl sl_ kU8) l], [], dv (strV (ofB t l)), []⟩ := by
 refine Holds.of Tryz.func34 rfl (N := 26) Tryz.ntmps34 rfl fun w0 B0 S0 U0 => ?_
 show T _ (mkBase 26 0 w0 S0 U0 B0) ⟨[(Z1x t), slV tl nl (kSl sl_ kU8) l], []⟩ _ _
 have hcn := szP_count l
 have hcl := cnt_len ((l.length : Nat) : Int)
 have hall := ofB_len t l
 refine sR [] ?_
 refine sR [hR 1 rfl rfl (q_buildSlice 0 5 kU8 kU8_ok [t] [⟨0, .tmp 7, .one (.d (.val (.int .u8 ((t.toNat : Nat) : Int)))), 0⟩] (cs := [.d (.val (.int .u8 ((t.toNat : Nat) : Int)))]) Tryz.underlying33 iat_5 rfl zero_5 rfl rfl rfl (Nat.le_of_ble_eq_true rfl) (part_cons rfl rfl (Nat.le_of_ble_eq_true rfl) part_ok) (by kernel_rfl) (wk_eq (by kernel_rfl)) (lt_of rfl) trivial),
   hR 4 rfl rfl (r_call (ref01_Count true false [t] ((l.length : Nat) : Int) (by (simp [maxLen, -List.getD_eq_getElem?_getD] <;> omega))) Tryz.func48 rfl (by decide) [1] [0] (l := [(.tmp 8, ownV 0 kU8 0 [t].length), (.tmp 10, vI ((l.length : Nat) : Int))]) [(0, .live (arrK 5 kU8 [t]))] rfl 0 1 rfl rfl rfl rfl rfl rfl rfl rfl rfl ⟨.inr (.inl ⟨rfl, (fun h => by cases h), rfl, rfl, by simp, 5, [t].length, elOf kU8 [t], List.Mem.head _, (by exact Nat.le_of_eq (Nat.zero_add _)), fun i j => by rw [Nat.zero_add]⟩), ⟨.inl ⟨rfl, rfl⟩, trivial⟩⟩ rfl (by intro b hb; simp only [List.mem_cons, List.not_mem_nil, or_false] at hb; rcases hb with rfl; exact ⟨_, List.Mem.head _⟩) (.inr ⟨trivial, (And.intro (arr_nt kU8_nt) trivial)⟩) (lt_of rfl) trivial)] ?_
 refine T.seq ?_
 refine sR [] ?_
 refine T.block ?_
 refine T.loop (ι := Nat) (fun (k : Nat) => ⟨[(Z1x t), slV tl nl (kSl sl_ kU8) l, aa, aa, aa, ownV 0 kU8 0 (Z1y t l k).length, vI ((k : Nat) : Int)], [.live (arrK 5 kU8 (Z1y t l k))]⟩) (fun (k : Nat) => (k ≤ l.length)) (fun (k : Nat) => l.length - k) (0) (Nat.zero_le _) (fun _ _ hG => Gs.i2 [1] (bm 7 99) (t1 := [(Z1x t), slV tl nl (kSl sl_ kU8) l, aa, aa, aa, ownV 1 kU8 0 (ofR t l.length (l.take 0)).length, vI 0]) (t2 := [(Z1x t), slV tl nl (kSl sl_ kU8) l, aa, aa, aa, ownV 1 kU8 0 ([t] ++ cntB ((l.length : Nat) : Int)).length, vI 0]) (h1 := [.live (arrK 5 kU8 (ofR t l.length (l.take 0)))]) (h2 := [.live (arrK 5 kU8 ([t] ++ cntB ((l.length : Nat) : Int)))]) (congrArg (fun (q1 : Nat) => ([(Z1x t), slV tl nl (kSl sl_ kU8) l, aa, aa, aa, ownV 1 kU8 0 q1, vI 0] : List AV)) (by rfl)) (congrArg (fun (q1 : List UInt8) => ([.live (arrK 5 kU8 q1)] : List HS)) (by rfl)) hG) ?_
 rintro k hk
 show T _ _ ⟨[(Z1x t), slV tl nl (kSl sl_ kU8) l, aa, aa, aa, ownV 0 kU8 0 (Z1y t l k).length, vI ((k : Nat) : Int)], [.live (arrK 5 kU8 (Z1y t l k))]⟩ _ _
 replace hk : k ≤ l.length := hk
 have hol := ofR_len t l.length (l.take k)
 have hsz0 := szP_take l k
 refine T.seq ?_
 refine sR [] ?_
 by_cases hq1 : ((k : Nat) : Int) < ((l.length : Nat) : Int)
 ·have hkl : k < l.length := (by omega); have hsk := szP_succ hkl; have hst := szP_take l (k + 1)
  refine cT (dT hq1) ?_
  refine T.skip (nT (T.seq ?_))
  refine T.block ?_
  refine xR [hR 3 rfl rfl (q_index tl nl (kSl sl_ kU8) l k (k := .i64) (i := ((k : Nat) : Int)) Tryz.underlying79 iat_33 rfl rfl ‹_› (lt_of rfl) trivial),
    hR 5 rfl rfl (r_call (ref01_Bytes true false (ofR t l.length (l.take k)) sl_ false (l.getD k []) (by omega)) Tryz.func46 rfl (by decide) [1] [0] (l := [(.tmp 18, ownV 0 kU8 0 (Z1y t l k).length), (.tmp 22, slV sl_ false kU8 (l.getD k []))]) [(0, .live (arrK 5 kU8 (Z1y t l k)))] rfl 0 1 rfl rfl rfl rfl rfl rfl rfl rfl rfl ⟨.inr (.inl ⟨rfl, (fun h => by cases h), rfl, rfl, by simp, 5, (ofR t l.length (l.take k)).length, elOf kU8 (ofR t l.length (l.take k)), List.Mem.head _, (by exact Nat.le_of_eq (Nat.zero_add _)), fun i j => by rw [Nat.zero_add]⟩), ⟨.inl ⟨rfl, rfl⟩, trivial⟩⟩ rfl (by intro b hb; simp only [List.mem_cons, List.not_mem_nil, or_false] at hb; rcases hb with rfl; exact ⟨_, List.Mem.head _⟩) (.inr ⟨trivial, (And.intro (arr_nt kU8_nt) trivial)⟩) (lt_of rfl) trivial)] (by kernel_rfl) (by kernel_rfl) ?_
  refine nB ?_
  refine nT ?_
  refine xK [hR 1 rfl rfl (r_bin (u1 := .int .i64 ((k : Nat) : Int)) (u2 := .int .i64 1) (v := .int .i64 ((k + 1 : Nat) : Int)) (b_add (by rw [IntKind.wrap_i64]; omega)) (lt_of rfl) ⟨rfl, trivial⟩)] ?_
  refine nL (k + 1) (show (k + 1) ≤ l.length from (by omega)) (show (l.length - (k + 1) : Nat) < l.length - k from (by omega)) (fun _ _ hG => Gs.i2 [1] (bm 7 99) (t1 := [(Z1x t), slV tl nl (kSl sl_ kU8) l, aa, aa, aa, ownV 1 kU8 0 (ofR t l.length (l.take (k + 1))).length, (Z1z k)]) (t2 := [(Z1x t), slV tl nl (kSl sl_ kU8) l, aa, aa, aa, ownV 1 kU8 0 ((Z1y t l k) ++ bytesB (l.getD k [])).length, (Z1z k)]) (h1 := [.live (arrK 5 kU8 (ofR t l.length (l.take (k + 1))))]) (h2 := [.live (arrK 5 kU8 ((Z1y t l k) ++ bytesB (l.getD k [])))]) (by have e1 : ((ofR t l.length (l.take (k + 1))).length : Nat) = ((ofR t l.length (l.take k)) ++ bytesB (l.getD k [])).length := (by (rw [ofR_succ hkl])); have hE := congrArg (fun (q1 : Nat) => ([(Z1x t), slV tl nl (kSl sl_ kU8) l, aa, aa, aa, ownV 1 kU8 0 q1, (Z1z k)] : List AV)) e1; exact hE) (by have e1 : ((ofR t l.length (l.take (k + 1))) : List UInt8) = (ofR t l.length (l.take k)) ++ bytesB (l.getD k []) := (by (rw [ofR_succ hkl])); have hE := congrArg (fun (q1 : List UInt8) => ([.live (arrK 5 kU8 q1)] : List HS)) e1; exact hE) hG)
 refine cF (dF hq1) ?_
 refine T.exit ?_
 refine xT ?_
 refine xT ?_
 refine xH ?_
 refine nT ?_
 refine sR [hR 1 rfl rfl (q_strOf () (ofR t l.length (l.take k)) (ys := (.own 0 kU8.sz 0 (Z1y t l k).length)) (rhs := [(0, .live (arrK 5 kU8 (Z1y t l k)))]) Tryz.underlying33 Tryz.underlying5 Tryz.underlying40 (src_own 0 5 kU8 (ofR t l.length (l.take k))) (lt_of rfl) trivial)] ?_
 refine T.ret ?_
 exact eRt 4 (.one (dS (Z1y t l k))) [] (by have e1 : ((ofB t l) : List UInt8) = (ofR t l.length (l.take k)) := (by (have hke : k = l.length := (by omega); rw [hke, ofR_all])); have hE := congrArg (fun (q1 : List UInt8) => (dv (strV q1) : AV)) e1; exact hE) trivial
end Go.Proofs.YtalapplihdmenaaGreat.Q
