import Derived.Test.YtalapplihdmenaaGreatC13n11
namespace Go.Proofs.YtalapplihdmenaaGreat.Q
open Go Go.RowKit
set_option linter.unusedVariables false
set_option linter.unusedSimpArgs false
set_option maxRecDepth 100000
set_option maxHeartbeats 4000000
theorem iat_46 : Tryz.prog.info? 46 = some Tryz.t46 := by kernel_rfl
theorem wide_46 : Wide Tryz.prog 46 (some 12) := ⟨_, _, Tryz.underlying46, .inl ⟨_, rfl⟩, iat_46, rfl⟩
section
variable (tm : Bool) (m : aM)
abbrev Z3z : AV := .tv (.agg [dI m.f_Kind, dI m.f_View, dI m.f_Seq, dI m.f_Client, dI m.f_Stamp, dS m.f_Digest, .d (dsl tm false kU8 m.f_Data), dI m.f_Result.f_Code, dI m.f_Result.f_Stage, .d (dsl tm false (kE tm) m.f_Batch), .d (dsl tm false (kE tm) m.f_Pres), .d (dsl tm false (kC tm) m.f_Certs)])
abbrev Z40 : AV := vB (hasM m.f_Kind).f_View
abbrev Z41 : AV := vI (fstV m.f_Kind)
abbrev Z42 : TV := .one (dI 120)
abbrev Z43 : AV := .tv (.agg [dB (hasM m.f_Kind).f_View, dB (hasM m.f_Kind).f_Seq, dB (hasM m.f_Kind).f_Client, dB (hasM m.f_Kind).f_Digest, dB (hasM m.f_Kind).f_Data, dB (hasM m.f_Kind).f_Result, dB (hasM m.f_Kind).f_Batch, dB (hasM m.f_Kind).f_Pres, dB (hasM m.f_Kind).f_Certs])
abbrev Z44 : TV := .one (dI 0)
abbrev Z45 : AV := .tv (.agg [dI m.f_Result.f_Code, dI m.f_Result.f_Stage])
abbrev Z46 : AV := .tv (.agg [dI 0, dI 0])
abbrev Z47 : AV := vB (decide (m.f_Result ≠ (api_Result.mk 0 0)))
abbrev Z48 : AV := vB (decide (((m.f_Data.length : Nat) : Int) > 0))
end
theorem ref12_Check (tm : Bool) (m : aM) (hq : m.f_Batch.length ≤ 9223372036854775807) (hr : m.f_Pres.length ≤ 9223372036854775807) (hc : m.f_Certs.length ≤ 9223372036854775807) (hd : m.f_Data.length ≤ 9223372036854775807) (hg : m.f_Digest.length ≤ 9223372036854775807) : Holds Tryz.prog 43 ⟨[.tv (.agg [dI m.f_Kind, dI m.f_View, dI m.f_Seq, dI m.f_Client, dI m.f_Stamp, dS m.f_Digest, .d (dsl tm false kU8 m.f_Data), dI m.f_Result.f_Code, dI m.f_Result.f_Stage, .d (dsl tm false (kE tm) m.f_Batch), .d (dsl tm false (kE tm) m.f_Pres), .d (dsl tm false (kC tm) m.f_Certs)])], [], vI (chkM m), []⟩ := by
 refine Holds.of Tryz.func43 rfl (N := 100) Tryz.ntmps43 rfl fun w0 B0 S0 U0 => ?_
 show T _ (mkBase 100 0 w0 S0 U0 B0) ⟨[(Z3z tm m)], []⟩ _ _
 refine sR [] ?_
 refine sR [hR 2 rfl rfl (rCa (ref12_fields m.f_Kind ) Tryz.func44 [] [(.tmp 9, vI m.f_Kind)] 0 0)] ?_
 refine sR [hR 2 rfl rfl (rCa (ref12_firsts m.f_Kind ) Tryz.func63 [] [(.tmp 15, vI m.f_Kind)] 0 0)] ?_
 refine T.seq ?_
 by_cases hq1 : okK m.f_Kind
 ·by_cases hq2 : numM m.f_View (hasM m.f_Kind).f_View (fstV m.f_Kind)
  ·by_cases hq3 : numM m.f_Seq (hasM m.f_Kind).f_Seq (fstS m.f_Kind)
   ·by_cases hq4 : numM m.f_Client (hasM m.f_Kind).f_Client 0
    ·refine sR [hY 3 (cn (dT hq1)),
       hY 4 (cn (dT hq1)),
       hY 5 (cn (dT hq1)),
       hY 6 (cn (dT hq1)),
       hY 7 (cn (dT hq1)),
       hS 8 (oY rfl rfl rfl rfl (lt_of rfl) (cn (dT hq1)) (rCa (ref12_number m.f_View (hasM m.f_Kind).f_View (fstV m.f_Kind) ) Tryz.func64 [] [(.tmp 23, vI m.f_View), (.tmp 25, (Z40 m)), (.tmp 26, (Z41 m))] 0 0)),
       hY 9 (cn (dT hq1)),
       hP 10 (cn (dT hq1)),
       hY 12 (cn (dT hq2)),
       hY 13 (cn (dT hq2)),
       hY 14 (cn (dT hq2)),
       hY 15 (cn (dT hq2)),
       hY 16 (cn (dT hq2)),
       hS 17 (oY rfl rfl rfl rfl (lt_of rfl) (cn (dT hq2)) (rCa (ref12_number m.f_Seq (hasM m.f_Kind).f_Seq (fstS m.f_Kind) ) Tryz.func64 [] [(.tmp 32, vI m.f_Seq), (.tmp 34, vB (hasM m.f_Kind).f_Seq), (.tmp 35, vI (fstS m.f_Kind))] 0 0)),
       hY 18 (cn (dT hq2)),
       hP 19 (cn (dT hq2)),
       hY 21 (cn (dT hq3)),
       hY 22 (cn (dT hq3)),
       hY 23 (cn (dT hq3)),
       hY 24 (cn (dT hq3)),
       hS 25 (oY rfl rfl rfl rfl (lt_of rfl) (cn (dT hq3)) (rCa (ref12_number m.f_Client (hasM m.f_Kind).f_Client 0 ) Tryz.func64 [] [(.tmp 41, vI m.f_Client), (.tmp 43, vB (hasM m.f_Kind).f_Client), (.const (.int .i64 0), vI 0)] 0 0)),
       hY 26 (cn (dT hq3)),
       hP 27 (cn (dT hq3)),
       hY 29 (cn (dT hq4)),
       hY 30 (cn (dT hq4)),
       hY 31 (cn (dT hq4)),
       hY 32 (cn (dT hq4)),
       hS 33 (oY rfl rfl rfl rfl (lt_of rfl) (cn (dT hq4)) (rCa (ref12_number m.f_Stamp (hasM m.f_Kind).f_Client 1 ) Tryz.func64 [] [(.tmp 49, vI m.f_Stamp), (.tmp 51, vB (hasM m.f_Kind).f_Client), (.const (.int .i64 1), vI 1)] 0 0)),
       hY 34 (cn (dT hq4)),
       hP 35 (cn (dT hq4))] ?_
     by_cases hq5 : numM m.f_Stamp (hasM m.f_Kind).f_Client 1
     ·refine cF (cn (dT hq5)) ?_
      refine T.skip (nT (T.seq ?_))
      by_cases hq6 : m.f_Kind = 1
      ·refine sR [hY 4 (dT hq6),
         hY 5 (dT hq6),
         hY 6 (dT hq6),
         hY 7 (dT hq6),
         hP 8 (dT hq6)] ?_
       by_cases hq7 : ((m.f_Data.length : Nat) : Int) > 4096
       ·refine cT (dT hq7) ?_
        refine sR [] ?_
        refine T.ret (rT ?_)
        exact eRt 2 (Z42) [] (cI (by exact if_neg (fun h9 => by obtain ⟨q1, q2, q3, q4, q5, q6, q7, q8, q9, q10⟩ := (well_iff m).1 h9; exact q6 ⟨by assumption, by assumption⟩))) trivial
       refine cF (dF hq7) ?_
       refine T.skip (nT (T.seq ?_))
       by_cases hq8 : (hasM m.f_Kind).f_Digest = true
       ·by_cases hq9 : (hasM m.f_Kind).f_Data = true
        ·by_cases hq10 : (hasM m.f_Kind).f_Result = true
         ·refine sR [hN 4 true (cn hq8),
            hN 5 true (cn hq8),
            hN 6 true (cn hq8),
            hP 7 (cn hq8),
            hY0 9,
            hY0 10,
            hY0 11,
            hY0 12,
            hN 13 true (cn hq9),
            hN 14 true (cn hq9),
            hN 15 true (cn hq9),
            hN 16 true (cn hq9),
            hS 17 (oY (b := false) rfl rfl rfl rfl (lt_of rfl) rfl (r_pickF (b := (!(hasM m.f_Kind).f_Data)) (av := vB false) (lt_of rfl) ⟨rfl, trivial⟩ (cn hq9))),
            hP0 18,
            hY0 20,
            hY0 21,
            hY0 22,
            hY0 23,
            hN 24 true (cn hq10),
            hN 25 true (cn hq10),
            hN 26 true (cn hq10),
            hN 27 true (cn hq10),
            hS 28 (oY (b := false) rfl rfl rfl rfl (lt_of rfl) rfl (r_pickF (b := (!(hasM m.f_Kind).f_Result)) (av := vB false) (lt_of rfl) ⟨rfl, trivial⟩ (cn hq10))),
            hP0 29,
            hY0 31,
            hY0 32,
            hS 33 (oY (b := false) rfl rfl rfl rfl (lt_of rfl) rfl (rCa (ref12_counts tm m (aH.mk (hasM m.f_Kind).f_View (hasM m.f_Kind).f_Seq (hasM m.f_Kind).f_Client (hasM m.f_Kind).f_Digest (hasM m.f_Kind).f_Data (hasM m.f_Kind).f_Result (hasM m.f_Kind).f_Batch (hasM m.f_Kind).f_Pres (hasM m.f_Kind).f_Certs) ‹_› ‹_› ‹_›) Tryz.func65 [] [(.tmp 95, (Z3z tm m)), (.tmp 96, (Z43 m))] 0 0)),
            hY0 34,
            hP0 35] ?_
          by_cases hq11 : cntM m (aH.mk (hasM m.f_Kind).f_View (hasM m.f_Kind).f_Seq (hasM m.f_Kind).f_Client (hasM m.f_Kind).f_Digest (hasM m.f_Kind).f_Data (hasM m.f_Kind).f_Result (hasM m.f_Kind).f_Batch (hasM m.f_Kind).f_Pres (hasM m.f_Kind).f_Certs)
          ·refine cF (cn (dT hq11)) ?_
           refine T.skip (nT ?_)
           refine sR [] ?_
           refine T.ret ?_
           exact eRt 2 (Z44) [] (cI (by exact if_pos ((well_iff m).2 ⟨‹_›, ‹_›, ‹_›, ‹_›, ‹_›, (fun h8 => by exact absurd h8.2 ‹_›), (fun h8 => by exact absurd ‹_› h8.1), (fun h8 => by exact absurd ‹_› h8.1), (fun h8 => by exact absurd ‹_› h8.1), ‹_›⟩))) trivial
          refine cT (cn (dF hq11)) ?_
          refine sR [] ?_
          refine T.ret (rT ?_)
          exact eRt 2 (Z42) [] (cI (by exact if_neg (fun h9 => by obtain ⟨q1, q2, q3, q4, q5, q6, q7, q8, q9, q10⟩ := (well_iff m).1 h9; exact absurd q10 ‹_›))) trivial
         replace hq10 := Bool.eq_false_iff.2 hq10
         by_cases hq12 : m.f_Result ≠ (api_Result.mk 0 0)
         ·refine sR [hN 4 true (cn hq8),
            hN 5 true (cn hq8),
            hN 6 true (cn hq8),
            hP 7 (cn hq8),
            hY0 9,
            hY0 10,
            hY0 11,
            hY0 12,
            hN 13 true (cn hq9),
            hN 14 true (cn hq9),
            hN 15 true (cn hq9),
            hN 16 true (cn hq9),
            hS 17 (oY (b := false) rfl rfl rfl rfl (lt_of rfl) rfl (r_pickF (b := (!(hasM m.f_Kind).f_Data)) (av := vB false) (lt_of rfl) ⟨rfl, trivial⟩ (cn hq9))),
            hP0 18,
            hY0 20,
            hY0 21,
            hY0 22,
            hY0 23,
            hY 24 (cn hq10),
            hY 25 (cn hq10),
            hY 26 (cn hq10),
            hS 27 (oY rfl rfl rfl rfl (lt_of rfl) (cn hq10) (r_neSt (ax := (Z45 m)) (ay := Z46) (a := m.f_Result) (b := (api_Result.mk 0 0)) seq_43 ⟨[.int .i64 m.f_Result.f_Code, .int .i64 m.f_Result.f_Stage], rfl, rfl⟩ ⟨[.int .i64 0, .int .i64 0], rfl, rfl⟩ (lt_of rfl) (by exact trivial))),
            hS 28 (oY (b := false) rfl rfl rfl rfl (lt_of rfl) rfl (r_pickT (b := (!(hasM m.f_Kind).f_Result)) (av := (Z47 m)) (lt_of rfl) trivial (cn hq10))),
            hP0 29,
            hN 31 false (dT hq12),
            hN 32 false (dT hq12),
            hN 33 false (dT hq12),
            hN 34 false (dT hq12),
            hP 35 (dT hq12)] ?_
          refine cT (b := true) rfl ?_
          refine sR [] ?_
          refine T.ret (rT ?_)
          exact eRt 2 (Z42) [] (cI (by exact if_neg (fun h9 => by obtain ⟨q1, q2, q3, q4, q5, q6, q7, q8, q9, q10⟩ := (well_iff m).1 h9; exact q9 ⟨(by exact nbB ‹_›), by assumption⟩))) trivial
         refine sR [hN 4 true (cn hq8),
           hN 5 true (cn hq8),
           hN 6 true (cn hq8),
           hP 7 (cn hq8),
           hY0 9,
           hY0 10,
           hY0 11,
           hY0 12,
           hN 13 true (cn hq9),
           hN 14 true (cn hq9),
           hN 15 true (cn hq9),
           hN 16 true (cn hq9),
           hS 17 (oY (b := false) rfl rfl rfl rfl (lt_of rfl) rfl (r_pickF (b := (!(hasM m.f_Kind).f_Data)) (av := vB false) (lt_of rfl) ⟨rfl, trivial⟩ (cn hq9))),
           hP0 18,
           hY0 20,
           hY0 21,
           hY0 22,
           hY0 23,
           hY 24 (cn hq10),
           hY 25 (cn hq10),
           hY 26 (cn hq10),
           hS 27 (oY rfl rfl rfl rfl (lt_of rfl) (cn hq10) (r_neSt (ax := (Z45 m)) (ay := Z46) (a := m.f_Result) (b := (api_Result.mk 0 0)) seq_43 ⟨[.int .i64 m.f_Result.f_Code, .int .i64 m.f_Result.f_Stage], rfl, rfl⟩ ⟨[.int .i64 0, .int .i64 0], rfl, rfl⟩ (lt_of rfl) (by exact trivial))),
           hS 28 (oY (b := false) rfl rfl rfl rfl (lt_of rfl) rfl (r_pickT (b := (!(hasM m.f_Kind).f_Result)) (av := (Z47 m)) (lt_of rfl) trivial (cn hq10))),
           hP0 29,
           hY 31 (dF hq12),
           hY 32 (dF hq12),
           hS 33 (oY rfl rfl rfl rfl (lt_of rfl) (dF hq12) (rCa (ref12_counts tm m (aH.mk (hasM m.f_Kind).f_View (hasM m.f_Kind).f_Seq (hasM m.f_Kind).f_Client (hasM m.f_Kind).f_Digest (hasM m.f_Kind).f_Data (hasM m.f_Kind).f_Result (hasM m.f_Kind).f_Batch (hasM m.f_Kind).f_Pres (hasM m.f_Kind).f_Certs) ‹_› ‹_› ‹_›) Tryz.func65 [] [(.tmp 95, (Z3z tm m)), (.tmp 96, (Z43 m))] 0 0)),
           hY 34 (dF hq12),
           hP 35 (dF hq12)] ?_
         by_cases hq13 : cntM m (aH.mk (hasM m.f_Kind).f_View (hasM m.f_Kind).f_Seq (hasM m.f_Kind).f_Client (hasM m.f_Kind).f_Digest (hasM m.f_Kind).f_Data (hasM m.f_Kind).f_Result (hasM m.f_Kind).f_Batch (hasM m.f_Kind).f_Pres (hasM m.f_Kind).f_Certs)
         ·refine cF (cn (dT hq13)) ?_
          refine T.skip (nT ?_)
          refine sR [] ?_
          refine T.ret ?_
          exact eRt 2 (Z44) [] (cI (by exact if_pos ((well_iff m).2 ⟨‹_›, ‹_›, ‹_›, ‹_›, ‹_›, (fun h8 => by exact absurd h8.2 ‹_›), (fun h8 => by exact absurd ‹_› h8.1), (fun h8 => by exact absurd ‹_› h8.1), (fun h8 => by exact absurd h8.2 ‹_›), ‹_›⟩))) trivial
         refine cT (cn (dF hq13)) ?_
         refine sR [] ?_
         refine T.ret (rT ?_)
         exact eRt 2 (Z42) [] (cI (by exact if_neg (fun h9 => by obtain ⟨q1, q2, q3, q4, q5, q6, q7, q8, q9, q10⟩ := (well_iff m).1 h9; exact absurd q10 ‹_›))) trivial
        replace hq9 := Bool.eq_false_iff.2 hq9
        by_cases hq14 : ((m.f_Data.length : Nat) : Int) > 0
        ·refine sR [hN 4 true (cn hq8),
           hN 5 true (cn hq8),
           hN 6 true (cn hq8),
           hP 7 (cn hq8),
           hY0 9,
           hY0 10,
           hY0 11,
           hY0 12,
           hY 13 (cn hq9),
           hY 14 (cn hq9),
           hY 15 (cn hq9),
           hY 16 (cn hq9),
           hS 17 (oY (b := false) rfl rfl rfl rfl (lt_of rfl) rfl (r_pickT (b := (!(hasM m.f_Kind).f_Data)) (av := (Z48 m)) (lt_of rfl) trivial (cn hq9))),
           hP0 18,
           hN 20 false (dT hq14),
           hN 21 false (dT hq14),
           hN 22 false (dT hq14),
           hN 23 false (dT hq14),
           hU 24,
           hU 25,
           hU 26,
           hU 27,
           hN 28 false (dT hq14),
           hP 29 (dT hq14),
           hN0 31,
           hN0 32,
           hN0 33,
           hN0 34,
           hP1 35] ?_
         refine cT (b := true) rfl ?_
         refine sR [] ?_
         refine T.ret (rT ?_)
         exact eRt 2 (Z42) [] (cI (by exact if_neg (fun h9 => by obtain ⟨q1, q2, q3, q4, q5, q6, q7, q8, q9, q10⟩ := (well_iff m).1 h9; exact q8 ⟨(by exact nbB ‹_›), by assumption⟩))) trivial
        by_cases hq15 : (hasM m.f_Kind).f_Result = true
        ·refine sR [hN 4 true (cn hq8),
           hN 5 true (cn hq8),
           hN 6 true (cn hq8),
           hP 7 (cn hq8),
           hY0 9,
           hY0 10,
           hY0 11,
           hY0 12,
           hY 13 (cn hq9),
           hY 14 (cn hq9),
           hY 15 (cn hq9),
           hY 16 (cn hq9),
           hS 17 (oY (b := false) rfl rfl rfl rfl (lt_of rfl) rfl (r_pickT (b := (!(hasM m.f_Kind).f_Data)) (av := (Z48 m)) (lt_of rfl) trivial (cn hq9))),
           hP0 18,
           hY 20 (dF hq14),
           hY 21 (dF hq14),
           hY 22 (dF hq14),
           hY 23 (dF hq14),
           hN 24 true (cn hq15),
           hN 25 true (cn hq15),
           hN 26 true (cn hq15),
           hN 27 true (cn hq15),
           hS 28 (oY rfl rfl rfl rfl (lt_of rfl) (dF hq14) (r_pickF (b := (!(hasM m.f_Kind).f_Result)) (av := vB false) (lt_of rfl) ⟨rfl, trivial⟩ (cn hq15))),
           hP 29 (dF hq14),
           hY0 31,
           hY0 32,
           hS 33 (oY (b := false) rfl rfl rfl rfl (lt_of rfl) rfl (rCa (ref12_counts tm m (aH.mk (hasM m.f_Kind).f_View (hasM m.f_Kind).f_Seq (hasM m.f_Kind).f_Client (hasM m.f_Kind).f_Digest (hasM m.f_Kind).f_Data (hasM m.f_Kind).f_Result (hasM m.f_Kind).f_Batch (hasM m.f_Kind).f_Pres (hasM m.f_Kind).f_Certs) ‹_› ‹_› ‹_›) Tryz.func65 [] [(.tmp 95, (Z3z tm m)), (.tmp 96, (Z43 m))] 0 0)),
           hY0 34,
           hP0 35] ?_
         by_cases hq16 : cntM m (aH.mk (hasM m.f_Kind).f_View (hasM m.f_Kind).f_Seq (hasM m.f_Kind).f_Client (hasM m.f_Kind).f_Digest (hasM m.f_Kind).f_Data (hasM m.f_Kind).f_Result (hasM m.f_Kind).f_Batch (hasM m.f_Kind).f_Pres (hasM m.f_Kind).f_Certs)
         ·refine cF (cn (dT hq16)) ?_
          refine T.skip (nT ?_)
          refine sR [] ?_
          refine T.ret ?_
          exact eRt 2 (Z44) [] (cI (by exact if_pos ((well_iff m).2 ⟨‹_›, ‹_›, ‹_›, ‹_›, ‹_›, (fun h8 => by exact absurd h8.2 ‹_›), (fun h8 => by exact absurd ‹_› h8.1), (fun h8 => by exact absurd h8.2 ‹_›), (fun h8 => by exact absurd ‹_› h8.1), ‹_›⟩))) trivial
         refine cT (cn (dF hq16)) ?_
         refine sR [] ?_
         refine T.ret (rT ?_)
         exact eRt 2 (Z42) [] (cI (by exact if_neg (fun h9 => by obtain ⟨q1, q2, q3, q4, q5, q6, q7, q8, q9, q10⟩ := (well_iff m).1 h9; exact absurd q10 ‹_›))) trivial
        replace hq15 := Bool.eq_false_iff.2 hq15
        by_cases hq17 : m.f_Result ≠ (api_Result.mk 0 0)
        ·refine sR [hN 4 true (cn hq8),
           hN 5 true (cn hq8),
           hN 6 true (cn hq8),
           hP 7 (cn hq8),
           hY0 9,
           hY0 10,
           hY0 11,
           hY0 12,
           hY 13 (cn hq9),
           hY 14 (cn hq9),
           hY 15 (cn hq9),
           hY 16 (cn hq9),
           hS 17 (oY (b := false) rfl rfl rfl rfl (lt_of rfl) rfl (r_pickT (b := (!(hasM m.f_Kind).f_Data)) (av := (Z48 m)) (lt_of rfl) trivial (cn hq9))),
           hP0 18,
           hY 20 (dF hq14),
           hY 21 (dF hq14),
           hY 22 (dF hq14),
           hY 23 (dF hq14),
           hY 24 (cn hq15),
           hY 25 (cn hq15),
           hY 26 (cn hq15),
           hS 27 (oY rfl rfl rfl rfl (lt_of rfl) (cn hq15) (r_neSt (ax := (Z45 m)) (ay := Z46) (a := m.f_Result) (b := (api_Result.mk 0 0)) seq_43 ⟨[.int .i64 m.f_Result.f_Code, .int .i64 m.f_Result.f_Stage], rfl, rfl⟩ ⟨[.int .i64 0, .int .i64 0], rfl, rfl⟩ (lt_of rfl) (by exact trivial))),
           hS 28 (oY rfl rfl rfl rfl (lt_of rfl) (dF hq14) (r_pickT (b := (!(hasM m.f_Kind).f_Result)) (av := (Z47 m)) (lt_of rfl) trivial (cn hq15))),
           hP 29 (dF hq14),
           hN 31 false (dT hq17),
           hN 32 false (dT hq17),
           hN 33 false (dT hq17),
           hN 34 false (dT hq17),
           hP 35 (dT hq17)] ?_
         refine cT (b := true) rfl ?_
         refine sR [] ?_
         refine T.ret (rT ?_)
         exact eRt 2 (Z42) [] (cI (by exact if_neg (fun h9 => by obtain ⟨q1, q2, q3, q4, q5, q6, q7, q8, q9, q10⟩ := (well_iff m).1 h9; exact q9 ⟨(by exact nbB ‹_›), by assumption⟩))) trivial
        refine sR [hN 4 true (cn hq8),
          hN 5 true (cn hq8),
          hN 6 true (cn hq8),
          hP 7 (cn hq8),
          hY0 9,
          hY0 10,
          hY0 11,
          hY0 12,
          hY 13 (cn hq9),
          hY 14 (cn hq9),
          hY 15 (cn hq9),
          hY 16 (cn hq9),
          hS 17 (oY (b := false) rfl rfl rfl rfl (lt_of rfl) rfl (r_pickT (b := (!(hasM m.f_Kind).f_Data)) (av := (Z48 m)) (lt_of rfl) trivial (cn hq9))),
          hP0 18,
          hY 20 (dF hq14),
          hY 21 (dF hq14),
          hY 22 (dF hq14),
          hY 23 (dF hq14),
          hY 24 (cn hq15),
          hY 25 (cn hq15),
          hY 26 (cn hq15),
          hS 27 (oY rfl rfl rfl rfl (lt_of rfl) (cn hq15) (r_neSt (ax := (Z45 m)) (ay := Z46) (a := m.f_Result) (b := (api_Result.mk 0 0)) seq_43 ⟨[.int .i64 m.f_Result.f_Code, .int .i64 m.f_Result.f_Stage], rfl, rfl⟩ ⟨[.int .i64 0, .int .i64 0], rfl, rfl⟩ (lt_of rfl) (by exact trivial))),
          hS 28 (oY rfl rfl rfl rfl (lt_of rfl) (dF hq14) (r_pickT (b := (!(hasM m.f_Kind).f_Result)) (av := (Z47 m)) (lt_of rfl) trivial (cn hq15))),
          hP 29 (dF hq14),
          hY 31 (dF hq17),
          hY 32 (dF hq17),
          hS 33 (oY rfl rfl rfl rfl (lt_of rfl) (dF hq17) (rCa (ref12_counts tm m (aH.mk (hasM m.f_Kind).f_View (hasM m.f_Kind).f_Seq (hasM m.f_Kind).f_Client (hasM m.f_Kind).f_Digest (hasM m.f_Kind).f_Data (hasM m.f_Kind).f_Result (hasM m.f_Kind).f_Batch (hasM m.f_Kind).f_Pres (hasM m.f_Kind).f_Certs) ‹_› ‹_› ‹_›) Tryz.func65 [] [(.tmp 95, (Z3z tm m)), (.tmp 96, (Z43 m))] 0 0)),
          hY 34 (dF hq17),
          hP 35 (dF hq17)] ?_
        by_cases hq18 : cntM m (aH.mk (hasM m.f_Kind).f_View (hasM m.f_Kind).f_Seq (hasM m.f_Kind).f_Client (hasM m.f_Kind).f_Digest (hasM m.f_Kind).f_Data (hasM m.f_Kind).f_Result (hasM m.f_Kind).f_Batch (hasM m.f_Kind).f_Pres (hasM m.f_Kind).f_Certs)
        ·refine cF (cn (dT hq18)) ?_
         refine T.skip (nT ?_)
         refine sR [] ?_
         refine T.ret ?_
         exact eRt 2 (Z44) [] (cI (by exact if_pos ((well_iff m).2 ⟨‹_›, ‹_›, ‹_›, ‹_›, ‹_›, (fun h8 => by exact absurd h8.2 ‹_›), (fun h8 => by exact absurd ‹_› h8.1), (fun h8 => by exact absurd h8.2 ‹_›), (fun h8 => by exact absurd h8.2 ‹_›), ‹_›⟩))) trivial
        refine cT (cn (dF hq18)) ?_
        refine sR [] ?_
        refine T.ret (rT ?_)
        exact eRt 2 (Z42) [] (cI (by exact if_neg (fun h9 => by obtain ⟨q1, q2, q3, q4, q5, q6, q7, q8, q9, q10⟩ := (well_iff m).1 h9; exact absurd q10 ‹_›))) trivial
       replace hq8 := Bool.eq_false_iff.2 hq8
       by_cases hq19 : m.f_Digest ≠ []
       ·refine sR [hY 4 (cn hq8),
          hY 5 (cn hq8),
          hY 6 (cn hq8),
          hP 7 (cn hq8),
          hN 9 false (dT hq19),
          hN 10 false (dT hq19),
          hN 11 false (dT hq19),
          hN 12 false (dT hq19),
          hU 13,
          hU 14,
          hU 15,
          hU 16,
          hN 17 false (dT hq19),
          hP 18 (dT hq19),
          hN0 20,
          hN0 21,
          hN0 22,
          hN0 23,
          hU 24,
          hU 25,
          hU 26,
          hU 27,
          hN0 28,
          hP1 29,
          hN0 31,
          hN0 32,
          hN0 33,
          hN0 34,
          hP1 35] ?_
        refine cT (b := true) rfl ?_
        refine sR [] ?_
        refine T.ret (rT ?_)
        exact eRt 2 (Z42) [] (cI (by exact if_neg (fun h9 => by obtain ⟨q1, q2, q3, q4, q5, q6, q7, q8, q9, q10⟩ := (well_iff m).1 h9; exact q7 ⟨(by exact nbB ‹_›), by assumption⟩))) trivial
       by_cases hq20 : (hasM m.f_Kind).f_Data = true
       ·by_cases hq21 : (hasM m.f_Kind).f_Result = true
        ·refine sR [hY 4 (cn hq8),
           hY 5 (cn hq8),
           hY 6 (cn hq8),
           hP 7 (cn hq8),
           hY 9 (dF hq19),
           hY 10 (dF hq19),
           hY 11 (dF hq19),
           hY 12 (dF hq19),
           hN 13 true (cn hq20),
           hN 14 true (cn hq20),
           hN 15 true (cn hq20),
           hN 16 true (cn hq20),
           hS 17 (oY rfl rfl rfl rfl (lt_of rfl) (dF hq19) (r_pickF (b := (!(hasM m.f_Kind).f_Data)) (av := vB false) (lt_of rfl) ⟨rfl, trivial⟩ (cn hq20))),
           hP 18 (dF hq19),
           hY0 20,
           hY0 21,
           hY0 22,
           hY0 23,
           hN 24 true (cn hq21),
           hN 25 true (cn hq21),
           hN 26 true (cn hq21),
           hN 27 true (cn hq21),
           hS 28 (oY (b := false) rfl rfl rfl rfl (lt_of rfl) rfl (r_pickF (b := (!(hasM m.f_Kind).f_Result)) (av := vB false) (lt_of rfl) ⟨rfl, trivial⟩ (cn hq21))),
           hP0 29,
           hY0 31,
           hY0 32,
           hS 33 (oY (b := false) rfl rfl rfl rfl (lt_of rfl) rfl (rCa (ref12_counts tm m (aH.mk (hasM m.f_Kind).f_View (hasM m.f_Kind).f_Seq (hasM m.f_Kind).f_Client (hasM m.f_Kind).f_Digest (hasM m.f_Kind).f_Data (hasM m.f_Kind).f_Result (hasM m.f_Kind).f_Batch (hasM m.f_Kind).f_Pres (hasM m.f_Kind).f_Certs) ‹_› ‹_› ‹_›) Tryz.func65 [] [(.tmp 95, (Z3z tm m)), (.tmp 96, (Z43 m))] 0 0)),
           hY0 34,
           hP0 35] ?_
         by_cases hq22 : cntM m (aH.mk (hasM m.f_Kind).f_View (hasM m.f_Kind).f_Seq (hasM m.f_Kind).f_Client (hasM m.f_Kind).f_Digest (hasM m.f_Kind).f_Data (hasM m.f_Kind).f_Result (hasM m.f_Kind).f_Batch (hasM m.f_Kind).f_Pres (hasM m.f_Kind).f_Certs)
         ·refine cF (cn (dT hq22)) ?_
          refine T.skip (nT ?_)
          refine sR [] ?_
          refine T.ret ?_
          exact eRt 2 (Z44) [] (cI (by exact if_pos ((well_iff m).2 ⟨‹_›, ‹_›, ‹_›, ‹_›, ‹_›, (fun h8 => by exact absurd h8.2 ‹_›), (fun h8 => by exact absurd h8.2 ‹_›), (fun h8 => by exact absurd ‹_› h8.1), (fun h8 => by exact absurd ‹_› h8.1), ‹_›⟩))) trivial
         refine cT (cn (dF hq22)) ?_
         refine sR [] ?_
         refine T.ret (rT ?_)
         exact eRt 2 (Z42) [] (cI (by exact if_neg (fun h9 => by obtain ⟨q1, q2, q3, q4, q5, q6, q7, q8, q9, q10⟩ := (well_iff m).1 h9; exact absurd q10 ‹_›))) trivial
        replace hq21 := Bool.eq_false_iff.2 hq21
        by_cases hq23 : m.f_Result ≠ (api_Result.mk 0 0)
        ·refine sR [hY 4 (cn hq8),
           hY 5 (cn hq8),
           hY 6 (cn hq8),
           hP 7 (cn hq8),
           hY 9 (dF hq19),
           hY 10 (dF hq19),
           hY 11 (dF hq19),
           hY 12 (dF hq19),
           hN 13 true (cn hq20),
           hN 14 true (cn hq20),
           hN 15 true (cn hq20),
           hN 16 true (cn hq20),
           hS 17 (oY rfl rfl rfl rfl (lt_of rfl) (dF hq19) (r_pickF (b := (!(hasM m.f_Kind).f_Data)) (av := vB false) (lt_of rfl) ⟨rfl, trivial⟩ (cn hq20))),
           hP 18 (dF hq19),
           hY0 20,
           hY0 21,
           hY0 22,
           hY0 23,
           hY 24 (cn hq21),
           hY 25 (cn hq21),
           hY 26 (cn hq21),
           hS 27 (oY rfl rfl rfl rfl (lt_of rfl) (cn hq21) (r_neSt (ax := (Z45 m)) (ay := Z46) (a := m.f_Result) (b := (api_Result.mk 0 0)) seq_43 ⟨[.int .i64 m.f_Result.f_Code, .int .i64 m.f_Result.f_Stage], rfl, rfl⟩ ⟨[.int .i64 0, .int .i64 0], rfl, rfl⟩ (lt_of rfl) (by exact trivial))),
           hS 28 (oY (b := false) rfl rfl rfl rfl (lt_of rfl) rfl (r_pickT (b := (!(hasM m.f_Kind).f_Result)) (av := (Z47 m)) (lt_of rfl) trivial (cn hq21))),
           hP0 29,
           hN 31 false (dT hq23),
           hN 32 false (dT hq23),
           hN 33 false (dT hq23),
           hN 34 false (dT hq23),
           hP 35 (dT hq23)] ?_
         refine cT (b := true) rfl ?_
         refine sR [] ?_
         refine T.ret (rT ?_)
         exact eRt 2 (Z42) [] (cI (by exact if_neg (fun h9 => by obtain ⟨q1, q2, q3, q4, q5, q6, q7, q8, q9, q10⟩ := (well_iff m).1 h9; exact q9 ⟨(by exact nbB ‹_›), by assumption⟩))) trivial
        refine sR [hY 4 (cn hq8),
          hY 5 (cn hq8),
          hY 6 (cn hq8),
          hP 7 (cn hq8),
          hY 9 (dF hq19),
          hY 10 (dF hq19),
          hY 11 (dF hq19),
          hY 12 (dF hq19),
          hN 13 true (cn hq20),
          hN 14 true (cn hq20),
          hN 15 true (cn hq20),
          hN 16 true (cn hq20),
          hS 17 (oY rfl rfl rfl rfl (lt_of rfl) (dF hq19) (r_pickF (b := (!(hasM m.f_Kind).f_Data)) (av := vB false) (lt_of rfl) ⟨rfl, trivial⟩ (cn hq20))),
          hP 18 (dF hq19),
          hY0 20,
          hY0 21,
          hY0 22,
          hY0 23,
          hY 24 (cn hq21),
          hY 25 (cn hq21),
          hY 26 (cn hq21),
          hS 27 (oY rfl rfl rfl rfl (lt_of rfl) (cn hq21) (r_neSt (ax := (Z45 m)) (ay := Z46) (a := m.f_Result) (b := (api_Result.mk 0 0)) seq_43 ⟨[.int .i64 m.f_Result.f_Code, .int .i64 m.f_Result.f_Stage], rfl, rfl⟩ ⟨[.int .i64 0, .int .i64 0], rfl, rfl⟩ (lt_of rfl) (by exact trivial))),
          hS 28 (oY (b := false) rfl rfl rfl rfl (lt_of rfl) rfl (r_pickT (b := (!(hasM m.f_Kind).f_Result)) (av := (Z47 m)) (lt_of rfl) trivial (cn hq21))),
          hP0 29,
          hY 31 (dF hq23),
          hY 32 (dF hq23),
          hS 33 (oY rfl rfl rfl rfl (lt_of rfl) (dF hq23) (rCa (ref12_counts tm m (aH.mk (hasM m.f_Kind).f_View (hasM m.f_Kind).f_Seq (hasM m.f_Kind).f_Client (hasM m.f_Kind).f_Digest (hasM m.f_Kind).f_Data (hasM m.f_Kind).f_Result (hasM m.f_Kind).f_Batch (hasM m.f_Kind).f_Pres (hasM m.f_Kind).f_Certs) ‹_› ‹_› ‹_›) Tryz.func65 [] [(.tmp 95, (Z3z tm m)), (.tmp 96, (Z43 m))] 0 0)),
          hY 34 (dF hq23),
          hP 35 (dF hq23)] ?_
        by_cases hq24 : cntM m (aH.mk (hasM m.f_Kind).f_View (hasM m.f_Kind).f_Seq (hasM m.f_Kind).f_Client (hasM m.f_Kind).f_Digest (hasM m.f_Kind).f_Data (hasM m.f_Kind).f_Result (hasM m.f_Kind).f_Batch (hasM m.f_Kind).f_Pres (hasM m.f_Kind).f_Certs)
        ·refine cF (cn (dT hq24)) ?_
         refine T.skip (nT ?_)
         refine sR [] ?_
         refine T.ret ?_
         exact eRt 2 (Z44) [] (cI (by exact if_pos ((well_iff m).2 ⟨‹_›, ‹_›, ‹_›, ‹_›, ‹_›, (fun h8 => by exact absurd h8.2 ‹_›), (fun h8 => by exact absurd h8.2 ‹_›), (fun h8 => by exact absurd ‹_› h8.1), (fun h8 => by exact absurd h8.2 ‹_›), ‹_›⟩))) trivial
        refine cT (cn (dF hq24)) ?_
        refine sR [] ?_
        refine T.ret (rT ?_)
        exact eRt 2 (Z42) [] (cI (by exact if_neg (fun h9 => by obtain ⟨q1, q2, q3, q4, q5, q6, q7, q8, q9, q10⟩ := (well_iff m).1 h9; exact absurd q10 ‹_›))) trivial
       replace hq20 := Bool.eq_false_iff.2 hq20
       by_cases hq25 : ((m.f_Data.length : Nat) : Int) > 0
       ·refine sR [hY 4 (cn hq8),
          hY 5 (cn hq8),
          hY 6 (cn hq8),
          hP 7 (cn hq8),
          hY 9 (dF hq19),
          hY 10 (dF hq19),
          hY 11 (dF hq19),
          hY 12 (dF hq19),
          hY 13 (cn hq20),
          hY 14 (cn hq20),
          hY 15 (cn hq20),
          hY 16 (cn hq20),
          hS 17 (oY rfl rfl rfl rfl (lt_of rfl) (dF hq19) (r_pickT (b := (!(hasM m.f_Kind).f_Data)) (av := (Z48 m)) (lt_of rfl) trivial (cn hq20))),
          hP 18 (dF hq19),
          hN 20 false (dT hq25),
          hN 21 false (dT hq25),
          hN 22 false (dT hq25),
          hN 23 false (dT hq25),
          hU 24,
          hU 25,
          hU 26,
          hU 27,
          hN 28 false (dT hq25),
          hP 29 (dT hq25),
          hN0 31,
          hN0 32,
          hN0 33,
          hN0 34,
          hP1 35] ?_
        refine cT (b := true) rfl ?_
        refine sR [] ?_
        refine T.ret (rT ?_)
        exact eRt 2 (Z42) [] (cI (by exact if_neg (fun h9 => by obtain ⟨q1, q2, q3, q4, q5, q6, q7, q8, q9, q10⟩ := (well_iff m).1 h9; exact q8 ⟨(by exact nbB ‹_›), by assumption⟩))) trivial
       by_cases hq26 : (hasM m.f_Kind).f_Result = true
       ·refine sR [hY 4 (cn hq8),
          hY 5 (cn hq8),
          hY 6 (cn hq8),
          hP 7 (cn hq8),
          hY 9 (dF hq19),
          hY 10 (dF hq19),
          hY 11 (dF hq19),
          hY 12 (dF hq19),
          hY 13 (cn hq20),
          hY 14 (cn hq20),
          hY 15 (cn hq20),
          hY 16 (cn hq20),
          hS 17 (oY rfl rfl rfl rfl (lt_of rfl) (dF hq19) (r_pickT (b := (!(hasM m.f_Kind).f_Data)) (av := (Z48 m)) (lt_of rfl) trivial (cn hq20))),
          hP 18 (dF hq19),
          hY 20 (dF hq25),
          hY 21 (dF hq25),
          hY 22 (dF hq25),
          hY 23 (dF hq25),
          hN 24 true (cn hq26),
          hN 25 true (cn hq26),
          hN 26 true (cn hq26),
          hN 27 true (cn hq26),
          hS 28 (oY rfl rfl rfl rfl (lt_of rfl) (dF hq25) (r_pickF (b := (!(hasM m.f_Kind).f_Result)) (av := vB false) (lt_of rfl) ⟨rfl, trivial⟩ (cn hq26))),
          hP 29 (dF hq25),
          hY0 31,
          hY0 32,
          hS 33 (oY (b := false) rfl rfl rfl rfl (lt_of rfl) rfl (rCa (ref12_counts tm m (aH.mk (hasM m.f_Kind).f_View (hasM m.f_Kind).f_Seq (hasM m.f_Kind).f_Client (hasM m.f_Kind).f_Digest (hasM m.f_Kind).f_Data (hasM m.f_Kind).f_Result (hasM m.f_Kind).f_Batch (hasM m.f_Kind).f_Pres (hasM m.f_Kind).f_Certs) ‹_› ‹_› ‹_›) Tryz.func65 [] [(.tmp 95, (Z3z tm m)), (.tmp 96, (Z43 m))] 0 0)),
          hY0 34,
          hP0 35] ?_
        by_cases hq27 : cntM m (aH.mk (hasM m.f_Kind).f_View (hasM m.f_Kind).f_Seq (hasM m.f_Kind).f_Client (hasM m.f_Kind).f_Digest (hasM m.f_Kind).f_Data (hasM m.f_Kind).f_Result (hasM m.f_Kind).f_Batch (hasM m.f_Kind).f_Pres (hasM m.f_Kind).f_Certs)
        ·refine cF (cn (dT hq27)) ?_
         refine T.skip (nT ?_)
         refine sR [] ?_
         refine T.ret ?_
         exact eRt 2 (Z44) [] (cI (by exact if_pos ((well_iff m).2 ⟨‹_›, ‹_›, ‹_›, ‹_›, ‹_›, (fun h8 => by exact absurd h8.2 ‹_›), (fun h8 => by exact absurd h8.2 ‹_›), (fun h8 => by exact absurd h8.2 ‹_›), (fun h8 => by exact absurd ‹_› h8.1), ‹_›⟩))) trivial
        refine cT (cn (dF hq27)) ?_
        refine sR [] ?_
        refine T.ret (rT ?_)
        exact eRt 2 (Z42) [] (cI (by exact if_neg (fun h9 => by obtain ⟨q1, q2, q3, q4, q5, q6, q7, q8, q9, q10⟩ := (well_iff m).1 h9; exact absurd q10 ‹_›))) trivial
       replace hq26 := Bool.eq_false_iff.2 hq26
       by_cases hq28 : m.f_Result ≠ (api_Result.mk 0 0)
       ·refine sR [hY 4 (cn hq8),
          hY 5 (cn hq8),
          hY 6 (cn hq8),
          hP 7 (cn hq8),
          hY 9 (dF hq19),
          hY 10 (dF hq19),
          hY 11 (dF hq19),
          hY 12 (dF hq19),
          hY 13 (cn hq20),
          hY 14 (cn hq20),
          hY 15 (cn hq20),
          hY 16 (cn hq20),
          hS 17 (oY rfl rfl rfl rfl (lt_of rfl) (dF hq19) (r_pickT (b := (!(hasM m.f_Kind).f_Data)) (av := (Z48 m)) (lt_of rfl) trivial (cn hq20))),
          hP 18 (dF hq19),
          hY 20 (dF hq25),
          hY 21 (dF hq25),
          hY 22 (dF hq25),
          hY 23 (dF hq25),
          hY 24 (cn hq26),
          hY 25 (cn hq26),
          hY 26 (cn hq26),
          hS 27 (oY rfl rfl rfl rfl (lt_of rfl) (cn hq26) (r_neSt (ax := (Z45 m)) (ay := Z46) (a := m.f_Result) (b := (api_Result.mk 0 0)) seq_43 ⟨[.int .i64 m.f_Result.f_Code, .int .i64 m.f_Result.f_Stage], rfl, rfl⟩ ⟨[.int .i64 0, .int .i64 0], rfl, rfl⟩ (lt_of rfl) (by exact trivial))),
          hS 28 (oY rfl rfl rfl rfl (lt_of rfl) (dF hq25) (r_pickT (b := (!(hasM m.f_Kind).f_Result)) (av := (Z47 m)) (lt_of rfl) trivial (cn hq26))),
          hP 29 (dF hq25),
          hN 31 false (dT hq28),
          hN 32 false (dT hq28),
          hN 33 false (dT hq28),
          hN 34 false (dT hq28),
          hP 35 (dT hq28)] ?_
        refine cT (b := true) rfl ?_
        refine sR [] ?_
        refine T.ret (rT ?_)
        exact eRt 2 (Z42) [] (cI (by exact if_neg (fun h9 => by obtain ⟨q1, q2, q3, q4, q5, q6, q7, q8, q9, q10⟩ := (well_iff m).1 h9; exact q9 ⟨(by exact nbB ‹_›), by assumption⟩))) trivial
       refine sR [hY 4 (cn hq8),
         hY 5 (cn hq8),
         hY 6 (cn hq8),
         hP 7 (cn hq8),
         hY 9 (dF hq19),
         hY 10 (dF hq19),
         hY 11 (dF hq19),
         hY 12 (dF hq19),
         hY 13 (cn hq20),
         hY 14 (cn hq20),
         hY 15 (cn hq20),
         hY 16 (cn hq20),
         hS 17 (oY rfl rfl rfl rfl (lt_of rfl) (dF hq19) (r_pickT (b := (!(hasM m.f_Kind).f_Data)) (av := (Z48 m)) (lt_of rfl) trivial (cn hq20))),
         hP 18 (dF hq19),
         hY 20 (dF hq25),
         hY 21 (dF hq25),
         hY 22 (dF hq25),
         hY 23 (dF hq25),
         hY 24 (cn hq26),
         hY 25 (cn hq26),
         hY 26 (cn hq26),
         hS 27 (oY rfl rfl rfl rfl (lt_of rfl) (cn hq26) (r_neSt (ax := (Z45 m)) (ay := Z46) (a := m.f_Result) (b := (api_Result.mk 0 0)) seq_43 ⟨[.int .i64 m.f_Result.f_Code, .int .i64 m.f_Result.f_Stage], rfl, rfl⟩ ⟨[.int .i64 0, .int .i64 0], rfl, rfl⟩ (lt_of rfl) (by exact trivial))),
         hS 28 (oY rfl rfl rfl rfl (lt_of rfl) (dF hq25) (r_pickT (b := (!(hasM m.f_Kind).f_Result)) (av := (Z47 m)) (lt_of rfl) trivial (cn hq26))),
         hP 29 (dF hq25),
         hY 31 (dF hq28),
         hY 32 (dF hq28),
         hS 33 (oY rfl rfl rfl rfl (lt_of rfl) (dF hq28) (rCa (ref12_counts tm m (aH.mk (hasM m.f_Kind).f_View (hasM m.f_Kind).f_Seq (hasM m.f_Kind).f_Client (hasM m.f_Kind).f_Digest (hasM m.f_Kind).f_Data (hasM m.f_Kind).f_Result (hasM m.f_Kind).f_Batch (hasM m.f_Kind).f_Pres (hasM m.f_Kind).f_Certs) ‹_› ‹_› ‹_›) Tryz.func65 [] [(.tmp 95, (Z3z tm m)), (.tmp 96, (Z43 m))] 0 0)),
         hY 34 (dF hq28),
         hP 35 (dF hq28)] ?_
       by_cases hq29 : cntM m (aH.mk (hasM m.f_Kind).f_View (hasM m.f_Kind).f_Seq (hasM m.f_Kind).f_Client (hasM m.f_Kind).f_Digest (hasM m.f_Kind).f_Data (hasM m.f_Kind).f_Result (hasM m.f_Kind).f_Batch (hasM m.f_Kind).f_Pres (hasM m.f_Kind).f_Certs)
       ·refine cF (cn (dT hq29)) ?_
        refine T.skip (nT ?_)
        refine sR [] ?_
        refine T.ret ?_
        exact eRt 2 (Z44) [] (cI (by exact if_pos ((well_iff m).2 ⟨‹_›, ‹_›, ‹_›, ‹_›, ‹_›, (fun h8 => by exact absurd h8.2 ‹_›), (fun h8 => by exact absurd h8.2 ‹_›), (fun h8 => by exact absurd h8.2 ‹_›), (fun h8 => by exact absurd h8.2 ‹_›), ‹_›⟩))) trivial
       refine cT (cn (dF hq29)) ?_
       refine sR [] ?_
       refine T.ret (rT ?_)
       exact eRt 2 (Z42) [] (cI (by exact if_neg (fun h9 => by obtain ⟨q1, q2, q3, q4, q5, q6, q7, q8, q9, q10⟩ := (well_iff m).1 h9; exact absurd q10 ‹_›))) trivial
      refine sR [hN 4 true (dF hq6),
        hN 5 true (dF hq6),
        hN 6 true (dF hq6),
        hN 7 true (dF hq6),
        hP 8 (dF hq6)] ?_
      refine cF (b := false) rfl ?_
      refine T.skip (nT (T.seq ?_))
      by_cases hq30 : (hasM m.f_Kind).f_Digest = true
      ·by_cases hq31 : (hasM m.f_Kind).f_Data = true
       ·by_cases hq32 : (hasM m.f_Kind).f_Result = true
        ·refine sR [hN 4 true (cn hq30),
           hN 5 true (cn hq30),
           hN 6 true (cn hq30),
           hP 7 (cn hq30),
           hY0 9,
           hY0 10,
           hY0 11,
           hY0 12,
           hN 13 true (cn hq31),
           hN 14 true (cn hq31),
           hN 15 true (cn hq31),
           hN 16 true (cn hq31),
           hS 17 (oY (b := false) rfl rfl rfl rfl (lt_of rfl) rfl (r_pickF (b := (!(hasM m.f_Kind).f_Data)) (av := vB false) (lt_of rfl) ⟨rfl, trivial⟩ (cn hq31))),
           hP0 18,
           hY0 20,
           hY0 21,
           hY0 22,
           hY0 23,
           hN 24 true (cn hq32),
           hN 25 true (cn hq32),
           hN 26 true (cn hq32),
           hN 27 true (cn hq32),
           hS 28 (oY (b := false) rfl rfl rfl rfl (lt_of rfl) rfl (r_pickF (b := (!(hasM m.f_Kind).f_Result)) (av := vB false) (lt_of rfl) ⟨rfl, trivial⟩ (cn hq32))),
           hP0 29,
           hY0 31,
           hY0 32,
           hS 33 (oY (b := false) rfl rfl rfl rfl (lt_of rfl) rfl (rCa (ref12_counts tm m (aH.mk (hasM m.f_Kind).f_View (hasM m.f_Kind).f_Seq (hasM m.f_Kind).f_Client (hasM m.f_Kind).f_Digest (hasM m.f_Kind).f_Data (hasM m.f_Kind).f_Result (hasM m.f_Kind).f_Batch (hasM m.f_Kind).f_Pres (hasM m.f_Kind).f_Certs) ‹_› ‹_› ‹_›) Tryz.func65 [] [(.tmp 95, (Z3z tm m)), (.tmp 96, (Z43 m))] 0 0)),
           hY0 34,
           hP0 35] ?_
         by_cases hq33 : cntM m (aH.mk (hasM m.f_Kind).f_View (hasM m.f_Kind).f_Seq (hasM m.f_Kind).f_Client (hasM m.f_Kind).f_Digest (hasM m.f_Kind).f_Data (hasM m.f_Kind).f_Result (hasM m.f_Kind).f_Batch (hasM m.f_Kind).f_Pres (hasM m.f_Kind).f_Certs)
         ·refine cF (cn (dT hq33)) ?_
          refine T.skip (nT ?_)
          refine sR [] ?_
          refine T.ret ?_
          exact eRt 2 (Z44) [] (cI (by exact if_pos ((well_iff m).2 ⟨‹_›, ‹_›, ‹_›, ‹_›, ‹_›, (fun h8 => by exact absurd h8.1 ‹_›), (fun h8 => by exact absurd ‹_› h8.1), (fun h8 => by exact absurd ‹_› h8.1), (fun h8 => by exact absurd ‹_› h8.1), ‹_›⟩))) trivial
         refine cT (cn (dF hq33)) ?_
         refine sR [] ?_
         refine T.ret (rT ?_)
         exact eRt 2 (Z42) [] (cI (by exact if_neg (fun h9 => by obtain ⟨q1, q2, q3, q4, q5, q6, q7, q8, q9, q10⟩ := (well_iff m).1 h9; exact absurd q10 ‹_›))) trivial
        replace hq32 := Bool.eq_false_iff.2 hq32
        by_cases hq34 : m.f_Result ≠ (api_Result.mk 0 0)
        ·refine sR [hN 4 true (cn hq30),
           hN 5 true (cn hq30),
           hN 6 true (cn hq30),
           hP 7 (cn hq30),
           hY0 9,
           hY0 10,
           hY0 11,
           hY0 12,
           hN 13 true (cn hq31),
           hN 14 true (cn hq31),
           hN 15 true (cn hq31),
           hN 16 true (cn hq31),
           hS 17 (oY (b := false) rfl rfl rfl rfl (lt_of rfl) rfl (r_pickF (b := (!(hasM m.f_Kind).f_Data)) (av := vB false) (lt_of rfl) ⟨rfl, trivial⟩ (cn hq31))),
           hP0 18,
           hY0 20,
           hY0 21,
           hY0 22,
           hY0 23,
           hY 24 (cn hq32),
           hY 25 (cn hq32),
           hY 26 (cn hq32),
           hS 27 (oY rfl rfl rfl rfl (lt_of rfl) (cn hq32) (r_neSt (ax := (Z45 m)) (ay := Z46) (a := m.f_Result) (b := (api_Result.mk 0 0)) seq_43 ⟨[.int .i64 m.f_Result.f_Code, .int .i64 m.f_Result.f_Stage], rfl, rfl⟩ ⟨[.int .i64 0, .int .i64 0], rfl, rfl⟩ (lt_of rfl) (by exact trivial))),
           hS 28 (oY (b := false) rfl rfl rfl rfl (lt_of rfl) rfl (r_pickT (b := (!(hasM m.f_Kind).f_Result)) (av := (Z47 m)) (lt_of rfl) trivial (cn hq32))),
           hP0 29,
           hN 31 false (dT hq34),
           hN 32 false (dT hq34),
           hN 33 false (dT hq34),
           hN 34 false (dT hq34),
           hP 35 (dT hq34)] ?_
         refine cT (b := true) rfl ?_
         refine sR [] ?_
         refine T.ret (rT ?_)
         exact eRt 2 (Z42) [] (cI (by exact if_neg (fun h9 => by obtain ⟨q1, q2, q3, q4, q5, q6, q7, q8, q9, q10⟩ := (well_iff m).1 h9; exact q9 ⟨(by exact nbB ‹_›), by assumption⟩))) trivial
        refine sR [hN 4 true (cn hq30),
          hN 5 true (cn hq30),
          hN 6 true (cn hq30),
          hP 7 (cn hq30),
          hY0 9,
          hY0 10,
          hY0 11,
          hY0 12,
          hN 13 true (cn hq31),
          hN 14 true (cn hq31),
          hN 15 true (cn hq31),
          hN 16 true (cn hq31),
          hS 17 (oY (b := false) rfl rfl rfl rfl (lt_of rfl) rfl (r_pickF (b := (!(hasM m.f_Kind).f_Data)) (av := vB false) (lt_of rfl) ⟨rfl, trivial⟩ (cn hq31))),
          hP0 18,
          hY0 20,
          hY0 21,
          hY0 22,
          hY0 23,
          hY 24 (cn hq32),
          hY 25 (cn hq32),
          hY 26 (cn hq32),
          hS 27 (oY rfl rfl rfl rfl (lt_of rfl) (cn hq32) (r_neSt (ax := (Z45 m)) (ay := Z46) (a := m.f_Result) (b := (api_Result.mk 0 0)) seq_43 ⟨[.int .i64 m.f_Result.f_Code, .int .i64 m.f_Result.f_Stage], rfl, rfl⟩ ⟨[.int .i64 0, .int .i64 0], rfl, rfl⟩ (lt_of rfl) (by exact trivial))),
          hS 28 (oY (b := false) rfl rfl rfl rfl (lt_of rfl) rfl (r_pickT (b := (!(hasM m.f_Kind).f_Result)) (av := (Z47 m)) (lt_of rfl) trivial (cn hq32))),
          hP0 29,
          hY 31 (dF hq34),
          hY 32 (dF hq34),
          hS 33 (oY rfl rfl rfl rfl (lt_of rfl) (dF hq34) (rCa (ref12_counts tm m (aH.mk (hasM m.f_Kind).f_View (hasM m.f_Kind).f_Seq (hasM m.f_Kind).f_Client (hasM m.f_Kind).f_Digest (hasM m.f_Kind).f_Data (hasM m.f_Kind).f_Result (hasM m.f_Kind).f_Batch (hasM m.f_Kind).f_Pres (hasM m.f_Kind).f_Certs) ‹_› ‹_› ‹_›) Tryz.func65 [] [(.tmp 95, (Z3z tm m)), (.tmp 96, (Z43 m))] 0 0)),
          hY 34 (dF hq34),
          hP 35 (dF hq34)] ?_
        by_cases hq35 : cntM m (aH.mk (hasM m.f_Kind).f_View (hasM m.f_Kind).f_Seq (hasM m.f_Kind).f_Client (hasM m.f_Kind).f_Digest (hasM m.f_Kind).f_Data (hasM m.f_Kind).f_Result (hasM m.f_Kind).f_Batch (hasM m.f_Kind).f_Pres (hasM m.f_Kind).f_Certs)
        ·refine cF (cn (dT hq35)) ?_
         refine T.skip (nT ?_)
         refine sR [] ?_
         refine T.ret ?_
         exact eRt 2 (Z44) [] (cI (by exact if_pos ((well_iff m).2 ⟨‹_›, ‹_›, ‹_›, ‹_›, ‹_›, (fun h8 => by exact absurd h8.1 ‹_›), (fun h8 => by exact absurd ‹_› h8.1), (fun h8 => by exact absurd ‹_› h8.1), (fun h8 => by exact absurd h8.2 ‹_›), ‹_›⟩))) trivial
        refine cT (cn (dF hq35)) ?_
        refine sR [] ?_
        refine T.ret (rT ?_)
        exact eRt 2 (Z42) [] (cI (by exact if_neg (fun h9 => by obtain ⟨q1, q2, q3, q4, q5, q6, q7, q8, q9, q10⟩ := (well_iff m).1 h9; exact absurd q10 ‹_›))) trivial
       replace hq31 := Bool.eq_false_iff.2 hq31
       by_cases hq36 : ((m.f_Data.length : Nat) : Int) > 0
       ·refine sR [hN 4 true (cn hq30),
          hN 5 true (cn hq30),
          hN 6 true (cn hq30),
          hP 7 (cn hq30),
          hY0 9,
          hY0 10,
          hY0 11,
          hY0 12,
          hY 13 (cn hq31),
          hY 14 (cn hq31),
          hY 15 (cn hq31),
          hY 16 (cn hq31),
          hS 17 (oY (b := false) rfl rfl rfl rfl (lt_of rfl) rfl (r_pickT (b := (!(hasM m.f_Kind).f_Data)) (av := (Z48 m)) (lt_of rfl) trivial (cn hq31))),
          hP0 18,
          hN 20 false (dT hq36),
          hN 21 false (dT hq36),
          hN 22 false (dT hq36),
          hN 23 false (dT hq36),
          hU 24,
          hU 25,
          hU 26,
          hU 27,
          hN 28 false (dT hq36),
          hP 29 (dT hq36),
          hN0 31,
          hN0 32,
          hN0 33,
          hN0 34,
          hP1 35] ?_
        refine cT (b := true) rfl ?_
        refine sR [] ?_
        refine T.ret (rT ?_)
        exact eRt 2 (Z42) [] (cI (by exact if_neg (fun h9 => by obtain ⟨q1, q2, q3, q4, q5, q6, q7, q8, q9, q10⟩ := (well_iff m).1 h9; exact q8 ⟨(by exact nbB ‹_›), by assumption⟩))) trivial
       by_cases hq37 : (hasM m.f_Kind).f_Result = true
       ·refine sR [hN 4 true (cn hq30),
          hN 5 true (cn hq30),
          hN 6 true (cn hq30),
          hP 7 (cn hq30),
          hY0 9,
          hY0 10,
          hY0 11,
          hY0 12,
          hY 13 (cn hq31),
          hY 14 (cn hq31),
          hY 15 (cn hq31),
          hY 16 (cn hq31),
          hS 17 (oY (b := false) rfl rfl rfl rfl (lt_of rfl) rfl (r_pickT (b := (!(hasM m.f_Kind).f_Data)) (av := (Z48 m)) (lt_of rfl) trivial (cn hq31))),
          hP0 18,
          hY 20 (dF hq36),
          hY 21 (dF hq36),
          hY 22 (dF hq36),
          hY 23 (dF hq36),
          hN 24 true (cn hq37),
          hN 25 true (cn hq37),
          hN 26 true (cn hq37),
          hN 27 true (cn hq37),
          hS 28 (oY rfl rfl rfl rfl (lt_of rfl) (dF hq36) (r_pickF (b := (!(hasM m.f_Kind).f_Result)) (av := vB false) (lt_of rfl) ⟨rfl, trivial⟩ (cn hq37))),
          hP 29 (dF hq36),
          hY0 31,
          hY0 32,
          hS 33 (oY (b := false) rfl rfl rfl rfl (lt_of rfl) rfl (rCa (ref12_counts tm m (aH.mk (hasM m.f_Kind).f_View (hasM m.f_Kind).f_Seq (hasM m.f_Kind).f_Client (hasM m.f_Kind).f_Digest (hasM m.f_Kind).f_Data (hasM m.f_Kind).f_Result (hasM m.f_Kind).f_Batch (hasM m.f_Kind).f_Pres (hasM m.f_Kind).f_Certs) ‹_› ‹_› ‹_›) Tryz.func65 [] [(.tmp 95, (Z3z tm m)), (.tmp 96, (Z43 m))] 0 0)),
          hY0 34,
          hP0 35] ?_
        by_cases hq38 : cntM m (aH.mk (hasM m.f_Kind).f_View (hasM m.f_Kind).f_Seq (hasM m.f_Kind).f_Client (hasM m.f_Kind).f_Digest (hasM m.f_Kind).f_Data (hasM m.f_Kind).f_Result (hasM m.f_Kind).f_Batch (hasM m.f_Kind).f_Pres (hasM m.f_Kind).f_Certs)
        ·refine cF (cn (dT hq38)) ?_
         refine T.skip (nT ?_)
         refine sR [] ?_
         refine T.ret ?_
         exact eRt 2 (Z44) [] (cI (by exact if_pos ((well_iff m).2 ⟨‹_›, ‹_›, ‹_›, ‹_›, ‹_›, (fun h8 => by exact absurd h8.1 ‹_›), (fun h8 => by exact absurd ‹_› h8.1), (fun h8 => by exact absurd h8.2 ‹_›), (fun h8 => by exact absurd ‹_› h8.1), ‹_›⟩))) trivial
        refine cT (cn (dF hq38)) ?_
        refine sR [] ?_
        refine T.ret (rT ?_)
        exact eRt 2 (Z42) [] (cI (by exact if_neg (fun h9 => by obtain ⟨q1, q2, q3, q4, q5, q6, q7, q8, q9, q10⟩ := (well_iff m).1 h9; exact absurd q10 ‹_›))) trivial
       replace hq37 := Bool.eq_false_iff.2 hq37
       by_cases hq39 : m.f_Result ≠ (api_Result.mk 0 0)
       ·refine sR [hN 4 true (cn hq30),
          hN 5 true (cn hq30),
          hN 6 true (cn hq30),
          hP 7 (cn hq30),
          hY0 9,
          hY0 10,
          hY0 11,
          hY0 12,
          hY 13 (cn hq31),
          hY 14 (cn hq31),
          hY 15 (cn hq31),
          hY 16 (cn hq31),
          hS 17 (oY (b := false) rfl rfl rfl rfl (lt_of rfl) rfl (r_pickT (b := (!(hasM m.f_Kind).f_Data)) (av := (Z48 m)) (lt_of rfl) trivial (cn hq31))),
          hP0 18,
          hY 20 (dF hq36),
          hY 21 (dF hq36),
          hY 22 (dF hq36),
          hY 23 (dF hq36),
          hY 24 (cn hq37),
          hY 25 (cn hq37),
          hY 26 (cn hq37),
          hS 27 (oY rfl rfl rfl rfl (lt_of rfl) (cn hq37) (r_neSt (ax := (Z45 m)) (ay := Z46) (a := m.f_Result) (b := (api_Result.mk 0 0)) seq_43 ⟨[.int .i64 m.f_Result.f_Code, .int .i64 m.f_Result.f_Stage], rfl, rfl⟩ ⟨[.int .i64 0, .int .i64 0], rfl, rfl⟩ (lt_of rfl) (by exact trivial))),
          hS 28 (oY rfl rfl rfl rfl (lt_of rfl) (dF hq36) (r_pickT (b := (!(hasM m.f_Kind).f_Result)) (av := (Z47 m)) (lt_of rfl) trivial (cn hq37))),
          hP 29 (dF hq36),
          hN 31 false (dT hq39),
          hN 32 false (dT hq39),
          hN 33 false (dT hq39),
          hN 34 false (dT hq39),
          hP 35 (dT hq39)] ?_
        refine cT (b := true) rfl ?_
        refine sR [] ?_
        refine T.ret (rT ?_)
        exact eRt 2 (Z42) [] (cI (by exact if_neg (fun h9 => by obtain ⟨q1, q2, q3, q4, q5, q6, q7, q8, q9, q10⟩ := (well_iff m).1 h9; exact q9 ⟨(by exact nbB ‹_›), by assumption⟩))) trivial
       refine sR [hN 4 true (cn hq30),
         hN 5 true (cn hq30),
         hN 6 true (cn hq30),
         hP 7 (cn hq30),
         hY0 9,
         hY0 10,
         hY0 11,
         hY0 12,
         hY 13 (cn hq31),
         hY 14 (cn hq31),
         hY 15 (cn hq31),
         hY 16 (cn hq31),
         hS 17 (oY (b := false) rfl rfl rfl rfl (lt_of rfl) rfl (r_pickT (b := (!(hasM m.f_Kind).f_Data)) (av := (Z48 m)) (lt_of rfl) trivial (cn hq31))),
         hP0 18,
         hY 20 (dF hq36),
         hY 21 (dF hq36),
         hY 22 (dF hq36),
         hY 23 (dF hq36),
         hY 24 (cn hq37),
         hY 25 (cn hq37),
         hY 26 (cn hq37),
         hS 27 (oY rfl rfl rfl rfl (lt_of rfl) (cn hq37) (r_neSt (ax := (Z45 m)) (ay := Z46) (a := m.f_Result) (b := (api_Result.mk 0 0)) seq_43 ⟨[.int .i64 m.f_Result.f_Code, .int .i64 m.f_Result.f_Stage], rfl, rfl⟩ ⟨[.int .i64 0, .int .i64 0], rfl, rfl⟩ (lt_of rfl) (by exact trivial))),
         hS 28 (oY rfl rfl rfl rfl (lt_of rfl) (dF hq36) (r_pickT (b := (!(hasM m.f_Kind).f_Result)) (av := (Z47 m)) (lt_of rfl) trivial (cn hq37))),
         hP 29 (dF hq36),
         hY 31 (dF hq39),
         hY 32 (dF hq39),
         hS 33 (oY rfl rfl rfl rfl (lt_of rfl) (dF hq39) (rCa (ref12_counts tm m (aH.mk (hasM m.f_Kind).f_View (hasM m.f_Kind).f_Seq (hasM m.f_Kind).f_Client (hasM m.f_Kind).f_Digest (hasM m.f_Kind).f_Data (hasM m.f_Kind).f_Result (hasM m.f_Kind).f_Batch (hasM m.f_Kind).f_Pres (hasM m.f_Kind).f_Certs) ‹_› ‹_› ‹_›) Tryz.func65 [] [(.tmp 95, (Z3z tm m)), (.tmp 96, (Z43 m))] 0 0)),
         hY 34 (dF hq39),
         hP 35 (dF hq39)] ?_
       by_cases hq40 : cntM m (aH.mk (hasM m.f_Kind).f_View (hasM m.f_Kind).f_Seq (hasM m.f_Kind).f_Client (hasM m.f_Kind).f_Digest (hasM m.f_Kind).f_Data (hasM m.f_Kind).f_Result (hasM m.f_Kind).f_Batch (hasM m.f_Kind).f_Pres (hasM m.f_Kind).f_Certs)
       ·refine cF (cn (dT hq40)) ?_
        refine T.skip (nT ?_)
        refine sR [] ?_
        refine T.ret ?_
        exact eRt 2 (Z44) [] (cI (by exact if_pos ((well_iff m).2 ⟨‹_›, ‹_›, ‹_›, ‹_›, ‹_›, (fun h8 => by exact absurd h8.1 ‹_›), (fun h8 => by exact absurd ‹_› h8.1), (fun h8 => by exact absurd h8.2 ‹_›), (fun h8 => by exact absurd h8.2 ‹_›), ‹_›⟩))) trivial
       refine cT (cn (dF hq40)) ?_
       refine sR [] ?_
       refine T.ret (rT ?_)
       exact eRt 2 (Z42) [] (cI (by exact if_neg (fun h9 => by obtain ⟨q1, q2, q3, q4, q5, q6, q7, q8, q9, q10⟩ := (well_iff m).1 h9; exact absurd q10 ‹_›))) trivial
      replace hq30 := Bool.eq_false_iff.2 hq30
      by_cases hq41 : m.f_Digest ≠ []
      ·refine sR [hY 4 (cn hq30),
         hY 5 (cn hq30),
         hY 6 (cn hq30),
         hP 7 (cn hq30),
         hN 9 false (dT hq41),
         hN 10 false (dT hq41),
         hN 11 false (dT hq41),
         hN 12 false (dT hq41),
         hU 13,
         hU 14,
         hU 15,
         hU 16,
         hN 17 false (dT hq41),
         hP 18 (dT hq41),
         hN0 20,
         hN0 21,
         hN0 22,
         hN0 23,
         hU 24,
         hU 25,
         hU 26,
         hU 27,
         hN0 28,
         hP1 29,
         hN0 31,
         hN0 32,
         hN0 33,
         hN0 34,
         hP1 35] ?_
       refine cT (b := true) rfl ?_
       refine sR [] ?_
       refine T.ret (rT ?_)
       exact eRt 2 (Z42) [] (cI (by exact if_neg (fun h9 => by obtain ⟨q1, q2, q3, q4, q5, q6, q7, q8, q9, q10⟩ := (well_iff m).1 h9; exact q7 ⟨(by exact nbB ‹_›), by assumption⟩))) trivial
      by_cases hq42 : (hasM m.f_Kind).f_Data = true
      ·by_cases hq43 : (hasM m.f_Kind).f_Result = true
       ·refine sR [hY 4 (cn hq30),
          hY 5 (cn hq30),
          hY 6 (cn hq30),
          hP 7 (cn hq30),
          hY 9 (dF hq41),
          hY 10 (dF hq41),
          hY 11 (dF hq41),
          hY 12 (dF hq41),
          hN 13 true (cn hq42),
          hN 14 true (cn hq42),
          hN 15 true (cn hq42),
          hN 16 true (cn hq42),
          hS 17 (oY rfl rfl rfl rfl (lt_of rfl) (dF hq41) (r_pickF (b := (!(hasM m.f_Kind).f_Data)) (av := vB false) (lt_of rfl) ⟨rfl, trivial⟩ (cn hq42))),
          hP 18 (dF hq41),
          hY0 20,
          hY0 21,
          hY0 22,
          hY0 23,
          hN 24 true (cn hq43),
          hN 25 true (cn hq43),
          hN 26 true (cn hq43),
          hN 27 true (cn hq43),
          hS 28 (oY (b := false) rfl rfl rfl rfl (lt_of rfl) rfl (r_pickF (b := (!(hasM m.f_Kind).f_Result)) (av := vB false) (lt_of rfl) ⟨rfl, trivial⟩ (cn hq43))),
          hP0 29,
          hY0 31,
          hY0 32,
          hS 33 (oY (b := false) rfl rfl rfl rfl (lt_of rfl) rfl (rCa (ref12_counts tm m (aH.mk (hasM m.f_Kind).f_View (hasM m.f_Kind).f_Seq (hasM m.f_Kind).f_Client (hasM m.f_Kind).f_Digest (hasM m.f_Kind).f_Data (hasM m.f_Kind).f_Result (hasM m.f_Kind).f_Batch (hasM m.f_Kind).f_Pres (hasM m.f_Kind).f_Certs) ‹_› ‹_› ‹_›) Tryz.func65 [] [(.tmp 95, (Z3z tm m)), (.tmp 96, (Z43 m))] 0 0)),
          hY0 34,
          hP0 35] ?_
        by_cases hq44 : cntM m (aH.mk (hasM m.f_Kind).f_View (hasM m.f_Kind).f_Seq (hasM m.f_Kind).f_Client (hasM m.f_Kind).f_Digest (hasM m.f_Kind).f_Data (hasM m.f_Kind).f_Result (hasM m.f_Kind).f_Batch (hasM m.f_Kind).f_Pres (hasM m.f_Kind).f_Certs)
        ·refine cF (cn (dT hq44)) ?_
         refine T.skip (nT ?_)
         refine sR [] ?_
         refine T.ret ?_
         exact eRt 2 (Z44) [] (cI (by exact if_pos ((well_iff m).2 ⟨‹_›, ‹_›, ‹_›, ‹_›, ‹_›, (fun h8 => by exact absurd h8.1 ‹_›), (fun h8 => by exact absurd h8.2 ‹_›), (fun h8 => by exact absurd ‹_› h8.1), (fun h8 => by exact absurd ‹_› h8.1), ‹_›⟩))) trivial
        refine cT (cn (dF hq44)) ?_
        refine sR [] ?_
        refine T.ret (rT ?_)
        exact eRt 2 (Z42) [] (cI (by exact if_neg (fun h9 => by obtain ⟨q1, q2, q3, q4, q5, q6, q7, q8, q9, q10⟩ := (well_iff m).1 h9; exact absurd q10 ‹_›))) trivial
       replace hq43 := Bool.eq_false_iff.2 hq43
       by_cases hq45 : m.f_Result ≠ (api_Result.mk 0 0)
       ·refine sR [hY 4 (cn hq30),
          hY 5 (cn hq30),
          hY 6 (cn hq30),
          hP 7 (cn hq30),
          hY 9 (dF hq41),
          hY 10 (dF hq41),
          hY 11 (dF hq41),
          hY 12 (dF hq41),
          hN 13 true (cn hq42),
          hN 14 true (cn hq42),
          hN 15 true (cn hq42),
          hN 16 true (cn hq42),
          hS 17 (oY rfl rfl rfl rfl (lt_of rfl) (dF hq41) (r_pickF (b := (!(hasM m.f_Kind).f_Data)) (av := vB false) (lt_of rfl) ⟨rfl, trivial⟩ (cn hq42))),
          hP 18 (dF hq41),
          hY0 20,
          hY0 21,
          hY0 22,
          hY0 23,
          hY 24 (cn hq43),
          hY 25 (cn hq43),
          hY 26 (cn hq43),
          hS 27 (oY rfl rfl rfl rfl (lt_of rfl) (cn hq43) (r_neSt (ax := (Z45 m)) (ay := Z46) (a := m.f_Result) (b := (api_Result.mk 0 0)) seq_43 ⟨[.int .i64 m.f_Result.f_Code, .int .i64 m.f_Result.f_Stage], rfl, rfl⟩ ⟨[.int .i64 0, .int .i64 0], rfl, rfl⟩ (lt_of rfl) (by exact trivial))),
          hS 28 (oY (b := false) rfl rfl rfl rfl (lt_of rfl) rfl (r_pickT (b := (!(hasM m.f_Kind).f_Result)) (av := (Z47 m)) (lt_of rfl) trivial (cn hq43))),
          hP0 29,
          hN 31 false (dT hq45),
          hN 32 false (dT hq45),
          hN 33 false (dT hq45),
          hN 34 false (dT hq45),
          hP 35 (dT hq45)] ?_
        refine cT (b := true) rfl ?_
        refine sR [] ?_
        refine T.ret (rT ?_)
        exact eRt 2 (Z42) [] (cI (by exact if_neg (fun h9 => by obtain ⟨q1, q2, q3, q4, q5, q6, q7, q8, q9, q10⟩ := (well_iff m).1 h9; exact q9 ⟨(by exact nbB ‹_›), by assumption⟩))) trivial
       refine sR [hY 4 (cn hq30),
         hY 5 (cn hq30),
         hY 6 (cn hq30),
         hP 7 (cn hq30),
         hY 9 (dF hq41),
         hY 10 (dF hq41),
         hY 11 (dF hq41),
         hY 12 (dF hq41),
         hN 13 true (cn hq42),
         hN 14 true (cn hq42),
         hN 15 true (cn hq42),
         hN 16 true (cn hq42),
         hS 17 (oY rfl rfl rfl rfl (lt_of rfl) (dF hq41) (r_pickF (b := (!(hasM m.f_Kind).f_Data)) (av := vB false) (lt_of rfl) ⟨rfl, trivial⟩ (cn hq42))),
         hP 18 (dF hq41),
         hY0 20,
         hY0 21,
         hY0 22,
         hY0 23,
         hY 24 (cn hq43),
         hY 25 (cn hq43),
         hY 26 (cn hq43),
         hS 27 (oY rfl rfl rfl rfl (lt_of rfl) (cn hq43) (r_neSt (ax := (Z45 m)) (ay := Z46) (a := m.f_Result) (b := (api_Result.mk 0 0)) seq_43 ⟨[.int .i64 m.f_Result.f_Code, .int .i64 m.f_Result.f_Stage], rfl, rfl⟩ ⟨[.int .i64 0, .int .i64 0], rfl, rfl⟩ (lt_of rfl) (by exact trivial))),
         hS 28 (oY (b := false) rfl rfl rfl rfl (lt_of rfl) rfl (r_pickT (b := (!(hasM m.f_Kind).f_Result)) (av := (Z47 m)) (lt_of rfl) trivial (cn hq43))),
         hP0 29,
         hY 31 (dF hq45),
         hY 32 (dF hq45),
         hS 33 (oY rfl rfl rfl rfl (lt_of rfl) (dF hq45) (rCa (ref12_counts tm m (aH.mk (hasM m.f_Kind).f_View (hasM m.f_Kind).f_Seq (hasM m.f_Kind).f_Client (hasM m.f_Kind).f_Digest (hasM m.f_Kind).f_Data (hasM m.f_Kind).f_Result (hasM m.f_Kind).f_Batch (hasM m.f_Kind).f_Pres (hasM m.f_Kind).f_Certs) ‹_› ‹_› ‹_›) Tryz.func65 [] [(.tmp 95, (Z3z tm m)), (.tmp 96, (Z43 m))] 0 0)),
         hY 34 (dF hq45),
         hP 35 (dF hq45)] ?_
       by_cases hq46 : cntM m (aH.mk (hasM m.f_Kind).f_View (hasM m.f_Kind).f_Seq (hasM m.f_Kind).f_Client (hasM m.f_Kind).f_Digest (hasM m.f_Kind).f_Data (hasM m.f_Kind).f_Result (hasM m.f_Kind).f_Batch (hasM m.f_Kind).f_Pres (hasM m.f_Kind).f_Certs)
       ·refine cF (cn (dT hq46)) ?_
        refine T.skip (nT ?_)
        refine sR [] ?_
        refine T.ret ?_
        exact eRt 2 (Z44) [] (cI (by exact if_pos ((well_iff m).2 ⟨‹_›, ‹_›, ‹_›, ‹_›, ‹_›, (fun h8 => by exact absurd h8.1 ‹_›), (fun h8 => by exact absurd h8.2 ‹_›), (fun h8 => by exact absurd ‹_› h8.1), (fun h8 => by exact absurd h8.2 ‹_›), ‹_›⟩))) trivial
       refine cT (cn (dF hq46)) ?_
       refine sR [] ?_
       refine T.ret (rT ?_)
       exact eRt 2 (Z42) [] (cI (by exact if_neg (fun h9 => by obtain ⟨q1, q2, q3, q4, q5, q6, q7, q8, q9, q10⟩ := (well_iff m).1 h9; exact absurd q10 ‹_›))) trivial
      replace hq42 := Bool.eq_false_iff.2 hq42
      by_cases hq47 : ((m.f_Data.length : Nat) : Int) > 0
      ·refine sR [hY 4 (cn hq30),
         hY 5 (cn hq30),
         hY 6 (cn hq30),
         hP 7 (cn hq30),
         hY 9 (dF hq41),
         hY 10 (dF hq41),
         hY 11 (dF hq41),
         hY 12 (dF hq41),
         hY 13 (cn hq42),
         hY 14 (cn hq42),
         hY 15 (cn hq42),
         hY 16 (cn hq42),
         hS 17 (oY rfl rfl rfl rfl (lt_of rfl) (dF hq41) (r_pickT (b := (!(hasM m.f_Kind).f_Data)) (av := (Z48 m)) (lt_of rfl) trivial (cn hq42))),
         hP 18 (dF hq41),
         hN 20 false (dT hq47),
         hN 21 false (dT hq47),
         hN 22 false (dT hq47),
         hN 23 false (dT hq47),
         hU 24,
         hU 25,
         hU 26,
         hU 27,
         hN 28 false (dT hq47),
         hP 29 (dT hq47),
         hN0 31,
         hN0 32,
         hN0 33,
         hN0 34,
         hP1 35] ?_
       refine cT (b := true) rfl ?_
       refine sR [] ?_
       refine T.ret (rT ?_)
       exact eRt 2 (Z42) [] (cI (by exact if_neg (fun h9 => by obtain ⟨q1, q2, q3, q4, q5, q6, q7, q8, q9, q10⟩ := (well_iff m).1 h9; exact q8 ⟨(by exact nbB ‹_›), by assumption⟩))) trivial
      by_cases hq48 : (hasM m.f_Kind).f_Result = true
      ·refine sR [hY 4 (cn hq30),
         hY 5 (cn hq30),
         hY 6 (cn hq30),
         hP 7 (cn hq30),
         hY 9 (dF hq41),
         hY 10 (dF hq41),
         hY 11 (dF hq41),
         hY 12 (dF hq41),
         hY 13 (cn hq42),
         hY 14 (cn hq42),
         hY 15 (cn hq42),
         hY 16 (cn hq42),
         hS 17 (oY rfl rfl rfl rfl (lt_of rfl) (dF hq41) (r_pickT (b := (!(hasM m.f_Kind).f_Data)) (av := (Z48 m)) (lt_of rfl) trivial (cn hq42))),
         hP 18 (dF hq41),
         hY 20 (dF hq47),
         hY 21 (dF hq47),
         hY 22 (dF hq47),
         hY 23 (dF hq47),
         hN 24 true (cn hq48),
         hN 25 true (cn hq48),
         hN 26 true (cn hq48),
         hN 27 true (cn hq48),
         hS 28 (oY rfl rfl rfl rfl (lt_of rfl) (dF hq47) (r_pickF (b := (!(hasM m.f_Kind).f_Result)) (av := vB false) (lt_of rfl) ⟨rfl, trivial⟩ (cn hq48))),
         hP 29 (dF hq47),
         hY0 31,
         hY0 32,
         hS 33 (oY (b := false) rfl rfl rfl rfl (lt_of rfl) rfl (rCa (ref12_counts tm m (aH.mk (hasM m.f_Kind).f_View (hasM m.f_Kind).f_Seq (hasM m.f_Kind).f_Client (hasM m.f_Kind).f_Digest (hasM m.f_Kind).f_Data (hasM m.f_Kind).f_Result (hasM m.f_Kind).f_Batch (hasM m.f_Kind).f_Pres (hasM m.f_Kind).f_Certs) ‹_› ‹_› ‹_›) Tryz.func65 [] [(.tmp 95, (Z3z tm m)), (.tmp 96, (Z43 m))] 0 0)),
         hY0 34,
         hP0 35] ?_
       by_cases hq49 : cntM m (aH.mk (hasM m.f_Kind).f_View (hasM m.f_Kind).f_Seq (hasM m.f_Kind).f_Client (hasM m.f_Kind).f_Digest (hasM m.f_Kind).f_Data (hasM m.f_Kind).f_Result (hasM m.f_Kind).f_Batch (hasM m.f_Kind).f_Pres (hasM m.f_Kind).f_Certs)
       ·refine cF (cn (dT hq49)) ?_
        refine T.skip (nT ?_)
        refine sR [] ?_
        refine T.ret ?_
        exact eRt 2 (Z44) [] (cI (by exact if_pos ((well_iff m).2 ⟨‹_›, ‹_›, ‹_›, ‹_›, ‹_›, (fun h8 => by exact absurd h8.1 ‹_›), (fun h8 => by exact absurd h8.2 ‹_›), (fun h8 => by exact absurd h8.2 ‹_›), (fun h8 => by exact absurd ‹_› h8.1), ‹_›⟩))) trivial
       refine cT (cn (dF hq49)) ?_
       refine sR [] ?_
       refine T.ret (rT ?_)
       exact eRt 2 (Z42) [] (cI (by exact if_neg (fun h9 => by obtain ⟨q1, q2, q3, q4, q5, q6, q7, q8, q9, q10⟩ := (well_iff m).1 h9; exact absurd q10 ‹_›))) trivial
      replace hq48 := Bool.eq_false_iff.2 hq48
      by_cases hq50 : m.f_Result ≠ (api_Result.mk 0 0)
      ·refine sR [hY 4 (cn hq30),
         hY 5 (cn hq30),
         hY 6 (cn hq30),
         hP 7 (cn hq30),
         hY 9 (dF hq41),
         hY 10 (dF hq41),
         hY 11 (dF hq41),
         hY 12 (dF hq41),
         hY 13 (cn hq42),
         hY 14 (cn hq42),
         hY 15 (cn hq42),
         hY 16 (cn hq42),
         hS 17 (oY rfl rfl rfl rfl (lt_of rfl) (dF hq41) (r_pickT (b := (!(hasM m.f_Kind).f_Data)) (av := (Z48 m)) (lt_of rfl) trivial (cn hq42))),
         hP 18 (dF hq41),
         hY 20 (dF hq47),
         hY 21 (dF hq47),
         hY 22 (dF hq47),
         hY 23 (dF hq47),
         hY 24 (cn hq48),
         hY 25 (cn hq48),
         hY 26 (cn hq48),
         hS 27 (oY rfl rfl rfl rfl (lt_of rfl) (cn hq48) (r_neSt (ax := (Z45 m)) (ay := Z46) (a := m.f_Result) (b := (api_Result.mk 0 0)) seq_43 ⟨[.int .i64 m.f_Result.f_Code, .int .i64 m.f_Result.f_Stage], rfl, rfl⟩ ⟨[.int .i64 0, .int .i64 0], rfl, rfl⟩ (lt_of rfl) (by exact trivial))),
         hS 28 (oY rfl rfl rfl rfl (lt_of rfl) (dF hq47) (r_pickT (b := (!(hasM m.f_Kind).f_Result)) (av := (Z47 m)) (lt_of rfl) trivial (cn hq48))),
         hP 29 (dF hq47),
         hN 31 false (dT hq50),
         hN 32 false (dT hq50),
         hN 33 false (dT hq50),
         hN 34 false (dT hq50),
         hP 35 (dT hq50)] ?_
       refine cT (b := true) rfl ?_
       refine sR [] ?_
       refine T.ret (rT ?_)
       exact eRt 2 (Z42) [] (cI (by exact if_neg (fun h9 => by obtain ⟨q1, q2, q3, q4, q5, q6, q7, q8, q9, q10⟩ := (well_iff m).1 h9; exact q9 ⟨(by exact nbB ‹_›), by assumption⟩))) trivial
      refine sR [hY 4 (cn hq30),
        hY 5 (cn hq30),
        hY 6 (cn hq30),
        hP 7 (cn hq30),
        hY 9 (dF hq41),
        hY 10 (dF hq41),
        hY 11 (dF hq41),
        hY 12 (dF hq41),
        hY 13 (cn hq42),
        hY 14 (cn hq42),
        hY 15 (cn hq42),
        hY 16 (cn hq42),
        hS 17 (oY rfl rfl rfl rfl (lt_of rfl) (dF hq41) (r_pickT (b := (!(hasM m.f_Kind).f_Data)) (av := (Z48 m)) (lt_of rfl) trivial (cn hq42))),
        hP 18 (dF hq41),
        hY 20 (dF hq47),
        hY 21 (dF hq47),
        hY 22 (dF hq47),
        hY 23 (dF hq47),
        hY 24 (cn hq48),
        hY 25 (cn hq48),
        hY 26 (cn hq48),
        hS 27 (oY rfl rfl rfl rfl (lt_of rfl) (cn hq48) (r_neSt (ax := (Z45 m)) (ay := Z46) (a := m.f_Result) (b := (api_Result.mk 0 0)) seq_43 ⟨[.int .i64 m.f_Result.f_Code, .int .i64 m.f_Result.f_Stage], rfl, rfl⟩ ⟨[.int .i64 0, .int .i64 0], rfl, rfl⟩ (lt_of rfl) (by exact trivial))),
        hS 28 (oY rfl rfl rfl rfl (lt_of rfl) (dF hq47) (r_pickT (b := (!(hasM m.f_Kind).f_Result)) (av := (Z47 m)) (lt_of rfl) trivial (cn hq48))),
        hP 29 (dF hq47),
        hY 31 (dF hq50),
        hY 32 (dF hq50),
        hS 33 (oY rfl rfl rfl rfl (lt_of rfl) (dF hq50) (rCa (ref12_counts tm m (aH.mk (hasM m.f_Kind).f_View (hasM m.f_Kind).f_Seq (hasM m.f_Kind).f_Client (hasM m.f_Kind).f_Digest (hasM m.f_Kind).f_Data (hasM m.f_Kind).f_Result (hasM m.f_Kind).f_Batch (hasM m.f_Kind).f_Pres (hasM m.f_Kind).f_Certs) ‹_› ‹_› ‹_›) Tryz.func65 [] [(.tmp 95, (Z3z tm m)), (.tmp 96, (Z43 m))] 0 0)),
        hY 34 (dF hq50),
        hP 35 (dF hq50)] ?_
      by_cases hq51 : cntM m (aH.mk (hasM m.f_Kind).f_View (hasM m.f_Kind).f_Seq (hasM m.f_Kind).f_Client (hasM m.f_Kind).f_Digest (hasM m.f_Kind).f_Data (hasM m.f_Kind).f_Result (hasM m.f_Kind).f_Batch (hasM m.f_Kind).f_Pres (hasM m.f_Kind).f_Certs)
      ·refine cF (cn (dT hq51)) ?_
       refine T.skip (nT ?_)
       refine sR [] ?_
       refine T.ret ?_
       exact eRt 2 (Z44) [] (cI (by exact if_pos ((well_iff m).2 ⟨‹_›, ‹_›, ‹_›, ‹_›, ‹_›, (fun h8 => by exact absurd h8.1 ‹_›), (fun h8 => by exact absurd h8.2 ‹_›), (fun h8 => by exact absurd h8.2 ‹_›), (fun h8 => by exact absurd h8.2 ‹_›), ‹_›⟩))) trivial
      refine cT (cn (dF hq51)) ?_
      refine sR [] ?_
      refine T.ret (rT ?_)
      exact eRt 2 (Z42) [] (cI (by exact if_neg (fun h9 => by obtain ⟨q1, q2, q3, q4, q5, q6, q7, q8, q9, q10⟩ := (well_iff m).1 h9; exact absurd q10 ‹_›))) trivial
     refine cT (cn (dF hq5)) ?_
     refine sR [] ?_
     refine T.ret (rT ?_)
     exact eRt 2 (Z42) [] (cI (by exact if_neg (fun h9 => by obtain ⟨q1, q2, q3, q4, q5, q6, q7, q8, q9, q10⟩ := (well_iff m).1 h9; exact absurd q5 ‹_›))) trivial
    refine sR [hY 3 (cn (dT hq1)),
      hY 4 (cn (dT hq1)),
      hY 5 (cn (dT hq1)),
      hY 6 (cn (dT hq1)),
      hY 7 (cn (dT hq1)),
      hS 8 (oY rfl rfl rfl rfl (lt_of rfl) (cn (dT hq1)) (rCa (ref12_number m.f_View (hasM m.f_Kind).f_View (fstV m.f_Kind) ) Tryz.func64 [] [(.tmp 23, vI m.f_View), (.tmp 25, (Z40 m)), (.tmp 26, (Z41 m))] 0 0)),
      hY 9 (cn (dT hq1)),
      hP 10 (cn (dT hq1)),
      hY 12 (cn (dT hq2)),
      hY 13 (cn (dT hq2)),
      hY 14 (cn (dT hq2)),
      hY 15 (cn (dT hq2)),
      hY 16 (cn (dT hq2)),
      hS 17 (oY rfl rfl rfl rfl (lt_of rfl) (cn (dT hq2)) (rCa (ref12_number m.f_Seq (hasM m.f_Kind).f_Seq (fstS m.f_Kind) ) Tryz.func64 [] [(.tmp 32, vI m.f_Seq), (.tmp 34, vB (hasM m.f_Kind).f_Seq), (.tmp 35, vI (fstS m.f_Kind))] 0 0)),
      hY 18 (cn (dT hq2)),
      hP 19 (cn (dT hq2)),
      hY 21 (cn (dT hq3)),
      hY 22 (cn (dT hq3)),
      hY 23 (cn (dT hq3)),
      hY 24 (cn (dT hq3)),
      hS 25 (oY rfl rfl rfl rfl (lt_of rfl) (cn (dT hq3)) (rCa (ref12_number m.f_Client (hasM m.f_Kind).f_Client 0 ) Tryz.func64 [] [(.tmp 41, vI m.f_Client), (.tmp 43, vB (hasM m.f_Kind).f_Client), (.const (.int .i64 0), vI 0)] 0 0)),
      hY 26 (cn (dT hq3)),
      hP 27 (cn (dT hq3)),
      hN 29 false (cn (dF hq4)),
      hN 30 false (cn (dF hq4)),
      hN 31 false (cn (dF hq4)),
      hN 32 false (cn (dF hq4)),
      hN 33 false (cn (dF hq4)),
      hN 34 false (cn (dF hq4)),
      hP 35 (cn (dF hq4))] ?_
    refine cT (b := true) rfl ?_
    refine sR [] ?_
    refine T.ret (rT ?_)
    exact eRt 2 (Z42) [] (cI (by exact if_neg (fun h9 => by obtain ⟨q1, q2, q3, q4, q5, q6, q7, q8, q9, q10⟩ := (well_iff m).1 h9; exact absurd q4 ‹_›))) trivial
   refine sR [hY 3 (cn (dT hq1)),
     hY 4 (cn (dT hq1)),
     hY 5 (cn (dT hq1)),
     hY 6 (cn (dT hq1)),
     hY 7 (cn (dT hq1)),
     hS 8 (oY rfl rfl rfl rfl (lt_of rfl) (cn (dT hq1)) (rCa (ref12_number m.f_View (hasM m.f_Kind).f_View (fstV m.f_Kind) ) Tryz.func64 [] [(.tmp 23, vI m.f_View), (.tmp 25, (Z40 m)), (.tmp 26, (Z41 m))] 0 0)),
     hY 9 (cn (dT hq1)),
     hP 10 (cn (dT hq1)),
     hY 12 (cn (dT hq2)),
     hY 13 (cn (dT hq2)),
     hY 14 (cn (dT hq2)),
     hY 15 (cn (dT hq2)),
     hY 16 (cn (dT hq2)),
     hS 17 (oY rfl rfl rfl rfl (lt_of rfl) (cn (dT hq2)) (rCa (ref12_number m.f_Seq (hasM m.f_Kind).f_Seq (fstS m.f_Kind) ) Tryz.func64 [] [(.tmp 32, vI m.f_Seq), (.tmp 34, vB (hasM m.f_Kind).f_Seq), (.tmp 35, vI (fstS m.f_Kind))] 0 0)),
     hY 18 (cn (dT hq2)),
     hP 19 (cn (dT hq2)),
     hN 21 false (cn (dF hq3)),
     hN 22 false (cn (dF hq3)),
     hN 23 false (cn (dF hq3)),
     hN 24 false (cn (dF hq3)),
     hN 25 false (cn (dF hq3)),
     hN 26 false (cn (dF hq3)),
     hP 27 (cn (dF hq3)),
     hN0 29,
     hN0 30,
     hN0 31,
     hN0 32,
     hN0 33,
     hN0 34,
     hP1 35] ?_
   refine cT (b := true) rfl ?_
   refine sR [] ?_
   refine T.ret (rT ?_)
   exact eRt 2 (Z42) [] (cI (by exact if_neg (fun h9 => by obtain ⟨q1, q2, q3, q4, q5, q6, q7, q8, q9, q10⟩ := (well_iff m).1 h9; exact absurd q3 ‹_›))) trivial
  refine sR [hY 3 (cn (dT hq1)),
    hY 4 (cn (dT hq1)),
    hY 5 (cn (dT hq1)),
    hY 6 (cn (dT hq1)),
    hY 7 (cn (dT hq1)),
    hS 8 (oY rfl rfl rfl rfl (lt_of rfl) (cn (dT hq1)) (rCa (ref12_number m.f_View (hasM m.f_Kind).f_View (fstV m.f_Kind) ) Tryz.func64 [] [(.tmp 23, vI m.f_View), (.tmp 25, (Z40 m)), (.tmp 26, (Z41 m))] 0 0)),
    hY 9 (cn (dT hq1)),
    hP 10 (cn (dT hq1)),
    hN 12 false (cn (dF hq2)),
    hN 13 false (cn (dF hq2)),
    hN 14 false (cn (dF hq2)),
    hN 15 false (cn (dF hq2)),
    hN 16 false (cn (dF hq2)),
    hN 17 false (cn (dF hq2)),
    hN 18 false (cn (dF hq2)),
    hP 19 (cn (dF hq2)),
    hN0 21,
    hN0 22,
    hN0 23,
    hN0 24,
    hN0 25,
    hN0 26,
    hP1 27,
    hN0 29,
    hN0 30,
    hN0 31,
    hN0 32,
    hN0 33,
    hN0 34,
    hP1 35] ?_
  refine cT (b := true) rfl ?_
  refine sR [] ?_
  refine T.ret (rT ?_)
  exact eRt 2 (Z42) [] (cI (by exact if_neg (fun h9 => by obtain ⟨q1, q2, q3, q4, q5, q6, q7, q8, q9, q10⟩ := (well_iff m).1 h9; exact absurd q2 ‹_›))) trivial
 refine sR [hN 3 false (cn (dF hq1)),
   hN 4 false (cn (dF hq1)),
   hN 5 false (cn (dF hq1)),
   hN 6 false (cn (dF hq1)),
   hN 7 false (cn (dF hq1)),
   hN 8 false (cn (dF hq1)),
   hN 9 false (cn (dF hq1)),
   hP 10 (cn (dF hq1)),
   hN0 12,
   hN0 13,
   hN0 14,
   hN0 15,
   hN0 16,
   hN0 17,
   hN0 18,
   hP1 19,
   hN0 21,
   hN0 22,
   hN0 23,
   hN0 24,
   hN0 25,
   hN0 26,
   hP1 27,
   hN0 29,
   hN0 30,
   hN0 31,
   hN0 32,
   hN0 33,
   hN0 34,
   hP1 35] ?_
 refine cT (b := true) rfl ?_
 refine sR [] ?_
 refine T.ret (rT ?_)
 exact eRt 2 (Z42) [] (cI (by exact if_neg (fun h9 => by obtain ⟨q1, q2, q3, q4, q5, q6, q7, q8, q9, q10⟩ := (well_iff m).1 h9; exact absurd q1 ‹_›))) trivial
end Go.Proofs.YtalapplihdmenaaGreat.Q
