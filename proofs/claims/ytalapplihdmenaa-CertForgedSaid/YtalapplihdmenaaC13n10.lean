import Derived.Test.YtalapplihdmenaaC13n9
namespace Go.Proofs.Ytalapplihdmenaa.Q
open Go Go.RowKit
set_option linter.unusedVariables false
set_option linter.unusedSimpArgs false
set_option maxRecDepth 100000
set_option maxHeartbeats 4000000
theorem iat_51 : Try.prog.info? 51 = some Try.t51 := by kernel_rfl
theorem wide_51 : Wide Try.prog 51 (some 12) := ⟨_, _, Try.underlying51, .inl ⟨_, rfl⟩, iat_51, rfl⟩
section
variable (tm : Bool) (m : api_Message)
abbrev zc734_0 : AV := .tv (.agg [dI m.f_Kind, dI m.f_View, dI m.f_Seq, dI m.f_Client, dI m.f_Stamp, dS m.f_Digest, .d (dsl tm false kU8 m.f_Data), dI m.f_Result.f_Code, dI m.f_Result.f_Stage, .d (dsl tm false (k_api_Envelope tm) m.f_Batch), .d (dsl tm false (k_api_Envelope tm) m.f_Pres), .d (dsl tm false (k_api_Cert tm) m.f_Certs)])
abbrev zc734_1 : AV := vB (hasM m.f_Kind).f_View
abbrev zc734_2 : AV := vI (fstV m.f_Kind)
abbrev zc734_3 : TV := .one (dI 120)
abbrev zc734_4 : AV := .tv (.agg [dB (hasM m.f_Kind).f_View, dB (hasM m.f_Kind).f_Seq, dB (hasM m.f_Kind).f_Client, dB (hasM m.f_Kind).f_Digest, dB (hasM m.f_Kind).f_Data, dB (hasM m.f_Kind).f_Result, dB (hasM m.f_Kind).f_Batch, dB (hasM m.f_Kind).f_Pres, dB (hasM m.f_Kind).f_Certs])
abbrev zc734_5 : TV := .one (dI 0)
abbrev zc734_6 : AV := .tv (.agg [dI m.f_Result.f_Code, dI m.f_Result.f_Stage])
abbrev zc734_7 : AV := .tv (.agg [dI 0, dI 0])
abbrev zc734_8 : AV := vB (decide (m.f_Result ≠ (api_Result.mk 0 0)))
abbrev zc734_9 : AV := vB (decide (((m.f_Data.length : Nat) : Int) > 0))
end
theorem ref12_Check (tm : Bool) (m : api_Message) (hq : m.f_Batch.length ≤ 9223372036854775807) (hr : m.f_Pres.length ≤ 9223372036854775807) (hc : m.f_Certs.length ≤ 9223372036854775807) (hd : m.f_Data.length ≤ 9223372036854775807) (hg : m.f_Digest.length ≤ 9223372036854775807) : Holds Try.prog 63 ⟨[.tv (.agg [dI m.f_Kind, dI m.f_View, dI m.f_Seq, dI m.f_Client, dI m.f_Stamp, dS m.f_Digest, .d (dsl tm false kU8 m.f_Data), dI m.f_Result.f_Code, dI m.f_Result.f_Stage, .d (dsl tm false (k_api_Envelope tm) m.f_Batch), .d (dsl tm false (k_api_Envelope tm) m.f_Pres), .d (dsl tm false (k_api_Cert tm) m.f_Certs)])], [], vI (chkM m), []⟩ := by
 refine Holds.of Try.func63 rfl (N := 100) Try.ntmps63 rfl fun w0 B0 S0 U0 => ?_
 show T _ (mkBase 100 0 w0 S0 U0 B0) ⟨[(zc734_0 tm m)], []⟩ _ _
 refine sR [] ?_
 refine sR [hR 2 rfl rfl (rCa (ref12_fields m.f_Kind ) Try.func64 [] [(.tmp 9, vI m.f_Kind)] 0 0)] ?_
 refine sR [hR 2 rfl rfl (rCa (ref12_firsts m.f_Kind ) Try.func86 [] [(.tmp 15, vI m.f_Kind)] 0 0)] ?_
 refine T.seq ?_
 by_cases hq1 : okK m.f_Kind
 ·by_cases hq2 : numM m.f_View (hasM m.f_Kind).f_View (fstV m.f_Kind)
  ·by_cases hq3 : numM m.f_Seq (hasM m.f_Kind).f_Seq (fstS m.f_Kind)
   ·by_cases hq4 : numM m.f_Client (hasM m.f_Kind).f_Client 0
    ·refine sR [hY 3 (congrArg Bool.not (decide_eq_true hq1)),
       hY 4 (congrArg Bool.not (decide_eq_true hq1)),
       hY 5 (congrArg Bool.not (decide_eq_true hq1)),
       hY 6 (congrArg Bool.not (decide_eq_true hq1)),
       hY 7 (congrArg Bool.not (decide_eq_true hq1)),
       hS 8 (oY rfl rfl rfl rfl (lt_of rfl) (congrArg Bool.not (decide_eq_true hq1)) (rCa (ref12_number m.f_View (hasM m.f_Kind).f_View (fstV m.f_Kind) ) Try.func87 [] [(.tmp 23, vI m.f_View), (.tmp 25, (zc734_1 m)), (.tmp 26, (zc734_2 m))] 0 0)),
       hY 9 (congrArg Bool.not (decide_eq_true hq1)),
       hP 10 (congrArg Bool.not (decide_eq_true hq1)),
       hY 12 (congrArg Bool.not (decide_eq_true hq2)),
       hY 13 (congrArg Bool.not (decide_eq_true hq2)),
       hY 14 (congrArg Bool.not (decide_eq_true hq2)),
       hY 15 (congrArg Bool.not (decide_eq_true hq2)),
       hY 16 (congrArg Bool.not (decide_eq_true hq2)),
       hS 17 (oY rfl rfl rfl rfl (lt_of rfl) (congrArg Bool.not (decide_eq_true hq2)) (rCa (ref12_number m.f_Seq (hasM m.f_Kind).f_Seq (fstS m.f_Kind) ) Try.func87 [] [(.tmp 32, vI m.f_Seq), (.tmp 34, vB (hasM m.f_Kind).f_Seq), (.tmp 35, vI (fstS m.f_Kind))] 0 0)),
       hY 18 (congrArg Bool.not (decide_eq_true hq2)),
       hP 19 (congrArg Bool.not (decide_eq_true hq2)),
       hY 21 (congrArg Bool.not (decide_eq_true hq3)),
       hY 22 (congrArg Bool.not (decide_eq_true hq3)),
       hY 23 (congrArg Bool.not (decide_eq_true hq3)),
       hY 24 (congrArg Bool.not (decide_eq_true hq3)),
       hS 25 (oY rfl rfl rfl rfl (lt_of rfl) (congrArg Bool.not (decide_eq_true hq3)) (rCa (ref12_number m.f_Client (hasM m.f_Kind).f_Client 0 ) Try.func87 [] [(.tmp 41, vI m.f_Client), (.tmp 43, vB (hasM m.f_Kind).f_Client), (.const (.int .i64 0), vI 0)] 0 0)),
       hY 26 (congrArg Bool.not (decide_eq_true hq3)),
       hP 27 (congrArg Bool.not (decide_eq_true hq3)),
       hY 29 (congrArg Bool.not (decide_eq_true hq4)),
       hY 30 (congrArg Bool.not (decide_eq_true hq4)),
       hY 31 (congrArg Bool.not (decide_eq_true hq4)),
       hY 32 (congrArg Bool.not (decide_eq_true hq4)),
       hS 33 (oY rfl rfl rfl rfl (lt_of rfl) (congrArg Bool.not (decide_eq_true hq4)) (rCa (ref12_number m.f_Stamp (hasM m.f_Kind).f_Client 1 ) Try.func87 [] [(.tmp 49, vI m.f_Stamp), (.tmp 51, vB (hasM m.f_Kind).f_Client), (.const (.int .i64 1), vI 1)] 0 0)),
       hY 34 (congrArg Bool.not (decide_eq_true hq4)),
       hP 35 (congrArg Bool.not (decide_eq_true hq4))] ?_
     by_cases hq5 : numM m.f_Stamp (hasM m.f_Kind).f_Client 1
     ·refine cF (congrArg Bool.not (decide_eq_true hq5)) ?_
      refine T.skip (nT (T.seq ?_))
      by_cases hq6 : m.f_Kind = 1
      ·refine sR [hY 4 (decide_eq_true hq6),
         hY 5 (decide_eq_true hq6),
         hY 6 (decide_eq_true hq6),
         hY 7 (decide_eq_true hq6),
         hP 8 (decide_eq_true hq6)] ?_
       by_cases hq7 : ((m.f_Data.length : Nat) : Int) > 4096
       ·refine cT (decide_eq_true hq7) ?_
        refine sR [] ?_
        refine T.ret (rT ?_)
        exact eRt 2 (zc734_3) [] (congrArg (fun (q1 : Int) => (vI q1 : AV)) (by exact if_neg (fun h9 => by obtain ⟨q1, q2, q3, q4, q5, q6, q7, q8, q9, q10⟩ := (well_iff m).1 h9; exact q6 ⟨by assumption, by assumption⟩))) trivial
       refine cF (decide_eq_false hq7) ?_
       refine T.skip (nT (T.seq ?_))
       by_cases hq8 : (hasM m.f_Kind).f_Digest = true
       ·by_cases hq9 : (hasM m.f_Kind).f_Data = true
        ·by_cases hq10 : (hasM m.f_Kind).f_Result = true
         ·refine sR [hN 4 true (congrArg Bool.not hq8),
            hN 5 true (congrArg Bool.not hq8),
            hN 6 true (congrArg Bool.not hq8),
            hP 7 (congrArg Bool.not hq8),
            hY 9 (b := false) (w := false) rfl,
            hY 10 (b := false) (w := false) rfl,
            hY 11 (b := false) (w := false) rfl,
            hY 12 (b := false) (w := false) rfl,
            hN 13 true (congrArg Bool.not hq9),
            hN 14 true (congrArg Bool.not hq9),
            hN 15 true (congrArg Bool.not hq9),
            hN 16 true (congrArg Bool.not hq9),
            hS 17 (oY (b := false) rfl rfl rfl rfl (lt_of rfl) rfl (r_pickF (b := (!(hasM m.f_Kind).f_Data)) (av := vB false) (lt_of rfl) ⟨rfl, trivial⟩ (congrArg Bool.not hq9))),
            hP 18 (b := false) (w := false) rfl,
            hY 20 (b := false) (w := false) rfl,
            hY 21 (b := false) (w := false) rfl,
            hY 22 (b := false) (w := false) rfl,
            hY 23 (b := false) (w := false) rfl,
            hN 24 true (congrArg Bool.not hq10),
            hN 25 true (congrArg Bool.not hq10),
            hN 26 true (congrArg Bool.not hq10),
            hN 27 true (congrArg Bool.not hq10),
            hS 28 (oY (b := false) rfl rfl rfl rfl (lt_of rfl) rfl (r_pickF (b := (!(hasM m.f_Kind).f_Result)) (av := vB false) (lt_of rfl) ⟨rfl, trivial⟩ (congrArg Bool.not hq10))),
            hP 29 (b := false) (w := false) rfl,
            hY 31 (b := false) (w := false) rfl,
            hY 32 (b := false) (w := false) rfl,
            hS 33 (oY (b := false) rfl rfl rfl rfl (lt_of rfl) rfl (rCa (ref12_counts tm m (quaestorref12_Has.mk (hasM m.f_Kind).f_View (hasM m.f_Kind).f_Seq (hasM m.f_Kind).f_Client (hasM m.f_Kind).f_Digest (hasM m.f_Kind).f_Data (hasM m.f_Kind).f_Result (hasM m.f_Kind).f_Batch (hasM m.f_Kind).f_Pres (hasM m.f_Kind).f_Certs) (by assumption) (by assumption) (by assumption)) Try.func88 [] [(.tmp 95, (zc734_0 tm m)), (.tmp 96, (zc734_4 m))] 0 0)),
            hY 34 (b := false) (w := false) rfl,
            hP 35 (b := false) (w := false) rfl] ?_
          by_cases hq11 : cntM m (quaestorref12_Has.mk (hasM m.f_Kind).f_View (hasM m.f_Kind).f_Seq (hasM m.f_Kind).f_Client (hasM m.f_Kind).f_Digest (hasM m.f_Kind).f_Data (hasM m.f_Kind).f_Result (hasM m.f_Kind).f_Batch (hasM m.f_Kind).f_Pres (hasM m.f_Kind).f_Certs)
          ·refine cF (congrArg Bool.not (decide_eq_true hq11)) ?_
           refine T.skip (nT ?_)
           refine sR [] ?_
           refine T.ret ?_
           exact eRt 2 (zc734_5) [] (congrArg (fun (q1 : Int) => (vI q1 : AV)) (by exact if_pos ((well_iff m).2 ⟨(by assumption), (by assumption), (by assumption), (by assumption), (by assumption), (fun h8 => by exact absurd h8.2 (by assumption)), (fun h8 => by exact absurd (by assumption) h8.1), (fun h8 => by exact absurd (by assumption) h8.1), (fun h8 => by exact absurd (by assumption) h8.1), (by assumption)⟩))) trivial
          refine cT (congrArg Bool.not (decide_eq_false hq11)) ?_
          refine sR [] ?_
          refine T.ret (rT ?_)
          exact eRt 2 (zc734_3) [] (congrArg (fun (q1 : Int) => (vI q1 : AV)) (by exact if_neg (fun h9 => by obtain ⟨q1, q2, q3, q4, q5, q6, q7, q8, q9, q10⟩ := (well_iff m).1 h9; exact absurd q10 (by assumption)))) trivial
         replace hq10 := Bool.eq_false_iff.2 hq10
         by_cases hq12 : m.f_Result ≠ (api_Result.mk 0 0)
         ·refine sR [hN 4 true (congrArg Bool.not hq8),
            hN 5 true (congrArg Bool.not hq8),
            hN 6 true (congrArg Bool.not hq8),
            hP 7 (congrArg Bool.not hq8),
            hY 9 (b := false) (w := false) rfl,
            hY 10 (b := false) (w := false) rfl,
            hY 11 (b := false) (w := false) rfl,
            hY 12 (b := false) (w := false) rfl,
            hN 13 true (congrArg Bool.not hq9),
            hN 14 true (congrArg Bool.not hq9),
            hN 15 true (congrArg Bool.not hq9),
            hN 16 true (congrArg Bool.not hq9),
            hS 17 (oY (b := false) rfl rfl rfl rfl (lt_of rfl) rfl (r_pickF (b := (!(hasM m.f_Kind).f_Data)) (av := vB false) (lt_of rfl) ⟨rfl, trivial⟩ (congrArg Bool.not hq9))),
            hP 18 (b := false) (w := false) rfl,
            hY 20 (b := false) (w := false) rfl,
            hY 21 (b := false) (w := false) rfl,
            hY 22 (b := false) (w := false) rfl,
            hY 23 (b := false) (w := false) rfl,
            hY 24 (congrArg Bool.not hq10),
            hY 25 (congrArg Bool.not hq10),
            hY 26 (congrArg Bool.not hq10),
            hS 27 (oY rfl rfl rfl rfl (lt_of rfl) (congrArg Bool.not hq10) (r_neSt (ax := (zc734_6 m)) (ay := zc734_7) (a := m.f_Result) (b := (api_Result.mk 0 0)) seq_48 ⟨[.int .i64 m.f_Result.f_Code, .int .i64 m.f_Result.f_Stage], rfl, rfl⟩ ⟨[.int .i64 0, .int .i64 0], rfl, rfl⟩ (lt_of rfl) (by exact trivial))),
            hS 28 (oY (b := false) rfl rfl rfl rfl (lt_of rfl) rfl (r_pickT (b := (!(hasM m.f_Kind).f_Result)) (av := (zc734_8 m)) (lt_of rfl) trivial (congrArg Bool.not hq10))),
            hP 29 (b := false) (w := false) rfl,
            hN 31 false (decide_eq_true hq12),
            hN 32 false (decide_eq_true hq12),
            hN 33 false (decide_eq_true hq12),
            hN 34 false (decide_eq_true hq12),
            hP 35 (decide_eq_true hq12)] ?_
          refine cT (b := true) rfl ?_
          refine sR [] ?_
          refine T.ret (rT ?_)
          exact eRt 2 (zc734_3) [] (congrArg (fun (q1 : Int) => (vI q1 : AV)) (by exact if_neg (fun h9 => by obtain ⟨q1, q2, q3, q4, q5, q6, q7, q8, q9, q10⟩ := (well_iff m).1 h9; exact q9 ⟨(by exact nbB (by assumption)), by assumption⟩))) trivial
         refine sR [hN 4 true (congrArg Bool.not hq8),
           hN 5 true (congrArg Bool.not hq8),
           hN 6 true (congrArg Bool.not hq8),
           hP 7 (congrArg Bool.not hq8),
           hY 9 (b := false) (w := false) rfl,
           hY 10 (b := false) (w := false) rfl,
           hY 11 (b := false) (w := false) rfl,
           hY 12 (b := false) (w := false) rfl,
           hN 13 true (congrArg Bool.not hq9),
           hN 14 true (congrArg Bool.not hq9),
           hN 15 true (congrArg Bool.not hq9),
           hN 16 true (congrArg Bool.not hq9),
           hS 17 (oY (b := false) rfl rfl rfl rfl (lt_of rfl) rfl (r_pickF (b := (!(hasM m.f_Kind).f_Data)) (av := vB false) (lt_of rfl) ⟨rfl, trivial⟩ (congrArg Bool.not hq9))),
           hP 18 (b := false) (w := false) rfl,
           hY 20 (b := false) (w := false) rfl,
           hY 21 (b := false) (w := false) rfl,
           hY 22 (b := false) (w := false) rfl,
           hY 23 (b := false) (w := false) rfl,
           hY 24 (congrArg Bool.not hq10),
           hY 25 (congrArg Bool.not hq10),
           hY 26 (congrArg Bool.not hq10),
           hS 27 (oY rfl rfl rfl rfl (lt_of rfl) (congrArg Bool.not hq10) (r_neSt (ax := (zc734_6 m)) (ay := zc734_7) (a := m.f_Result) (b := (api_Result.mk 0 0)) seq_48 ⟨[.int .i64 m.f_Result.f_Code, .int .i64 m.f_Result.f_Stage], rfl, rfl⟩ ⟨[.int .i64 0, .int .i64 0], rfl, rfl⟩ (lt_of rfl) (by exact trivial))),
           hS 28 (oY (b := false) rfl rfl rfl rfl (lt_of rfl) rfl (r_pickT (b := (!(hasM m.f_Kind).f_Result)) (av := (zc734_8 m)) (lt_of rfl) trivial (congrArg Bool.not hq10))),
           hP 29 (b := false) (w := false) rfl,
           hY 31 (decide_eq_false hq12),
           hY 32 (decide_eq_false hq12),
           hS 33 (oY rfl rfl rfl rfl (lt_of rfl) (decide_eq_false hq12) (rCa (ref12_counts tm m (quaestorref12_Has.mk (hasM m.f_Kind).f_View (hasM m.f_Kind).f_Seq (hasM m.f_Kind).f_Client (hasM m.f_Kind).f_Digest (hasM m.f_Kind).f_Data (hasM m.f_Kind).f_Result (hasM m.f_Kind).f_Batch (hasM m.f_Kind).f_Pres (hasM m.f_Kind).f_Certs) (by assumption) (by assumption) (by assumption)) Try.func88 [] [(.tmp 95, (zc734_0 tm m)), (.tmp 96, (zc734_4 m))] 0 0)),
           hY 34 (decide_eq_false hq12),
           hP 35 (decide_eq_false hq12)] ?_
         by_cases hq13 : cntM m (quaestorref12_Has.mk (hasM m.f_Kind).f_View (hasM m.f_Kind).f_Seq (hasM m.f_Kind).f_Client (hasM m.f_Kind).f_Digest (hasM m.f_Kind).f_Data (hasM m.f_Kind).f_Result (hasM m.f_Kind).f_Batch (hasM m.f_Kind).f_Pres (hasM m.f_Kind).f_Certs)
         ·refine cF (congrArg Bool.not (decide_eq_true hq13)) ?_
          refine T.skip (nT ?_)
          refine sR [] ?_
          refine T.ret ?_
          exact eRt 2 (zc734_5) [] (congrArg (fun (q1 : Int) => (vI q1 : AV)) (by exact if_pos ((well_iff m).2 ⟨(by assumption), (by assumption), (by assumption), (by assumption), (by assumption), (fun h8 => by exact absurd h8.2 (by assumption)), (fun h8 => by exact absurd (by assumption) h8.1), (fun h8 => by exact absurd (by assumption) h8.1), (fun h8 => by exact absurd h8.2 (by assumption)), (by assumption)⟩))) trivial
         refine cT (congrArg Bool.not (decide_eq_false hq13)) ?_
         refine sR [] ?_
         refine T.ret (rT ?_)
         exact eRt 2 (zc734_3) [] (congrArg (fun (q1 : Int) => (vI q1 : AV)) (by exact if_neg (fun h9 => by obtain ⟨q1, q2, q3, q4, q5, q6, q7, q8, q9, q10⟩ := (well_iff m).1 h9; exact absurd q10 (by assumption)))) trivial
        replace hq9 := Bool.eq_false_iff.2 hq9
        by_cases hq14 : ((m.f_Data.length : Nat) : Int) > 0
        ·refine sR [hN 4 true (congrArg Bool.not hq8),
           hN 5 true (congrArg Bool.not hq8),
           hN 6 true (congrArg Bool.not hq8),
           hP 7 (congrArg Bool.not hq8),
           hY 9 (b := false) (w := false) rfl,
           hY 10 (b := false) (w := false) rfl,
           hY 11 (b := false) (w := false) rfl,
           hY 12 (b := false) (w := false) rfl,
           hY 13 (congrArg Bool.not hq9),
           hY 14 (congrArg Bool.not hq9),
           hY 15 (congrArg Bool.not hq9),
           hY 16 (congrArg Bool.not hq9),
           hS 17 (oY (b := false) rfl rfl rfl rfl (lt_of rfl) rfl (r_pickT (b := (!(hasM m.f_Kind).f_Data)) (av := (zc734_9 m)) (lt_of rfl) trivial (congrArg Bool.not hq9))),
           hP 18 (b := false) (w := false) rfl,
           hN 20 false (decide_eq_true hq14),
           hN 21 false (decide_eq_true hq14),
           hN 22 false (decide_eq_true hq14),
           hN 23 false (decide_eq_true hq14),
           hU 24,
           hU 25,
           hU 26,
           hU 27,
           hN 28 false (decide_eq_true hq14),
           hP 29 (decide_eq_true hq14),
           hN 31 (b := true) false rfl,
           hN 32 (b := true) false rfl,
           hN 33 (b := true) false rfl,
           hN 34 (b := true) false rfl,
           hP 35 (b := true) (w := true) rfl] ?_
         refine cT (b := true) rfl ?_
         refine sR [] ?_
         refine T.ret (rT ?_)
         exact eRt 2 (zc734_3) [] (congrArg (fun (q1 : Int) => (vI q1 : AV)) (by exact if_neg (fun h9 => by obtain ⟨q1, q2, q3, q4, q5, q6, q7, q8, q9, q10⟩ := (well_iff m).1 h9; exact q8 ⟨(by exact nbB (by assumption)), by assumption⟩))) trivial
        by_cases hq15 : (hasM m.f_Kind).f_Result = true
        ·refine sR [hN 4 true (congrArg Bool.not hq8),
           hN 5 true (congrArg Bool.not hq8),
           hN 6 true (congrArg Bool.not hq8),
           hP 7 (congrArg Bool.not hq8),
           hY 9 (b := false) (w := false) rfl,
           hY 10 (b := false) (w := false) rfl,
           hY 11 (b := false) (w := false) rfl,
           hY 12 (b := false) (w := false) rfl,
           hY 13 (congrArg Bool.not hq9),
           hY 14 (congrArg Bool.not hq9),
           hY 15 (congrArg Bool.not hq9),
           hY 16 (congrArg Bool.not hq9),
           hS 17 (oY (b := false) rfl rfl rfl rfl (lt_of rfl) rfl (r_pickT (b := (!(hasM m.f_Kind).f_Data)) (av := (zc734_9 m)) (lt_of rfl) trivial (congrArg Bool.not hq9))),
           hP 18 (b := false) (w := false) rfl,
           hY 20 (decide_eq_false hq14),
           hY 21 (decide_eq_false hq14),
           hY 22 (decide_eq_false hq14),
           hY 23 (decide_eq_false hq14),
           hN 24 true (congrArg Bool.not hq15),
           hN 25 true (congrArg Bool.not hq15),
           hN 26 true (congrArg Bool.not hq15),
           hN 27 true (congrArg Bool.not hq15),
           hS 28 (oY rfl rfl rfl rfl (lt_of rfl) (decide_eq_false hq14) (r_pickF (b := (!(hasM m.f_Kind).f_Result)) (av := vB false) (lt_of rfl) ⟨rfl, trivial⟩ (congrArg Bool.not hq15))),
           hP 29 (decide_eq_false hq14),
           hY 31 (b := false) (w := false) rfl,
           hY 32 (b := false) (w := false) rfl,
           hS 33 (oY (b := false) rfl rfl rfl rfl (lt_of rfl) rfl (rCa (ref12_counts tm m (quaestorref12_Has.mk (hasM m.f_Kind).f_View (hasM m.f_Kind).f_Seq (hasM m.f_Kind).f_Client (hasM m.f_Kind).f_Digest (hasM m.f_Kind).f_Data (hasM m.f_Kind).f_Result (hasM m.f_Kind).f_Batch (hasM m.f_Kind).f_Pres (hasM m.f_Kind).f_Certs) (by assumption) (by assumption) (by assumption)) Try.func88 [] [(.tmp 95, (zc734_0 tm m)), (.tmp 96, (zc734_4 m))] 0 0)),
           hY 34 (b := false) (w := false) rfl,
           hP 35 (b := false) (w := false) rfl] ?_
         by_cases hq16 : cntM m (quaestorref12_Has.mk (hasM m.f_Kind).f_View (hasM m.f_Kind).f_Seq (hasM m.f_Kind).f_Client (hasM m.f_Kind).f_Digest (hasM m.f_Kind).f_Data (hasM m.f_Kind).f_Result (hasM m.f_Kind).f_Batch (hasM m.f_Kind).f_Pres (hasM m.f_Kind).f_Certs)
         ·refine cF (congrArg Bool.not (decide_eq_true hq16)) ?_
          refine T.skip (nT ?_)
          refine sR [] ?_
          refine T.ret ?_
          exact eRt 2 (zc734_5) [] (congrArg (fun (q1 : Int) => (vI q1 : AV)) (by exact if_pos ((well_iff m).2 ⟨(by assumption), (by assumption), (by assumption), (by assumption), (by assumption), (fun h8 => by exact absurd h8.2 (by assumption)), (fun h8 => by exact absurd (by assumption) h8.1), (fun h8 => by exact absurd h8.2 (by assumption)), (fun h8 => by exact absurd (by assumption) h8.1), (by assumption)⟩))) trivial
         refine cT (congrArg Bool.not (decide_eq_false hq16)) ?_
         refine sR [] ?_
         refine T.ret (rT ?_)
         exact eRt 2 (zc734_3) [] (congrArg (fun (q1 : Int) => (vI q1 : AV)) (by exact if_neg (fun h9 => by obtain ⟨q1, q2, q3, q4, q5, q6, q7, q8, q9, q10⟩ := (well_iff m).1 h9; exact absurd q10 (by assumption)))) trivial
        replace hq15 := Bool.eq_false_iff.2 hq15
        by_cases hq17 : m.f_Result ≠ (api_Result.mk 0 0)
        ·refine sR [hN 4 true (congrArg Bool.not hq8),
           hN 5 true (congrArg Bool.not hq8),
           hN 6 true (congrArg Bool.not hq8),
           hP 7 (congrArg Bool.not hq8),
           hY 9 (b := false) (w := false) rfl,
           hY 10 (b := false) (w := false) rfl,
           hY 11 (b := false) (w := false) rfl,
           hY 12 (b := false) (w := false) rfl,
           hY 13 (congrArg Bool.not hq9),
           hY 14 (congrArg Bool.not hq9),
           hY 15 (congrArg Bool.not hq9),
           hY 16 (congrArg Bool.not hq9),
           hS 17 (oY (b := false) rfl rfl rfl rfl (lt_of rfl) rfl (r_pickT (b := (!(hasM m.f_Kind).f_Data)) (av := (zc734_9 m)) (lt_of rfl) trivial (congrArg Bool.not hq9))),
           hP 18 (b := false) (w := false) rfl,
           hY 20 (decide_eq_false hq14),
           hY 21 (decide_eq_false hq14),
           hY 22 (decide_eq_false hq14),
           hY 23 (decide_eq_false hq14),
           hY 24 (congrArg Bool.not hq15),
           hY 25 (congrArg Bool.not hq15),
           hY 26 (congrArg Bool.not hq15),
           hS 27 (oY rfl rfl rfl rfl (lt_of rfl) (congrArg Bool.not hq15) (r_neSt (ax := (zc734_6 m)) (ay := zc734_7) (a := m.f_Result) (b := (api_Result.mk 0 0)) seq_48 ⟨[.int .i64 m.f_Result.f_Code, .int .i64 m.f_Result.f_Stage], rfl, rfl⟩ ⟨[.int .i64 0, .int .i64 0], rfl, rfl⟩ (lt_of rfl) (by exact trivial))),
           hS 28 (oY rfl rfl rfl rfl (lt_of rfl) (decide_eq_false hq14) (r_pickT (b := (!(hasM m.f_Kind).f_Result)) (av := (zc734_8 m)) (lt_of rfl) trivial (congrArg Bool.not hq15))),
           hP 29 (decide_eq_false hq14),
           hN 31 false (decide_eq_true hq17),
           hN 32 false (decide_eq_true hq17),
           hN 33 false (decide_eq_true hq17),
           hN 34 false (decide_eq_true hq17),
           hP 35 (decide_eq_true hq17)] ?_
         refine cT (b := true) rfl ?_
         refine sR [] ?_
         refine T.ret (rT ?_)
         exact eRt 2 (zc734_3) [] (congrArg (fun (q1 : Int) => (vI q1 : AV)) (by exact if_neg (fun h9 => by obtain ⟨q1, q2, q3, q4, q5, q6, q7, q8, q9, q10⟩ := (well_iff m).1 h9; exact q9 ⟨(by exact nbB (by assumption)), by assumption⟩))) trivial
        refine sR [hN 4 true (congrArg Bool.not hq8),
          hN 5 true (congrArg Bool.not hq8),
          hN 6 true (congrArg Bool.not hq8),
          hP 7 (congrArg Bool.not hq8),
          hY 9 (b := false) (w := false) rfl,
          hY 10 (b := false) (w := false) rfl,
          hY 11 (b := false) (w := false) rfl,
          hY 12 (b := false) (w := false) rfl,
          hY 13 (congrArg Bool.not hq9),
          hY 14 (congrArg Bool.not hq9),
          hY 15 (congrArg Bool.not hq9),
          hY 16 (congrArg Bool.not hq9),
          hS 17 (oY (b := false) rfl rfl rfl rfl (lt_of rfl) rfl (r_pickT (b := (!(hasM m.f_Kind).f_Data)) (av := (zc734_9 m)) (lt_of rfl) trivial (congrArg Bool.not hq9))),
          hP 18 (b := false) (w := false) rfl,
          hY 20 (decide_eq_false hq14),
          hY 21 (decide_eq_false hq14),
          hY 22 (decide_eq_false hq14),
          hY 23 (decide_eq_false hq14),
          hY 24 (congrArg Bool.not hq15),
          hY 25 (congrArg Bool.not hq15),
          hY 26 (congrArg Bool.not hq15),
          hS 27 (oY rfl rfl rfl rfl (lt_of rfl) (congrArg Bool.not hq15) (r_neSt (ax := (zc734_6 m)) (ay := zc734_7) (a := m.f_Result) (b := (api_Result.mk 0 0)) seq_48 ⟨[.int .i64 m.f_Result.f_Code, .int .i64 m.f_Result.f_Stage], rfl, rfl⟩ ⟨[.int .i64 0, .int .i64 0], rfl, rfl⟩ (lt_of rfl) (by exact trivial))),
          hS 28 (oY rfl rfl rfl rfl (lt_of rfl) (decide_eq_false hq14) (r_pickT (b := (!(hasM m.f_Kind).f_Result)) (av := (zc734_8 m)) (lt_of rfl) trivial (congrArg Bool.not hq15))),
          hP 29 (decide_eq_false hq14),
          hY 31 (decide_eq_false hq17),
          hY 32 (decide_eq_false hq17),
          hS 33 (oY rfl rfl rfl rfl (lt_of rfl) (decide_eq_false hq17) (rCa (ref12_counts tm m (quaestorref12_Has.mk (hasM m.f_Kind).f_View (hasM m.f_Kind).f_Seq (hasM m.f_Kind).f_Client (hasM m.f_Kind).f_Digest (hasM m.f_Kind).f_Data (hasM m.f_Kind).f_Result (hasM m.f_Kind).f_Batch (hasM m.f_Kind).f_Pres (hasM m.f_Kind).f_Certs) (by assumption) (by assumption) (by assumption)) Try.func88 [] [(.tmp 95, (zc734_0 tm m)), (.tmp 96, (zc734_4 m))] 0 0)),
          hY 34 (decide_eq_false hq17),
          hP 35 (decide_eq_false hq17)] ?_
        by_cases hq18 : cntM m (quaestorref12_Has.mk (hasM m.f_Kind).f_View (hasM m.f_Kind).f_Seq (hasM m.f_Kind).f_Client (hasM m.f_Kind).f_Digest (hasM m.f_Kind).f_Data (hasM m.f_Kind).f_Result (hasM m.f_Kind).f_Batch (hasM m.f_Kind).f_Pres (hasM m.f_Kind).f_Certs)
        ·refine cF (congrArg Bool.not (decide_eq_true hq18)) ?_
         refine T.skip (nT ?_)
         refine sR [] ?_
         refine T.ret ?_
         exact eRt 2 (zc734_5) [] (congrArg (fun (q1 : Int) => (vI q1 : AV)) (by exact if_pos ((well_iff m).2 ⟨(by assumption), (by assumption), (by assumption), (by assumption), (by assumption), (fun h8 => by exact absurd h8.2 (by assumption)), (fun h8 => by exact absurd (by assumption) h8.1), (fun h8 => by exact absurd h8.2 (by assumption)), (fun h8 => by exact absurd h8.2 (by assumption)), (by assumption)⟩))) trivial
        refine cT (congrArg Bool.not (decide_eq_false hq18)) ?_
        refine sR [] ?_
        refine T.ret (rT ?_)
        exact eRt 2 (zc734_3) [] (congrArg (fun (q1 : Int) => (vI q1 : AV)) (by exact if_neg (fun h9 => by obtain ⟨q1, q2, q3, q4, q5, q6, q7, q8, q9, q10⟩ := (well_iff m).1 h9; exact absurd q10 (by assumption)))) trivial
       replace hq8 := Bool.eq_false_iff.2 hq8
       by_cases hq19 : m.f_Digest ≠ []
       ·refine sR [hY 4 (congrArg Bool.not hq8),
          hY 5 (congrArg Bool.not hq8),
          hY 6 (congrArg Bool.not hq8),
          hP 7 (congrArg Bool.not hq8),
          hN 9 false (decide_eq_true hq19),
          hN 10 false (decide_eq_true hq19),
          hN 11 false (decide_eq_true hq19),
          hN 12 false (decide_eq_true hq19),
          hU 13,
          hU 14,
          hU 15,
          hU 16,
          hN 17 false (decide_eq_true hq19),
          hP 18 (decide_eq_true hq19),
          hN 20 (b := true) false rfl,
          hN 21 (b := true) false rfl,
          hN 22 (b := true) false rfl,
          hN 23 (b := true) false rfl,
          hU 24,
          hU 25,
          hU 26,
          hU 27,
          hN 28 (b := true) false rfl,
          hP 29 (b := true) (w := true) rfl,
          hN 31 (b := true) false rfl,
          hN 32 (b := true) false rfl,
          hN 33 (b := true) false rfl,
          hN 34 (b := true) false rfl,
          hP 35 (b := true) (w := true) rfl] ?_
        refine cT (b := true) rfl ?_
        refine sR [] ?_
        refine T.ret (rT ?_)
        exact eRt 2 (zc734_3) [] (congrArg (fun (q1 : Int) => (vI q1 : AV)) (by exact if_neg (fun h9 => by obtain ⟨q1, q2, q3, q4, q5, q6, q7, q8, q9, q10⟩ := (well_iff m).1 h9; exact q7 ⟨(by exact nbB (by assumption)), by assumption⟩))) trivial
       by_cases hq20 : (hasM m.f_Kind).f_Data = true
       ·by_cases hq21 : (hasM m.f_Kind).f_Result = true
        ·refine sR [hY 4 (congrArg Bool.not hq8),
           hY 5 (congrArg Bool.not hq8),
           hY 6 (congrArg Bool.not hq8),
           hP 7 (congrArg Bool.not hq8),
           hY 9 (decide_eq_false hq19),
           hY 10 (decide_eq_false hq19),
           hY 11 (decide_eq_false hq19),
           hY 12 (decide_eq_false hq19),
           hN 13 true (congrArg Bool.not hq20),
           hN 14 true (congrArg Bool.not hq20),
           hN 15 true (congrArg Bool.not hq20),
           hN 16 true (congrArg Bool.not hq20),
           hS 17 (oY rfl rfl rfl rfl (lt_of rfl) (decide_eq_false hq19) (r_pickF (b := (!(hasM m.f_Kind).f_Data)) (av := vB false) (lt_of rfl) ⟨rfl, trivial⟩ (congrArg Bool.not hq20))),
           hP 18 (decide_eq_false hq19),
           hY 20 (b := false) (w := false) rfl,
           hY 21 (b := false) (w := false) rfl,
           hY 22 (b := false) (w := false) rfl,
           hY 23 (b := false) (w := false) rfl,
           hN 24 true (congrArg Bool.not hq21),
           hN 25 true (congrArg Bool.not hq21),
           hN 26 true (congrArg Bool.not hq21),
           hN 27 true (congrArg Bool.not hq21),
           hS 28 (oY (b := false) rfl rfl rfl rfl (lt_of rfl) rfl (r_pickF (b := (!(hasM m.f_Kind).f_Result)) (av := vB false) (lt_of rfl) ⟨rfl, trivial⟩ (congrArg Bool.not hq21))),
           hP 29 (b := false) (w := false) rfl,
           hY 31 (b := false) (w := false) rfl,
           hY 32 (b := false) (w := false) rfl,
           hS 33 (oY (b := false) rfl rfl rfl rfl (lt_of rfl) rfl (rCa (ref12_counts tm m (quaestorref12_Has.mk (hasM m.f_Kind).f_View (hasM m.f_Kind).f_Seq (hasM m.f_Kind).f_Client (hasM m.f_Kind).f_Digest (hasM m.f_Kind).f_Data (hasM m.f_Kind).f_Result (hasM m.f_Kind).f_Batch (hasM m.f_Kind).f_Pres (hasM m.f_Kind).f_Certs) (by assumption) (by assumption) (by assumption)) Try.func88 [] [(.tmp 95, (zc734_0 tm m)), (.tmp 96, (zc734_4 m))] 0 0)),
           hY 34 (b := false) (w := false) rfl,
           hP 35 (b := false) (w := false) rfl] ?_
         by_cases hq22 : cntM m (quaestorref12_Has.mk (hasM m.f_Kind).f_View (hasM m.f_Kind).f_Seq (hasM m.f_Kind).f_Client (hasM m.f_Kind).f_Digest (hasM m.f_Kind).f_Data (hasM m.f_Kind).f_Result (hasM m.f_Kind).f_Batch (hasM m.f_Kind).f_Pres (hasM m.f_Kind).f_Certs)
         ·refine cF (congrArg Bool.not (decide_eq_true hq22)) ?_
          refine T.skip (nT ?_)
          refine sR [] ?_
          refine T.ret ?_
          exact eRt 2 (zc734_5) [] (congrArg (fun (q1 : Int) => (vI q1 : AV)) (by exact if_pos ((well_iff m).2 ⟨(by assumption), (by assumption), (by assumption), (by assumption), (by assumption), (fun h8 => by exact absurd h8.2 (by assumption)), (fun h8 => by exact absurd h8.2 (by assumption)), (fun h8 => by exact absurd (by assumption) h8.1), (fun h8 => by exact absurd (by assumption) h8.1), (by assumption)⟩))) trivial
         refine cT (congrArg Bool.not (decide_eq_false hq22)) ?_
         refine sR [] ?_
         refine T.ret (rT ?_)
         exact eRt 2 (zc734_3) [] (congrArg (fun (q1 : Int) => (vI q1 : AV)) (by exact if_neg (fun h9 => by obtain ⟨q1, q2, q3, q4, q5, q6, q7, q8, q9, q10⟩ := (well_iff m).1 h9; exact absurd q10 (by assumption)))) trivial
        replace hq21 := Bool.eq_false_iff.2 hq21
        by_cases hq23 : m.f_Result ≠ (api_Result.mk 0 0)
        ·refine sR [hY 4 (congrArg Bool.not hq8),
           hY 5 (congrArg Bool.not hq8),
           hY 6 (congrArg Bool.not hq8),
           hP 7 (congrArg Bool.not hq8),
           hY 9 (decide_eq_false hq19),
           hY 10 (decide_eq_false hq19),
           hY 11 (decide_eq_false hq19),
           hY 12 (decide_eq_false hq19),
           hN 13 true (congrArg Bool.not hq20),
           hN 14 true (congrArg Bool.not hq20),
           hN 15 true (congrArg Bool.not hq20),
           hN 16 true (congrArg Bool.not hq20),
           hS 17 (oY rfl rfl rfl rfl (lt_of rfl) (decide_eq_false hq19) (r_pickF (b := (!(hasM m.f_Kind).f_Data)) (av := vB false) (lt_of rfl) ⟨rfl, trivial⟩ (congrArg Bool.not hq20))),
           hP 18 (decide_eq_false hq19),
           hY 20 (b := false) (w := false) rfl,
           hY 21 (b := false) (w := false) rfl,
           hY 22 (b := false) (w := false) rfl,
           hY 23 (b := false) (w := false) rfl,
           hY 24 (congrArg Bool.not hq21),
           hY 25 (congrArg Bool.not hq21),
           hY 26 (congrArg Bool.not hq21),
           hS 27 (oY rfl rfl rfl rfl (lt_of rfl) (congrArg Bool.not hq21) (r_neSt (ax := (zc734_6 m)) (ay := zc734_7) (a := m.f_Result) (b := (api_Result.mk 0 0)) seq_48 ⟨[.int .i64 m.f_Result.f_Code, .int .i64 m.f_Result.f_Stage], rfl, rfl⟩ ⟨[.int .i64 0, .int .i64 0], rfl, rfl⟩ (lt_of rfl) (by exact trivial))),
           hS 28 (oY (b := false) rfl rfl rfl rfl (lt_of rfl) rfl (r_pickT (b := (!(hasM m.f_Kind).f_Result)) (av := (zc734_8 m)) (lt_of rfl) trivial (congrArg Bool.not hq21))),
           hP 29 (b := false) (w := false) rfl,
           hN 31 false (decide_eq_true hq23),
           hN 32 false (decide_eq_true hq23),
           hN 33 false (decide_eq_true hq23),
           hN 34 false (decide_eq_true hq23),
           hP 35 (decide_eq_true hq23)] ?_
         refine cT (b := true) rfl ?_
         refine sR [] ?_
         refine T.ret (rT ?_)
         exact eRt 2 (zc734_3) [] (congrArg (fun (q1 : Int) => (vI q1 : AV)) (by exact if_neg (fun h9 => by obtain ⟨q1, q2, q3, q4, q5, q6, q7, q8, q9, q10⟩ := (well_iff m).1 h9; exact q9 ⟨(by exact nbB (by assumption)), by assumption⟩))) trivial
        refine sR [hY 4 (congrArg Bool.not hq8),
          hY 5 (congrArg Bool.not hq8),
          hY 6 (congrArg Bool.not hq8),
          hP 7 (congrArg Bool.not hq8),
          hY 9 (decide_eq_false hq19),
          hY 10 (decide_eq_false hq19),
          hY 11 (decide_eq_false hq19),
          hY 12 (decide_eq_false hq19),
          hN 13 true (congrArg Bool.not hq20),
          hN 14 true (congrArg Bool.not hq20),
          hN 15 true (congrArg Bool.not hq20),
          hN 16 true (congrArg Bool.not hq20),
          hS 17 (oY rfl rfl rfl rfl (lt_of rfl) (decide_eq_false hq19) (r_pickF (b := (!(hasM m.f_Kind).f_Data)) (av := vB false) (lt_of rfl) ⟨rfl, trivial⟩ (congrArg Bool.not hq20))),
          hP 18 (decide_eq_false hq19),
          hY 20 (b := false) (w := false) rfl,
          hY 21 (b := false) (w := false) rfl,
          hY 22 (b := false) (w := false) rfl,
          hY 23 (b := false) (w := false) rfl,
          hY 24 (congrArg Bool.not hq21),
          hY 25 (congrArg Bool.not hq21),
          hY 26 (congrArg Bool.not hq21),
          hS 27 (oY rfl rfl rfl rfl (lt_of rfl) (congrArg Bool.not hq21) (r_neSt (ax := (zc734_6 m)) (ay := zc734_7) (a := m.f_Result) (b := (api_Result.mk 0 0)) seq_48 ⟨[.int .i64 m.f_Result.f_Code, .int .i64 m.f_Result.f_Stage], rfl, rfl⟩ ⟨[.int .i64 0, .int .i64 0], rfl, rfl⟩ (lt_of rfl) (by exact trivial))),
          hS 28 (oY (b := false) rfl rfl rfl rfl (lt_of rfl) rfl (r_pickT (b := (!(hasM m.f_Kind).f_Result)) (av := (zc734_8 m)) (lt_of rfl) trivial (congrArg Bool.not hq21))),
          hP 29 (b := false) (w := false) rfl,
          hY 31 (decide_eq_false hq23),
          hY 32 (decide_eq_false hq23),
          hS 33 (oY rfl rfl rfl rfl (lt_of rfl) (decide_eq_false hq23) (rCa (ref12_counts tm m (quaestorref12_Has.mk (hasM m.f_Kind).f_View (hasM m.f_Kind).f_Seq (hasM m.f_Kind).f_Client (hasM m.f_Kind).f_Digest (hasM m.f_Kind).f_Data (hasM m.f_Kind).f_Result (hasM m.f_Kind).f_Batch (hasM m.f_Kind).f_Pres (hasM m.f_Kind).f_Certs) (by assumption) (by assumption) (by assumption)) Try.func88 [] [(.tmp 95, (zc734_0 tm m)), (.tmp 96, (zc734_4 m))] 0 0)),
          hY 34 (decide_eq_false hq23),
          hP 35 (decide_eq_false hq23)] ?_
        by_cases hq24 : cntM m (quaestorref12_Has.mk (hasM m.f_Kind).f_View (hasM m.f_Kind).f_Seq (hasM m.f_Kind).f_Client (hasM m.f_Kind).f_Digest (hasM m.f_Kind).f_Data (hasM m.f_Kind).f_Result (hasM m.f_Kind).f_Batch (hasM m.f_Kind).f_Pres (hasM m.f_Kind).f_Certs)
        ·refine cF (congrArg Bool.not (decide_eq_true hq24)) ?_
         refine T.skip (nT ?_)
         refine sR [] ?_
         refine T.ret ?_
         exact eRt 2 (zc734_5) [] (congrArg (fun (q1 : Int) => (vI q1 : AV)) (by exact if_pos ((well_iff m).2 ⟨(by assumption), (by assumption), (by assumption), (by assumption), (by assumption), (fun h8 => by exact absurd h8.2 (by assumption)), (fun h8 => by exact absurd h8.2 (by assumption)), (fun h8 => by exact absurd (by assumption) h8.1), (fun h8 => by exact absurd h8.2 (by assumption)), (by assumption)⟩))) trivial
        refine cT (congrArg Bool.not (decide_eq_false hq24)) ?_
        refine sR [] ?_
        refine T.ret (rT ?_)
        exact eRt 2 (zc734_3) [] (congrArg (fun (q1 : Int) => (vI q1 : AV)) (by exact if_neg (fun h9 => by obtain ⟨q1, q2, q3, q4, q5, q6, q7, q8, q9, q10⟩ := (well_iff m).1 h9; exact absurd q10 (by assumption)))) trivial
       replace hq20 := Bool.eq_false_iff.2 hq20
       by_cases hq25 : ((m.f_Data.length : Nat) : Int) > 0
       ·refine sR [hY 4 (congrArg Bool.not hq8),
          hY 5 (congrArg Bool.not hq8),
          hY 6 (congrArg Bool.not hq8),
          hP 7 (congrArg Bool.not hq8),
          hY 9 (decide_eq_false hq19),
          hY 10 (decide_eq_false hq19),
          hY 11 (decide_eq_false hq19),
          hY 12 (decide_eq_false hq19),
          hY 13 (congrArg Bool.not hq20),
          hY 14 (congrArg Bool.not hq20),
          hY 15 (congrArg Bool.not hq20),
          hY 16 (congrArg Bool.not hq20),
          hS 17 (oY rfl rfl rfl rfl (lt_of rfl) (decide_eq_false hq19) (r_pickT (b := (!(hasM m.f_Kind).f_Data)) (av := (zc734_9 m)) (lt_of rfl) trivial (congrArg Bool.not hq20))),
          hP 18 (decide_eq_false hq19),
          hN 20 false (decide_eq_true hq25),
          hN 21 false (decide_eq_true hq25),
          hN 22 false (decide_eq_true hq25),
          hN 23 false (decide_eq_true hq25),
          hU 24,
          hU 25,
          hU 26,
          hU 27,
          hN 28 false (decide_eq_true hq25),
          hP 29 (decide_eq_true hq25),
          hN 31 (b := true) false rfl,
          hN 32 (b := true) false rfl,
          hN 33 (b := true) false rfl,
          hN 34 (b := true) false rfl,
          hP 35 (b := true) (w := true) rfl] ?_
        refine cT (b := true) rfl ?_
        refine sR [] ?_
        refine T.ret (rT ?_)
        exact eRt 2 (zc734_3) [] (congrArg (fun (q1 : Int) => (vI q1 : AV)) (by exact if_neg (fun h9 => by obtain ⟨q1, q2, q3, q4, q5, q6, q7, q8, q9, q10⟩ := (well_iff m).1 h9; exact q8 ⟨(by exact nbB (by assumption)), by assumption⟩))) trivial
       by_cases hq26 : (hasM m.f_Kind).f_Result = true
       ·refine sR [hY 4 (congrArg Bool.not hq8),
          hY 5 (congrArg Bool.not hq8),
          hY 6 (congrArg Bool.not hq8),
          hP 7 (congrArg Bool.not hq8),
          hY 9 (decide_eq_false hq19),
          hY 10 (decide_eq_false hq19),
          hY 11 (decide_eq_false hq19),
          hY 12 (decide_eq_false hq19),
          hY 13 (congrArg Bool.not hq20),
          hY 14 (congrArg Bool.not hq20),
          hY 15 (congrArg Bool.not hq20),
          hY 16 (congrArg Bool.not hq20),
          hS 17 (oY rfl rfl rfl rfl (lt_of rfl) (decide_eq_false hq19) (r_pickT (b := (!(hasM m.f_Kind).f_Data)) (av := (zc734_9 m)) (lt_of rfl) trivial (congrArg Bool.not hq20))),
          hP 18 (decide_eq_false hq19),
          hY 20 (decide_eq_false hq25),
          hY 21 (decide_eq_false hq25),
          hY 22 (decide_eq_false hq25),
          hY 23 (decide_eq_false hq25),
          hN 24 true (congrArg Bool.not hq26),
          hN 25 true (congrArg Bool.not hq26),
          hN 26 true (congrArg Bool.not hq26),
          hN 27 true (congrArg Bool.not hq26),
          hS 28 (oY rfl rfl rfl rfl (lt_of rfl) (decide_eq_false hq25) (r_pickF (b := (!(hasM m.f_Kind).f_Result)) (av := vB false) (lt_of rfl) ⟨rfl, trivial⟩ (congrArg Bool.not hq26))),
          hP 29 (decide_eq_false hq25),
          hY 31 (b := false) (w := false) rfl,
          hY 32 (b := false) (w := false) rfl,
          hS 33 (oY (b := false) rfl rfl rfl rfl (lt_of rfl) rfl (rCa (ref12_counts tm m (quaestorref12_Has.mk (hasM m.f_Kind).f_View (hasM m.f_Kind).f_Seq (hasM m.f_Kind).f_Client (hasM m.f_Kind).f_Digest (hasM m.f_Kind).f_Data (hasM m.f_Kind).f_Result (hasM m.f_Kind).f_Batch (hasM m.f_Kind).f_Pres (hasM m.f_Kind).f_Certs) (by assumption) (by assumption) (by assumption)) Try.func88 [] [(.tmp 95, (zc734_0 tm m)), (.tmp 96, (zc734_4 m))] 0 0)),
          hY 34 (b := false) (w := false) rfl,
          hP 35 (b := false) (w := false) rfl] ?_
        by_cases hq27 : cntM m (quaestorref12_Has.mk (hasM m.f_Kind).f_View (hasM m.f_Kind).f_Seq (hasM m.f_Kind).f_Client (hasM m.f_Kind).f_Digest (hasM m.f_Kind).f_Data (hasM m.f_Kind).f_Result (hasM m.f_Kind).f_Batch (hasM m.f_Kind).f_Pres (hasM m.f_Kind).f_Certs)
        ·refine cF (congrArg Bool.not (decide_eq_true hq27)) ?_
         refine T.skip (nT ?_)
         refine sR [] ?_
         refine T.ret ?_
         exact eRt 2 (zc734_5) [] (congrArg (fun (q1 : Int) => (vI q1 : AV)) (by exact if_pos ((well_iff m).2 ⟨(by assumption), (by assumption), (by assumption), (by assumption), (by assumption), (fun h8 => by exact absurd h8.2 (by assumption)), (fun h8 => by exact absurd h8.2 (by assumption)), (fun h8 => by exact absurd h8.2 (by assumption)), (fun h8 => by exact absurd (by assumption) h8.1), (by assumption)⟩))) trivial
        refine cT (congrArg Bool.not (decide_eq_false hq27)) ?_
        refine sR [] ?_
        refine T.ret (rT ?_)
        exact eRt 2 (zc734_3) [] (congrArg (fun (q1 : Int) => (vI q1 : AV)) (by exact if_neg (fun h9 => by obtain ⟨q1, q2, q3, q4, q5, q6, q7, q8, q9, q10⟩ := (well_iff m).1 h9; exact absurd q10 (by assumption)))) trivial
       replace hq26 := Bool.eq_false_iff.2 hq26
       by_cases hq28 : m.f_Result ≠ (api_Result.mk 0 0)
       ·refine sR [hY 4 (congrArg Bool.not hq8),
          hY 5 (congrArg Bool.not hq8),
          hY 6 (congrArg Bool.not hq8),
          hP 7 (congrArg Bool.not hq8),
          hY 9 (decide_eq_false hq19),
          hY 10 (decide_eq_false hq19),
          hY 11 (decide_eq_false hq19),
          hY 12 (decide_eq_false hq19),
          hY 13 (congrArg Bool.not hq20),
          hY 14 (congrArg Bool.not hq20),
          hY 15 (congrArg Bool.not hq20),
          hY 16 (congrArg Bool.not hq20),
          hS 17 (oY rfl rfl rfl rfl (lt_of rfl) (decide_eq_false hq19) (r_pickT (b := (!(hasM m.f_Kind).f_Data)) (av := (zc734_9 m)) (lt_of rfl) trivial (congrArg Bool.not hq20))),
          hP 18 (decide_eq_false hq19),
          hY 20 (decide_eq_false hq25),
          hY 21 (decide_eq_false hq25),
          hY 22 (decide_eq_false hq25),
          hY 23 (decide_eq_false hq25),
          hY 24 (congrArg Bool.not hq26),
          hY 25 (congrArg Bool.not hq26),
          hY 26 (congrArg Bool.not hq26),
          hS 27 (oY rfl rfl rfl rfl (lt_of rfl) (congrArg Bool.not hq26) (r_neSt (ax := (zc734_6 m)) (ay := zc734_7) (a := m.f_Result) (b := (api_Result.mk 0 0)) seq_48 ⟨[.int .i64 m.f_Result.f_Code, .int .i64 m.f_Result.f_Stage], rfl, rfl⟩ ⟨[.int .i64 0, .int .i64 0], rfl, rfl⟩ (lt_of rfl) (by exact trivial))),
          hS 28 (oY rfl rfl rfl rfl (lt_of rfl) (decide_eq_false hq25) (r_pickT (b := (!(hasM m.f_Kind).f_Result)) (av := (zc734_8 m)) (lt_of rfl) trivial (congrArg Bool.not hq26))),
          hP 29 (decide_eq_false hq25),
          hN 31 false (decide_eq_true hq28),
          hN 32 false (decide_eq_true hq28),
          hN 33 false (decide_eq_true hq28),
          hN 34 false (decide_eq_true hq28),
          hP 35 (decide_eq_true hq28)] ?_
        refine cT (b := true) rfl ?_
        refine sR [] ?_
        refine T.ret (rT ?_)
        exact eRt 2 (zc734_3) [] (congrArg (fun (q1 : Int) => (vI q1 : AV)) (by exact if_neg (fun h9 => by obtain ⟨q1, q2, q3, q4, q5, q6, q7, q8, q9, q10⟩ := (well_iff m).1 h9; exact q9 ⟨(by exact nbB (by assumption)), by assumption⟩))) trivial
       refine sR [hY 4 (congrArg Bool.not hq8),
         hY 5 (congrArg Bool.not hq8),
         hY 6 (congrArg Bool.not hq8),
         hP 7 (congrArg Bool.not hq8),
         hY 9 (decide_eq_false hq19),
         hY 10 (decide_eq_false hq19),
         hY 11 (decide_eq_false hq19),
         hY 12 (decide_eq_false hq19),
         hY 13 (congrArg Bool.not hq20),
         hY 14 (congrArg Bool.not hq20),
         hY 15 (congrArg Bool.not hq20),
         hY 16 (congrArg Bool.not hq20),
         hS 17 (oY rfl rfl rfl rfl (lt_of rfl) (decide_eq_false hq19) (r_pickT (b := (!(hasM m.f_Kind).f_Data)) (av := (zc734_9 m)) (lt_of rfl) trivial (congrArg Bool.not hq20))),
         hP 18 (decide_eq_false hq19),
         hY 20 (decide_eq_false hq25),
         hY 21 (decide_eq_false hq25),
         hY 22 (decide_eq_false hq25),
         hY 23 (decide_eq_false hq25),
         hY 24 (congrArg Bool.not hq26),
         hY 25 (congrArg Bool.not hq26),
         hY 26 (congrArg Bool.not hq26),
         hS 27 (oY rfl rfl rfl rfl (lt_of rfl) (congrArg Bool.not hq26) (r_neSt (ax := (zc734_6 m)) (ay := zc734_7) (a := m.f_Result) (b := (api_Result.mk 0 0)) seq_48 ⟨[.int .i64 m.f_Result.f_Code, .int .i64 m.f_Result.f_Stage], rfl, rfl⟩ ⟨[.int .i64 0, .int .i64 0], rfl, rfl⟩ (lt_of rfl) (by exact trivial))),
         hS 28 (oY rfl rfl rfl rfl (lt_of rfl) (decide_eq_false hq25) (r_pickT (b := (!(hasM m.f_Kind).f_Result)) (av := (zc734_8 m)) (lt_of rfl) trivial (congrArg Bool.not hq26))),
         hP 29 (decide_eq_false hq25),
         hY 31 (decide_eq_false hq28),
         hY 32 (decide_eq_false hq28),
         hS 33 (oY rfl rfl rfl rfl (lt_of rfl) (decide_eq_false hq28) (rCa (ref12_counts tm m (quaestorref12_Has.mk (hasM m.f_Kind).f_View (hasM m.f_Kind).f_Seq (hasM m.f_Kind).f_Client (hasM m.f_Kind).f_Digest (hasM m.f_Kind).f_Data (hasM m.f_Kind).f_Result (hasM m.f_Kind).f_Batch (hasM m.f_Kind).f_Pres (hasM m.f_Kind).f_Certs) (by assumption) (by assumption) (by assumption)) Try.func88 [] [(.tmp 95, (zc734_0 tm m)), (.tmp 96, (zc734_4 m))] 0 0)),
         hY 34 (decide_eq_false hq28),
         hP 35 (decide_eq_false hq28)] ?_
       by_cases hq29 : cntM m (quaestorref12_Has.mk (hasM m.f_Kind).f_View (hasM m.f_Kind).f_Seq (hasM m.f_Kind).f_Client (hasM m.f_Kind).f_Digest (hasM m.f_Kind).f_Data (hasM m.f_Kind).f_Result (hasM m.f_Kind).f_Batch (hasM m.f_Kind).f_Pres (hasM m.f_Kind).f_Certs)
       ·refine cF (congrArg Bool.not (decide_eq_true hq29)) ?_
        refine T.skip (nT ?_)
        refine sR [] ?_
        refine T.ret ?_
        exact eRt 2 (zc734_5) [] (congrArg (fun (q1 : Int) => (vI q1 : AV)) (by exact if_pos ((well_iff m).2 ⟨(by assumption), (by assumption), (by assumption), (by assumption), (by assumption), (fun h8 => by exact absurd h8.2 (by assumption)), (fun h8 => by exact absurd h8.2 (by assumption)), (fun h8 => by exact absurd h8.2 (by assumption)), (fun h8 => by exact absurd h8.2 (by assumption)), (by assumption)⟩))) trivial
       refine cT (congrArg Bool.not (decide_eq_false hq29)) ?_
       refine sR [] ?_
       refine T.ret (rT ?_)
       exact eRt 2 (zc734_3) [] (congrArg (fun (q1 : Int) => (vI q1 : AV)) (by exact if_neg (fun h9 => by obtain ⟨q1, q2, q3, q4, q5, q6, q7, q8, q9, q10⟩ := (well_iff m).1 h9; exact absurd q10 (by assumption)))) trivial
      refine sR [hN 4 true (decide_eq_false hq6),
        hN 5 true (decide_eq_false hq6),
        hN 6 true (decide_eq_false hq6),
        hN 7 true (decide_eq_false hq6),
        hP 8 (decide_eq_false hq6)] ?_
      refine cF (b := false) rfl ?_
      refine T.skip (nT (T.seq ?_))
      by_cases hq30 : (hasM m.f_Kind).f_Digest = true
      ·by_cases hq31 : (hasM m.f_Kind).f_Data = true
       ·by_cases hq32 : (hasM m.f_Kind).f_Result = true
        ·refine sR [hN 4 true (congrArg Bool.not hq30),
           hN 5 true (congrArg Bool.not hq30),
           hN 6 true (congrArg Bool.not hq30),
           hP 7 (congrArg Bool.not hq30),
           hY 9 (b := false) (w := false) rfl,
           hY 10 (b := false) (w := false) rfl,
           hY 11 (b := false) (w := false) rfl,
           hY 12 (b := false) (w := false) rfl,
           hN 13 true (congrArg Bool.not hq31),
           hN 14 true (congrArg Bool.not hq31),
           hN 15 true (congrArg Bool.not hq31),
           hN 16 true (congrArg Bool.not hq31),
           hS 17 (oY (b := false) rfl rfl rfl rfl (lt_of rfl) rfl (r_pickF (b := (!(hasM m.f_Kind).f_Data)) (av := vB false) (lt_of rfl) ⟨rfl, trivial⟩ (congrArg Bool.not hq31))),
           hP 18 (b := false) (w := false) rfl,
           hY 20 (b := false) (w := false) rfl,
           hY 21 (b := false) (w := false) rfl,
           hY 22 (b := false) (w := false) rfl,
           hY 23 (b := false) (w := false) rfl,
           hN 24 true (congrArg Bool.not hq32),
           hN 25 true (congrArg Bool.not hq32),
           hN 26 true (congrArg Bool.not hq32),
           hN 27 true (congrArg Bool.not hq32),
           hS 28 (oY (b := false) rfl rfl rfl rfl (lt_of rfl) rfl (r_pickF (b := (!(hasM m.f_Kind).f_Result)) (av := vB false) (lt_of rfl) ⟨rfl, trivial⟩ (congrArg Bool.not hq32))),
           hP 29 (b := false) (w := false) rfl,
           hY 31 (b := false) (w := false) rfl,
           hY 32 (b := false) (w := false) rfl,
           hS 33 (oY (b := false) rfl rfl rfl rfl (lt_of rfl) rfl (rCa (ref12_counts tm m (quaestorref12_Has.mk (hasM m.f_Kind).f_View (hasM m.f_Kind).f_Seq (hasM m.f_Kind).f_Client (hasM m.f_Kind).f_Digest (hasM m.f_Kind).f_Data (hasM m.f_Kind).f_Result (hasM m.f_Kind).f_Batch (hasM m.f_Kind).f_Pres (hasM m.f_Kind).f_Certs) (by assumption) (by assumption) (by assumption)) Try.func88 [] [(.tmp 95, (zc734_0 tm m)), (.tmp 96, (zc734_4 m))] 0 0)),
           hY 34 (b := false) (w := false) rfl,
           hP 35 (b := false) (w := false) rfl] ?_
         by_cases hq33 : cntM m (quaestorref12_Has.mk (hasM m.f_Kind).f_View (hasM m.f_Kind).f_Seq (hasM m.f_Kind).f_Client (hasM m.f_Kind).f_Digest (hasM m.f_Kind).f_Data (hasM m.f_Kind).f_Result (hasM m.f_Kind).f_Batch (hasM m.f_Kind).f_Pres (hasM m.f_Kind).f_Certs)
         ·refine cF (congrArg Bool.not (decide_eq_true hq33)) ?_
          refine T.skip (nT ?_)
          refine sR [] ?_
          refine T.ret ?_
          exact eRt 2 (zc734_5) [] (congrArg (fun (q1 : Int) => (vI q1 : AV)) (by exact if_pos ((well_iff m).2 ⟨(by assumption), (by assumption), (by assumption), (by assumption), (by assumption), (fun h8 => by exact absurd h8.1 (by assumption)), (fun h8 => by exact absurd (by assumption) h8.1), (fun h8 => by exact absurd (by assumption) h8.1), (fun h8 => by exact absurd (by assumption) h8.1), (by assumption)⟩))) trivial
         refine cT (congrArg Bool.not (decide_eq_false hq33)) ?_
         refine sR [] ?_
         refine T.ret (rT ?_)
         exact eRt 2 (zc734_3) [] (congrArg (fun (q1 : Int) => (vI q1 : AV)) (by exact if_neg (fun h9 => by obtain ⟨q1, q2, q3, q4, q5, q6, q7, q8, q9, q10⟩ := (well_iff m).1 h9; exact absurd q10 (by assumption)))) trivial
        replace hq32 := Bool.eq_false_iff.2 hq32
        by_cases hq34 : m.f_Result ≠ (api_Result.mk 0 0)
        ·refine sR [hN 4 true (congrArg Bool.not hq30),
           hN 5 true (congrArg Bool.not hq30),
           hN 6 true (congrArg Bool.not hq30),
           hP 7 (congrArg Bool.not hq30),
           hY 9 (b := false) (w := false) rfl,
           hY 10 (b := false) (w := false) rfl,
           hY 11 (b := false) (w := false) rfl,
           hY 12 (b := false) (w := false) rfl,
           hN 13 true (congrArg Bool.not hq31),
           hN 14 true (congrArg Bool.not hq31),
           hN 15 true (congrArg Bool.not hq31),
           hN 16 true (congrArg Bool.not hq31),
           hS 17 (oY (b := false) rfl rfl rfl rfl (lt_of rfl) rfl (r_pickF (b := (!(hasM m.f_Kind).f_Data)) (av := vB false) (lt_of rfl) ⟨rfl, trivial⟩ (congrArg Bool.not hq31))),
           hP 18 (b := false) (w := false) rfl,
           hY 20 (b := false) (w := false) rfl,
           hY 21 (b := false) (w := false) rfl,
           hY 22 (b := false) (w := false) rfl,
           hY 23 (b := false) (w := false) rfl,
           hY 24 (congrArg Bool.not hq32),
           hY 25 (congrArg Bool.not hq32),
           hY 26 (congrArg Bool.not hq32),
           hS 27 (oY rfl rfl rfl rfl (lt_of rfl) (congrArg Bool.not hq32) (r_neSt (ax := (zc734_6 m)) (ay := zc734_7) (a := m.f_Result) (b := (api_Result.mk 0 0)) seq_48 ⟨[.int .i64 m.f_Result.f_Code, .int .i64 m.f_Result.f_Stage], rfl, rfl⟩ ⟨[.int .i64 0, .int .i64 0], rfl, rfl⟩ (lt_of rfl) (by exact trivial))),
           hS 28 (oY (b := false) rfl rfl rfl rfl (lt_of rfl) rfl (r_pickT (b := (!(hasM m.f_Kind).f_Result)) (av := (zc734_8 m)) (lt_of rfl) trivial (congrArg Bool.not hq32))),
           hP 29 (b := false) (w := false) rfl,
           hN 31 false (decide_eq_true hq34),
           hN 32 false (decide_eq_true hq34),
           hN 33 false (decide_eq_true hq34),
           hN 34 false (decide_eq_true hq34),
           hP 35 (decide_eq_true hq34)] ?_
         refine cT (b := true) rfl ?_
         refine sR [] ?_
         refine T.ret (rT ?_)
         exact eRt 2 (zc734_3) [] (congrArg (fun (q1 : Int) => (vI q1 : AV)) (by exact if_neg (fun h9 => by obtain ⟨q1, q2, q3, q4, q5, q6, q7, q8, q9, q10⟩ := (well_iff m).1 h9; exact q9 ⟨(by exact nbB (by assumption)), by assumption⟩))) trivial
        refine sR [hN 4 true (congrArg Bool.not hq30),
          hN 5 true (congrArg Bool.not hq30),
          hN 6 true (congrArg Bool.not hq30),
          hP 7 (congrArg Bool.not hq30),
          hY 9 (b := false) (w := false) rfl,
          hY 10 (b := false) (w := false) rfl,
          hY 11 (b := false) (w := false) rfl,
          hY 12 (b := false) (w := false) rfl,
          hN 13 true (congrArg Bool.not hq31),
          hN 14 true (congrArg Bool.not hq31),
          hN 15 true (congrArg Bool.not hq31),
          hN 16 true (congrArg Bool.not hq31),
          hS 17 (oY (b := false) rfl rfl rfl rfl (lt_of rfl) rfl (r_pickF (b := (!(hasM m.f_Kind).f_Data)) (av := vB false) (lt_of rfl) ⟨rfl, trivial⟩ (congrArg Bool.not hq31))),
          hP 18 (b := false) (w := false) rfl,
          hY 20 (b := false) (w := false) rfl,
          hY 21 (b := false) (w := false) rfl,
          hY 22 (b := false) (w := false) rfl,
          hY 23 (b := false) (w := false) rfl,
          hY 24 (congrArg Bool.not hq32),
          hY 25 (congrArg Bool.not hq32),
          hY 26 (congrArg Bool.not hq32),
          hS 27 (oY rfl rfl rfl rfl (lt_of rfl) (congrArg Bool.not hq32) (r_neSt (ax := (zc734_6 m)) (ay := zc734_7) (a := m.f_Result) (b := (api_Result.mk 0 0)) seq_48 ⟨[.int .i64 m.f_Result.f_Code, .int .i64 m.f_Result.f_Stage], rfl, rfl⟩ ⟨[.int .i64 0, .int .i64 0], rfl, rfl⟩ (lt_of rfl) (by exact trivial))),
          hS 28 (oY (b := false) rfl rfl rfl rfl (lt_of rfl) rfl (r_pickT (b := (!(hasM m.f_Kind).f_Result)) (av := (zc734_8 m)) (lt_of rfl) trivial (congrArg Bool.not hq32))),
          hP 29 (b := false) (w := false) rfl,
          hY 31 (decide_eq_false hq34),
          hY 32 (decide_eq_false hq34),
          hS 33 (oY rfl rfl rfl rfl (lt_of rfl) (decide_eq_false hq34) (rCa (ref12_counts tm m (quaestorref12_Has.mk (hasM m.f_Kind).f_View (hasM m.f_Kind).f_Seq (hasM m.f_Kind).f_Client (hasM m.f_Kind).f_Digest (hasM m.f_Kind).f_Data (hasM m.f_Kind).f_Result (hasM m.f_Kind).f_Batch (hasM m.f_Kind).f_Pres (hasM m.f_Kind).f_Certs) (by assumption) (by assumption) (by assumption)) Try.func88 [] [(.tmp 95, (zc734_0 tm m)), (.tmp 96, (zc734_4 m))] 0 0)),
          hY 34 (decide_eq_false hq34),
          hP 35 (decide_eq_false hq34)] ?_
        by_cases hq35 : cntM m (quaestorref12_Has.mk (hasM m.f_Kind).f_View (hasM m.f_Kind).f_Seq (hasM m.f_Kind).f_Client (hasM m.f_Kind).f_Digest (hasM m.f_Kind).f_Data (hasM m.f_Kind).f_Result (hasM m.f_Kind).f_Batch (hasM m.f_Kind).f_Pres (hasM m.f_Kind).f_Certs)
        ·refine cF (congrArg Bool.not (decide_eq_true hq35)) ?_
         refine T.skip (nT ?_)
         refine sR [] ?_
         refine T.ret ?_
         exact eRt 2 (zc734_5) [] (congrArg (fun (q1 : Int) => (vI q1 : AV)) (by exact if_pos ((well_iff m).2 ⟨(by assumption), (by assumption), (by assumption), (by assumption), (by assumption), (fun h8 => by exact absurd h8.1 (by assumption)), (fun h8 => by exact absurd (by assumption) h8.1), (fun h8 => by exact absurd (by assumption) h8.1), (fun h8 => by exact absurd h8.2 (by assumption)), (by assumption)⟩))) trivial
        refine cT (congrArg Bool.not (decide_eq_false hq35)) ?_
        refine sR [] ?_
        refine T.ret (rT ?_)
        exact eRt 2 (zc734_3) [] (congrArg (fun (q1 : Int) => (vI q1 : AV)) (by exact if_neg (fun h9 => by obtain ⟨q1, q2, q3, q4, q5, q6, q7, q8, q9, q10⟩ := (well_iff m).1 h9; exact absurd q10 (by assumption)))) trivial
       replace hq31 := Bool.eq_false_iff.2 hq31
       by_cases hq36 : ((m.f_Data.length : Nat) : Int) > 0
       ·refine sR [hN 4 true (congrArg Bool.not hq30),
          hN 5 true (congrArg Bool.not hq30),
          hN 6 true (congrArg Bool.not hq30),
          hP 7 (congrArg Bool.not hq30),
          hY 9 (b := false) (w := false) rfl,
          hY 10 (b := false) (w := false) rfl,
          hY 11 (b := false) (w := false) rfl,
          hY 12 (b := false) (w := false) rfl,
          hY 13 (congrArg Bool.not hq31),
          hY 14 (congrArg Bool.not hq31),
          hY 15 (congrArg Bool.not hq31),
          hY 16 (congrArg Bool.not hq31),
          hS 17 (oY (b := false) rfl rfl rfl rfl (lt_of rfl) rfl (r_pickT (b := (!(hasM m.f_Kind).f_Data)) (av := (zc734_9 m)) (lt_of rfl) trivial (congrArg Bool.not hq31))),
          hP 18 (b := false) (w := false) rfl,
          hN 20 false (decide_eq_true hq36),
          hN 21 false (decide_eq_true hq36),
          hN 22 false (decide_eq_true hq36),
          hN 23 false (decide_eq_true hq36),
          hU 24,
          hU 25,
          hU 26,
          hU 27,
          hN 28 false (decide_eq_true hq36),
          hP 29 (decide_eq_true hq36),
          hN 31 (b := true) false rfl,
          hN 32 (b := true) false rfl,
          hN 33 (b := true) false rfl,
          hN 34 (b := true) false rfl,
          hP 35 (b := true) (w := true) rfl] ?_
        refine cT (b := true) rfl ?_
        refine sR [] ?_
        refine T.ret (rT ?_)
        exact eRt 2 (zc734_3) [] (congrArg (fun (q1 : Int) => (vI q1 : AV)) (by exact if_neg (fun h9 => by obtain ⟨q1, q2, q3, q4, q5, q6, q7, q8, q9, q10⟩ := (well_iff m).1 h9; exact q8 ⟨(by exact nbB (by assumption)), by assumption⟩))) trivial
       by_cases hq37 : (hasM m.f_Kind).f_Result = true
       ·refine sR [hN 4 true (congrArg Bool.not hq30),
          hN 5 true (congrArg Bool.not hq30),
          hN 6 true (congrArg Bool.not hq30),
          hP 7 (congrArg Bool.not hq30),
          hY 9 (b := false) (w := false) rfl,
          hY 10 (b := false) (w := false) rfl,
          hY 11 (b := false) (w := false) rfl,
          hY 12 (b := false) (w := false) rfl,
          hY 13 (congrArg Bool.not hq31),
          hY 14 (congrArg Bool.not hq31),
          hY 15 (congrArg Bool.not hq31),
          hY 16 (congrArg Bool.not hq31),
          hS 17 (oY (b := false) rfl rfl rfl rfl (lt_of rfl) rfl (r_pickT (b := (!(hasM m.f_Kind).f_Data)) (av := (zc734_9 m)) (lt_of rfl) trivial (congrArg Bool.not hq31))),
          hP 18 (b := false) (w := false) rfl,
          hY 20 (decide_eq_false hq36),
          hY 21 (decide_eq_false hq36),
          hY 22 (decide_eq_false hq36),
          hY 23 (decide_eq_false hq36),
          hN 24 true (congrArg Bool.not hq37),
          hN 25 true (congrArg Bool.not hq37),
          hN 26 true (congrArg Bool.not hq37),
          hN 27 true (congrArg Bool.not hq37),
          hS 28 (oY rfl rfl rfl rfl (lt_of rfl) (decide_eq_false hq36) (r_pickF (b := (!(hasM m.f_Kind).f_Result)) (av := vB false) (lt_of rfl) ⟨rfl, trivial⟩ (congrArg Bool.not hq37))),
          hP 29 (decide_eq_false hq36),
          hY 31 (b := false) (w := false) rfl,
          hY 32 (b := false) (w := false) rfl,
          hS 33 (oY (b := false) rfl rfl rfl rfl (lt_of rfl) rfl (rCa (ref12_counts tm m (quaestorref12_Has.mk (hasM m.f_Kind).f_View (hasM m.f_Kind).f_Seq (hasM m.f_Kind).f_Client (hasM m.f_Kind).f_Digest (hasM m.f_Kind).f_Data (hasM m.f_Kind).f_Result (hasM m.f_Kind).f_Batch (hasM m.f_Kind).f_Pres (hasM m.f_Kind).f_Certs) (by assumption) (by assumption) (by assumption)) Try.func88 [] [(.tmp 95, (zc734_0 tm m)), (.tmp 96, (zc734_4 m))] 0 0)),
          hY 34 (b := false) (w := false) rfl,
          hP 35 (b := false) (w := false) rfl] ?_
        by_cases hq38 : cntM m (quaestorref12_Has.mk (hasM m.f_Kind).f_View (hasM m.f_Kind).f_Seq (hasM m.f_Kind).f_Client (hasM m.f_Kind).f_Digest (hasM m.f_Kind).f_Data (hasM m.f_Kind).f_Result (hasM m.f_Kind).f_Batch (hasM m.f_Kind).f_Pres (hasM m.f_Kind).f_Certs)
        ·refine cF (congrArg Bool.not (decide_eq_true hq38)) ?_
         refine T.skip (nT ?_)
         refine sR [] ?_
         refine T.ret ?_
         exact eRt 2 (zc734_5) [] (congrArg (fun (q1 : Int) => (vI q1 : AV)) (by exact if_pos ((well_iff m).2 ⟨(by assumption), (by assumption), (by assumption), (by assumption), (by assumption), (fun h8 => by exact absurd h8.1 (by assumption)), (fun h8 => by exact absurd (by assumption) h8.1), (fun h8 => by exact absurd h8.2 (by assumption)), (fun h8 => by exact absurd (by assumption) h8.1), (by assumption)⟩))) trivial
        refine cT (congrArg Bool.not (decide_eq_false hq38)) ?_
        refine sR [] ?_
        refine T.ret (rT ?_)
        exact eRt 2 (zc734_3) [] (congrArg (fun (q1 : Int) => (vI q1 : AV)) (by exact if_neg (fun h9 => by obtain ⟨q1, q2, q3, q4, q5, q6, q7, q8, q9, q10⟩ := (well_iff m).1 h9; exact absurd q10 (by assumption)))) trivial
       replace hq37 := Bool.eq_false_iff.2 hq37
       by_cases hq39 : m.f_Result ≠ (api_Result.mk 0 0)
       ·refine sR [hN 4 true (congrArg Bool.not hq30),
          hN 5 true (congrArg Bool.not hq30),
          hN 6 true (congrArg Bool.not hq30),
          hP 7 (congrArg Bool.not hq30),
          hY 9 (b := false) (w := false) rfl,
          hY 10 (b := false) (w := false) rfl,
          hY 11 (b := false) (w := false) rfl,
          hY 12 (b := false) (w := false) rfl,
          hY 13 (congrArg Bool.not hq31),
          hY 14 (congrArg Bool.not hq31),
          hY 15 (congrArg Bool.not hq31),
          hY 16 (congrArg Bool.not hq31),
          hS 17 (oY (b := false) rfl rfl rfl rfl (lt_of rfl) rfl (r_pickT (b := (!(hasM m.f_Kind).f_Data)) (av := (zc734_9 m)) (lt_of rfl) trivial (congrArg Bool.not hq31))),
          hP 18 (b := false) (w := false) rfl,
          hY 20 (decide_eq_false hq36),
          hY 21 (decide_eq_false hq36),
          hY 22 (decide_eq_false hq36),
          hY 23 (decide_eq_false hq36),
          hY 24 (congrArg Bool.not hq37),
          hY 25 (congrArg Bool.not hq37),
          hY 26 (congrArg Bool.not hq37),
          hS 27 (oY rfl rfl rfl rfl (lt_of rfl) (congrArg Bool.not hq37) (r_neSt (ax := (zc734_6 m)) (ay := zc734_7) (a := m.f_Result) (b := (api_Result.mk 0 0)) seq_48 ⟨[.int .i64 m.f_Result.f_Code, .int .i64 m.f_Result.f_Stage], rfl, rfl⟩ ⟨[.int .i64 0, .int .i64 0], rfl, rfl⟩ (lt_of rfl) (by exact trivial))),
          hS 28 (oY rfl rfl rfl rfl (lt_of rfl) (decide_eq_false hq36) (r_pickT (b := (!(hasM m.f_Kind).f_Result)) (av := (zc734_8 m)) (lt_of rfl) trivial (congrArg Bool.not hq37))),
          hP 29 (decide_eq_false hq36),
          hN 31 false (decide_eq_true hq39),
          hN 32 false (decide_eq_true hq39),
          hN 33 false (decide_eq_true hq39),
          hN 34 false (decide_eq_true hq39),
          hP 35 (decide_eq_true hq39)] ?_
        refine cT (b := true) rfl ?_
        refine sR [] ?_
        refine T.ret (rT ?_)
        exact eRt 2 (zc734_3) [] (congrArg (fun (q1 : Int) => (vI q1 : AV)) (by exact if_neg (fun h9 => by obtain ⟨q1, q2, q3, q4, q5, q6, q7, q8, q9, q10⟩ := (well_iff m).1 h9; exact q9 ⟨(by exact nbB (by assumption)), by assumption⟩))) trivial
       refine sR [hN 4 true (congrArg Bool.not hq30),
         hN 5 true (congrArg Bool.not hq30),
         hN 6 true (congrArg Bool.not hq30),
         hP 7 (congrArg Bool.not hq30),
         hY 9 (b := false) (w := false) rfl,
         hY 10 (b := false) (w := false) rfl,
         hY 11 (b := false) (w := false) rfl,
         hY 12 (b := false) (w := false) rfl,
         hY 13 (congrArg Bool.not hq31),
         hY 14 (congrArg Bool.not hq31),
         hY 15 (congrArg Bool.not hq31),
         hY 16 (congrArg Bool.not hq31),
         hS 17 (oY (b := false) rfl rfl rfl rfl (lt_of rfl) rfl (r_pickT (b := (!(hasM m.f_Kind).f_Data)) (av := (zc734_9 m)) (lt_of rfl) trivial (congrArg Bool.not hq31))),
         hP 18 (b := false) (w := false) rfl,
         hY 20 (decide_eq_false hq36),
         hY 21 (decide_eq_false hq36),
         hY 22 (decide_eq_false hq36),
         hY 23 (decide_eq_false hq36),
         hY 24 (congrArg Bool.not hq37),
         hY 25 (congrArg Bool.not hq37),
         hY 26 (congrArg Bool.not hq37),
         hS 27 (oY rfl rfl rfl rfl (lt_of rfl) (congrArg Bool.not hq37) (r_neSt (ax := (zc734_6 m)) (ay := zc734_7) (a := m.f_Result) (b := (api_Result.mk 0 0)) seq_48 ⟨[.int .i64 m.f_Result.f_Code, .int .i64 m.f_Result.f_Stage], rfl, rfl⟩ ⟨[.int .i64 0, .int .i64 0], rfl, rfl⟩ (lt_of rfl) (by exact trivial))),
         hS 28 (oY rfl rfl rfl rfl (lt_of rfl) (decide_eq_false hq36) (r_pickT (b := (!(hasM m.f_Kind).f_Result)) (av := (zc734_8 m)) (lt_of rfl) trivial (congrArg Bool.not hq37))),
         hP 29 (decide_eq_false hq36),
         hY 31 (decide_eq_false hq39),
         hY 32 (decide_eq_false hq39),
         hS 33 (oY rfl rfl rfl rfl (lt_of rfl) (decide_eq_false hq39) (rCa (ref12_counts tm m (quaestorref12_Has.mk (hasM m.f_Kind).f_View (hasM m.f_Kind).f_Seq (hasM m.f_Kind).f_Client (hasM m.f_Kind).f_Digest (hasM m.f_Kind).f_Data (hasM m.f_Kind).f_Result (hasM m.f_Kind).f_Batch (hasM m.f_Kind).f_Pres (hasM m.f_Kind).f_Certs) (by assumption) (by assumption) (by assumption)) Try.func88 [] [(.tmp 95, (zc734_0 tm m)), (.tmp 96, (zc734_4 m))] 0 0)),
         hY 34 (decide_eq_false hq39),
         hP 35 (decide_eq_false hq39)] ?_
       by_cases hq40 : cntM m (quaestorref12_Has.mk (hasM m.f_Kind).f_View (hasM m.f_Kind).f_Seq (hasM m.f_Kind).f_Client (hasM m.f_Kind).f_Digest (hasM m.f_Kind).f_Data (hasM m.f_Kind).f_Result (hasM m.f_Kind).f_Batch (hasM m.f_Kind).f_Pres (hasM m.f_Kind).f_Certs)
       ·refine cF (congrArg Bool.not (decide_eq_true hq40)) ?_
        refine T.skip (nT ?_)
        refine sR [] ?_
        refine T.ret ?_
        exact eRt 2 (zc734_5) [] (congrArg (fun (q1 : Int) => (vI q1 : AV)) (by exact if_pos ((well_iff m).2 ⟨(by assumption), (by assumption), (by assumption), (by assumption), (by assumption), (fun h8 => by exact absurd h8.1 (by assumption)), (fun h8 => by exact absurd (by assumption) h8.1), (fun h8 => by exact absurd h8.2 (by assumption)), (fun h8 => by exact absurd h8.2 (by assumption)), (by assumption)⟩))) trivial
       refine cT (congrArg Bool.not (decide_eq_false hq40)) ?_
       refine sR [] ?_
       refine T.ret (rT ?_)
       exact eRt 2 (zc734_3) [] (congrArg (fun (q1 : Int) => (vI q1 : AV)) (by exact if_neg (fun h9 => by obtain ⟨q1, q2, q3, q4, q5, q6, q7, q8, q9, q10⟩ := (well_iff m).1 h9; exact absurd q10 (by assumption)))) trivial
      replace hq30 := Bool.eq_false_iff.2 hq30
      by_cases hq41 : m.f_Digest ≠ []
      ·refine sR [hY 4 (congrArg Bool.not hq30),
         hY 5 (congrArg Bool.not hq30),
         hY 6 (congrArg Bool.not hq30),
         hP 7 (congrArg Bool.not hq30),
         hN 9 false (decide_eq_true hq41),
         hN 10 false (decide_eq_true hq41),
         hN 11 false (decide_eq_true hq41),
         hN 12 false (decide_eq_true hq41),
         hU 13,
         hU 14,
         hU 15,
         hU 16,
         hN 17 false (decide_eq_true hq41),
         hP 18 (decide_eq_true hq41),
         hN 20 (b := true) false rfl,
         hN 21 (b := true) false rfl,
         hN 22 (b := true) false rfl,
         hN 23 (b := true) false rfl,
         hU 24,
         hU 25,
         hU 26,
         hU 27,
         hN 28 (b := true) false rfl,
         hP 29 (b := true) (w := true) rfl,
         hN 31 (b := true) false rfl,
         hN 32 (b := true) false rfl,
         hN 33 (b := true) false rfl,
         hN 34 (b := true) false rfl,
         hP 35 (b := true) (w := true) rfl] ?_
       refine cT (b := true) rfl ?_
       refine sR [] ?_
       refine T.ret (rT ?_)
       exact eRt 2 (zc734_3) [] (congrArg (fun (q1 : Int) => (vI q1 : AV)) (by exact if_neg (fun h9 => by obtain ⟨q1, q2, q3, q4, q5, q6, q7, q8, q9, q10⟩ := (well_iff m).1 h9; exact q7 ⟨(by exact nbB (by assumption)), by assumption⟩))) trivial
      by_cases hq42 : (hasM m.f_Kind).f_Data = true
      ·by_cases hq43 : (hasM m.f_Kind).f_Result = true
       ·refine sR [hY 4 (congrArg Bool.not hq30),
          hY 5 (congrArg Bool.not hq30),
          hY 6 (congrArg Bool.not hq30),
          hP 7 (congrArg Bool.not hq30),
          hY 9 (decide_eq_false hq41),
          hY 10 (decide_eq_false hq41),
          hY 11 (decide_eq_false hq41),
          hY 12 (decide_eq_false hq41),
          hN 13 true (congrArg Bool.not hq42),
          hN 14 true (congrArg Bool.not hq42),
          hN 15 true (congrArg Bool.not hq42),
          hN 16 true (congrArg Bool.not hq42),
          hS 17 (oY rfl rfl rfl rfl (lt_of rfl) (decide_eq_false hq41) (r_pickF (b := (!(hasM m.f_Kind).f_Data)) (av := vB false) (lt_of rfl) ⟨rfl, trivial⟩ (congrArg Bool.not hq42))),
          hP 18 (decide_eq_false hq41),
          hY 20 (b := false) (w := false) rfl,
          hY 21 (b := false) (w := false) rfl,
          hY 22 (b := false) (w := false) rfl,
          hY 23 (b := false) (w := false) rfl,
          hN 24 true (congrArg Bool.not hq43),
          hN 25 true (congrArg Bool.not hq43),
          hN 26 true (congrArg Bool.not hq43),
          hN 27 true (congrArg Bool.not hq43),
          hS 28 (oY (b := false) rfl rfl rfl rfl (lt_of rfl) rfl (r_pickF (b := (!(hasM m.f_Kind).f_Result)) (av := vB false) (lt_of rfl) ⟨rfl, trivial⟩ (congrArg Bool.not hq43))),
          hP 29 (b := false) (w := false) rfl,
          hY 31 (b := false) (w := false) rfl,
          hY 32 (b := false) (w := false) rfl,
          hS 33 (oY (b := false) rfl rfl rfl rfl (lt_of rfl) rfl (rCa (ref12_counts tm m (quaestorref12_Has.mk (hasM m.f_Kind).f_View (hasM m.f_Kind).f_Seq (hasM m.f_Kind).f_Client (hasM m.f_Kind).f_Digest (hasM m.f_Kind).f_Data (hasM m.f_Kind).f_Result (hasM m.f_Kind).f_Batch (hasM m.f_Kind).f_Pres (hasM m.f_Kind).f_Certs) (by assumption) (by assumption) (by assumption)) Try.func88 [] [(.tmp 95, (zc734_0 tm m)), (.tmp 96, (zc734_4 m))] 0 0)),
          hY 34 (b := false) (w := false) rfl,
          hP 35 (b := false) (w := false) rfl] ?_
        by_cases hq44 : cntM m (quaestorref12_Has.mk (hasM m.f_Kind).f_View (hasM m.f_Kind).f_Seq (hasM m.f_Kind).f_Client (hasM m.f_Kind).f_Digest (hasM m.f_Kind).f_Data (hasM m.f_Kind).f_Result (hasM m.f_Kind).f_Batch (hasM m.f_Kind).f_Pres (hasM m.f_Kind).f_Certs)
        ·refine cF (congrArg Bool.not (decide_eq_true hq44)) ?_
         refine T.skip (nT ?_)
         refine sR [] ?_
         refine T.ret ?_
         exact eRt 2 (zc734_5) [] (congrArg (fun (q1 : Int) => (vI q1 : AV)) (by exact if_pos ((well_iff m).2 ⟨(by assumption), (by assumption), (by assumption), (by assumption), (by assumption), (fun h8 => by exact absurd h8.1 (by assumption)), (fun h8 => by exact absurd h8.2 (by assumption)), (fun h8 => by exact absurd (by assumption) h8.1), (fun h8 => by exact absurd (by assumption) h8.1), (by assumption)⟩))) trivial
        refine cT (congrArg Bool.not (decide_eq_false hq44)) ?_
        refine sR [] ?_
        refine T.ret (rT ?_)
        exact eRt 2 (zc734_3) [] (congrArg (fun (q1 : Int) => (vI q1 : AV)) (by exact if_neg (fun h9 => by obtain ⟨q1, q2, q3, q4, q5, q6, q7, q8, q9, q10⟩ := (well_iff m).1 h9; exact absurd q10 (by assumption)))) trivial
       replace hq43 := Bool.eq_false_iff.2 hq43
       by_cases hq45 : m.f_Result ≠ (api_Result.mk 0 0)
       ·refine sR [hY 4 (congrArg Bool.not hq30),
          hY 5 (congrArg Bool.not hq30),
          hY 6 (congrArg Bool.not hq30),
          hP 7 (congrArg Bool.not hq30),
          hY 9 (decide_eq_false hq41),
          hY 10 (decide_eq_false hq41),
          hY 11 (decide_eq_false hq41),
          hY 12 (decide_eq_false hq41),
          hN 13 true (congrArg Bool.not hq42),
          hN 14 true (congrArg Bool.not hq42),
          hN 15 true (congrArg Bool.not hq42),
          hN 16 true (congrArg Bool.not hq42),
          hS 17 (oY rfl rfl rfl rfl (lt_of rfl) (decide_eq_false hq41) (r_pickF (b := (!(hasM m.f_Kind).f_Data)) (av := vB false) (lt_of rfl) ⟨rfl, trivial⟩ (congrArg Bool.not hq42))),
          hP 18 (decide_eq_false hq41),
          hY 20 (b := false) (w := false) rfl,
          hY 21 (b := false) (w := false) rfl,
          hY 22 (b := false) (w := false) rfl,
          hY 23 (b := false) (w := false) rfl,
          hY 24 (congrArg Bool.not hq43),
          hY 25 (congrArg Bool.not hq43),
          hY 26 (congrArg Bool.not hq43),
          hS 27 (oY rfl rfl rfl rfl (lt_of rfl) (congrArg Bool.not hq43) (r_neSt (ax := (zc734_6 m)) (ay := zc734_7) (a := m.f_Result) (b := (api_Result.mk 0 0)) seq_48 ⟨[.int .i64 m.f_Result.f_Code, .int .i64 m.f_Result.f_Stage], rfl, rfl⟩ ⟨[.int .i64 0, .int .i64 0], rfl, rfl⟩ (lt_of rfl) (by exact trivial))),
          hS 28 (oY (b := false) rfl rfl rfl rfl (lt_of rfl) rfl (r_pickT (b := (!(hasM m.f_Kind).f_Result)) (av := (zc734_8 m)) (lt_of rfl) trivial (congrArg Bool.not hq43))),
          hP 29 (b := false) (w := false) rfl,
          hN 31 false (decide_eq_true hq45),
          hN 32 false (decide_eq_true hq45),
          hN 33 false (decide_eq_true hq45),
          hN 34 false (decide_eq_true hq45),
          hP 35 (decide_eq_true hq45)] ?_
        refine cT (b := true) rfl ?_
        refine sR [] ?_
        refine T.ret (rT ?_)
        exact eRt 2 (zc734_3) [] (congrArg (fun (q1 : Int) => (vI q1 : AV)) (by exact if_neg (fun h9 => by obtain ⟨q1, q2, q3, q4, q5, q6, q7, q8, q9, q10⟩ := (well_iff m).1 h9; exact q9 ⟨(by exact nbB (by assumption)), by assumption⟩))) trivial
       refine sR [hY 4 (congrArg Bool.not hq30),
         hY 5 (congrArg Bool.not hq30),
         hY 6 (congrArg Bool.not hq30),
         hP 7 (congrArg Bool.not hq30),
         hY 9 (decide_eq_false hq41),
         hY 10 (decide_eq_false hq41),
         hY 11 (decide_eq_false hq41),
         hY 12 (decide_eq_false hq41),
         hN 13 true (congrArg Bool.not hq42),
         hN 14 true (congrArg Bool.not hq42),
         hN 15 true (congrArg Bool.not hq42),
         hN 16 true (congrArg Bool.not hq42),
         hS 17 (oY rfl rfl rfl rfl (lt_of rfl) (decide_eq_false hq41) (r_pickF (b := (!(hasM m.f_Kind).f_Data)) (av := vB false) (lt_of rfl) ⟨rfl, trivial⟩ (congrArg Bool.not hq42))),
         hP 18 (decide_eq_false hq41),
         hY 20 (b := false) (w := false) rfl,
         hY 21 (b := false) (w := false) rfl,
         hY 22 (b := false) (w := false) rfl,
         hY 23 (b := false) (w := false) rfl,
         hY 24 (congrArg Bool.not hq43),
         hY 25 (congrArg Bool.not hq43),
         hY 26 (congrArg Bool.not hq43),
         hS 27 (oY rfl rfl rfl rfl (lt_of rfl) (congrArg Bool.not hq43) (r_neSt (ax := (zc734_6 m)) (ay := zc734_7) (a := m.f_Result) (b := (api_Result.mk 0 0)) seq_48 ⟨[.int .i64 m.f_Result.f_Code, .int .i64 m.f_Result.f_Stage], rfl, rfl⟩ ⟨[.int .i64 0, .int .i64 0], rfl, rfl⟩ (lt_of rfl) (by exact trivial))),
         hS 28 (oY (b := false) rfl rfl rfl rfl (lt_of rfl) rfl (r_pickT (b := (!(hasM m.f_Kind).f_Result)) (av := (zc734_8 m)) (lt_of rfl) trivial (congrArg Bool.not hq43))),
         hP 29 (b := false) (w := false) rfl,
         hY 31 (decide_eq_false hq45),
         hY 32 (decide_eq_false hq45),
         hS 33 (oY rfl rfl rfl rfl (lt_of rfl) (decide_eq_false hq45) (rCa (ref12_counts tm m (quaestorref12_Has.mk (hasM m.f_Kind).f_View (hasM m.f_Kind).f_Seq (hasM m.f_Kind).f_Client (hasM m.f_Kind).f_Digest (hasM m.f_Kind).f_Data (hasM m.f_Kind).f_Result (hasM m.f_Kind).f_Batch (hasM m.f_Kind).f_Pres (hasM m.f_Kind).f_Certs) (by assumption) (by assumption) (by assumption)) Try.func88 [] [(.tmp 95, (zc734_0 tm m)), (.tmp 96, (zc734_4 m))] 0 0)),
         hY 34 (decide_eq_false hq45),
         hP 35 (decide_eq_false hq45)] ?_
       by_cases hq46 : cntM m (quaestorref12_Has.mk (hasM m.f_Kind).f_View (hasM m.f_Kind).f_Seq (hasM m.f_Kind).f_Client (hasM m.f_Kind).f_Digest (hasM m.f_Kind).f_Data (hasM m.f_Kind).f_Result (hasM m.f_Kind).f_Batch (hasM m.f_Kind).f_Pres (hasM m.f_Kind).f_Certs)
       ·refine cF (congrArg Bool.not (decide_eq_true hq46)) ?_
        refine T.skip (nT ?_)
        refine sR [] ?_
        refine T.ret ?_
        exact eRt 2 (zc734_5) [] (congrArg (fun (q1 : Int) => (vI q1 : AV)) (by exact if_pos ((well_iff m).2 ⟨(by assumption), (by assumption), (by assumption), (by assumption), (by assumption), (fun h8 => by exact absurd h8.1 (by assumption)), (fun h8 => by exact absurd h8.2 (by assumption)), (fun h8 => by exact absurd (by assumption) h8.1), (fun h8 => by exact absurd h8.2 (by assumption)), (by assumption)⟩))) trivial
       refine cT (congrArg Bool.not (decide_eq_false hq46)) ?_
       refine sR [] ?_
       refine T.ret (rT ?_)
       exact eRt 2 (zc734_3) [] (congrArg (fun (q1 : Int) => (vI q1 : AV)) (by exact if_neg (fun h9 => by obtain ⟨q1, q2, q3, q4, q5, q6, q7, q8, q9, q10⟩ := (well_iff m).1 h9; exact absurd q10 (by assumption)))) trivial
      replace hq42 := Bool.eq_false_iff.2 hq42
      by_cases hq47 : ((m.f_Data.length : Nat) : Int) > 0
      ·refine sR [hY 4 (congrArg Bool.not hq30),
         hY 5 (congrArg Bool.not hq30),
         hY 6 (congrArg Bool.not hq30),
         hP 7 (congrArg Bool.not hq30),
         hY 9 (decide_eq_false hq41),
         hY 10 (decide_eq_false hq41),
         hY 11 (decide_eq_false hq41),
         hY 12 (decide_eq_false hq41),
         hY 13 (congrArg Bool.not hq42),
         hY 14 (congrArg Bool.not hq42),
         hY 15 (congrArg Bool.not hq42),
         hY 16 (congrArg Bool.not hq42),
         hS 17 (oY rfl rfl rfl rfl (lt_of rfl) (decide_eq_false hq41) (r_pickT (b := (!(hasM m.f_Kind).f_Data)) (av := (zc734_9 m)) (lt_of rfl) trivial (congrArg Bool.not hq42))),
         hP 18 (decide_eq_false hq41),
         hN 20 false (decide_eq_true hq47),
         hN 21 false (decide_eq_true hq47),
         hN 22 false (decide_eq_true hq47),
         hN 23 false (decide_eq_true hq47),
         hU 24,
         hU 25,
         hU 26,
         hU 27,
         hN 28 false (decide_eq_true hq47),
         hP 29 (decide_eq_true hq47),
         hN 31 (b := true) false rfl,
         hN 32 (b := true) false rfl,
         hN 33 (b := true) false rfl,
         hN 34 (b := true) false rfl,
         hP 35 (b := true) (w := true) rfl] ?_
       refine cT (b := true) rfl ?_
       refine sR [] ?_
       refine T.ret (rT ?_)
       exact eRt 2 (zc734_3) [] (congrArg (fun (q1 : Int) => (vI q1 : AV)) (by exact if_neg (fun h9 => by obtain ⟨q1, q2, q3, q4, q5, q6, q7, q8, q9, q10⟩ := (well_iff m).1 h9; exact q8 ⟨(by exact nbB (by assumption)), by assumption⟩))) trivial
      by_cases hq48 : (hasM m.f_Kind).f_Result = true
      ·refine sR [hY 4 (congrArg Bool.not hq30),
         hY 5 (congrArg Bool.not hq30),
         hY 6 (congrArg Bool.not hq30),
         hP 7 (congrArg Bool.not hq30),
         hY 9 (decide_eq_false hq41),
         hY 10 (decide_eq_false hq41),
         hY 11 (decide_eq_false hq41),
         hY 12 (decide_eq_false hq41),
         hY 13 (congrArg Bool.not hq42),
         hY 14 (congrArg Bool.not hq42),
         hY 15 (congrArg Bool.not hq42),
         hY 16 (congrArg Bool.not hq42),
         hS 17 (oY rfl rfl rfl rfl (lt_of rfl) (decide_eq_false hq41) (r_pickT (b := (!(hasM m.f_Kind).f_Data)) (av := (zc734_9 m)) (lt_of rfl) trivial (congrArg Bool.not hq42))),
         hP 18 (decide_eq_false hq41),
         hY 20 (decide_eq_false hq47),
         hY 21 (decide_eq_false hq47),
         hY 22 (decide_eq_false hq47),
         hY 23 (decide_eq_false hq47),
         hN 24 true (congrArg Bool.not hq48),
         hN 25 true (congrArg Bool.not hq48),
         hN 26 true (congrArg Bool.not hq48),
         hN 27 true (congrArg Bool.not hq48),
         hS 28 (oY rfl rfl rfl rfl (lt_of rfl) (decide_eq_false hq47) (r_pickF (b := (!(hasM m.f_Kind).f_Result)) (av := vB false) (lt_of rfl) ⟨rfl, trivial⟩ (congrArg Bool.not hq48))),
         hP 29 (decide_eq_false hq47),
         hY 31 (b := false) (w := false) rfl,
         hY 32 (b := false) (w := false) rfl,
         hS 33 (oY (b := false) rfl rfl rfl rfl (lt_of rfl) rfl (rCa (ref12_counts tm m (quaestorref12_Has.mk (hasM m.f_Kind).f_View (hasM m.f_Kind).f_Seq (hasM m.f_Kind).f_Client (hasM m.f_Kind).f_Digest (hasM m.f_Kind).f_Data (hasM m.f_Kind).f_Result (hasM m.f_Kind).f_Batch (hasM m.f_Kind).f_Pres (hasM m.f_Kind).f_Certs) (by assumption) (by assumption) (by assumption)) Try.func88 [] [(.tmp 95, (zc734_0 tm m)), (.tmp 96, (zc734_4 m))] 0 0)),
         hY 34 (b := false) (w := false) rfl,
         hP 35 (b := false) (w := false) rfl] ?_
       by_cases hq49 : cntM m (quaestorref12_Has.mk (hasM m.f_Kind).f_View (hasM m.f_Kind).f_Seq (hasM m.f_Kind).f_Client (hasM m.f_Kind).f_Digest (hasM m.f_Kind).f_Data (hasM m.f_Kind).f_Result (hasM m.f_Kind).f_Batch (hasM m.f_Kind).f_Pres (hasM m.f_Kind).f_Certs)
       ·refine cF (congrArg Bool.not (decide_eq_true hq49)) ?_
        refine T.skip (nT ?_)
        refine sR [] ?_
        refine T.ret ?_
        exact eRt 2 (zc734_5) [] (congrArg (fun (q1 : Int) => (vI q1 : AV)) (by exact if_pos ((well_iff m).2 ⟨(by assumption), (by assumption), (by assumption), (by assumption), (by assumption), (fun h8 => by exact absurd h8.1 (by assumption)), (fun h8 => by exact absurd h8.2 (by assumption)), (fun h8 => by exact absurd h8.2 (by assumption)), (fun h8 => by exact absurd (by assumption) h8.1), (by assumption)⟩))) trivial
       refine cT (congrArg Bool.not (decide_eq_false hq49)) ?_
       refine sR [] ?_
       refine T.ret (rT ?_)
       exact eRt 2 (zc734_3) [] (congrArg (fun (q1 : Int) => (vI q1 : AV)) (by exact if_neg (fun h9 => by obtain ⟨q1, q2, q3, q4, q5, q6, q7, q8, q9, q10⟩ := (well_iff m).1 h9; exact absurd q10 (by assumption)))) trivial
      replace hq48 := Bool.eq_false_iff.2 hq48
      by_cases hq50 : m.f_Result ≠ (api_Result.mk 0 0)
      ·refine sR [hY 4 (congrArg Bool.not hq30),
         hY 5 (congrArg Bool.not hq30),
         hY 6 (congrArg Bool.not hq30),
         hP 7 (congrArg Bool.not hq30),
         hY 9 (decide_eq_false hq41),
         hY 10 (decide_eq_false hq41),
         hY 11 (decide_eq_false hq41),
         hY 12 (decide_eq_false hq41),
         hY 13 (congrArg Bool.not hq42),
         hY 14 (congrArg Bool.not hq42),
         hY 15 (congrArg Bool.not hq42),
         hY 16 (congrArg Bool.not hq42),
         hS 17 (oY rfl rfl rfl rfl (lt_of rfl) (decide_eq_false hq41) (r_pickT (b := (!(hasM m.f_Kind).f_Data)) (av := (zc734_9 m)) (lt_of rfl) trivial (congrArg Bool.not hq42))),
         hP 18 (decide_eq_false hq41),
         hY 20 (decide_eq_false hq47),
         hY 21 (decide_eq_false hq47),
         hY 22 (decide_eq_false hq47),
         hY 23 (decide_eq_false hq47),
         hY 24 (congrArg Bool.not hq48),
         hY 25 (congrArg Bool.not hq48),
         hY 26 (congrArg Bool.not hq48),
         hS 27 (oY rfl rfl rfl rfl (lt_of rfl) (congrArg Bool.not hq48) (r_neSt (ax := (zc734_6 m)) (ay := zc734_7) (a := m.f_Result) (b := (api_Result.mk 0 0)) seq_48 ⟨[.int .i64 m.f_Result.f_Code, .int .i64 m.f_Result.f_Stage], rfl, rfl⟩ ⟨[.int .i64 0, .int .i64 0], rfl, rfl⟩ (lt_of rfl) (by exact trivial))),
         hS 28 (oY rfl rfl rfl rfl (lt_of rfl) (decide_eq_false hq47) (r_pickT (b := (!(hasM m.f_Kind).f_Result)) (av := (zc734_8 m)) (lt_of rfl) trivial (congrArg Bool.not hq48))),
         hP 29 (decide_eq_false hq47),
         hN 31 false (decide_eq_true hq50),
         hN 32 false (decide_eq_true hq50),
         hN 33 false (decide_eq_true hq50),
         hN 34 false (decide_eq_true hq50),
         hP 35 (decide_eq_true hq50)] ?_
       refine cT (b := true) rfl ?_
       refine sR [] ?_
       refine T.ret (rT ?_)
       exact eRt 2 (zc734_3) [] (congrArg (fun (q1 : Int) => (vI q1 : AV)) (by exact if_neg (fun h9 => by obtain ⟨q1, q2, q3, q4, q5, q6, q7, q8, q9, q10⟩ := (well_iff m).1 h9; exact q9 ⟨(by exact nbB (by assumption)), by assumption⟩))) trivial
      refine sR [hY 4 (congrArg Bool.not hq30),
        hY 5 (congrArg Bool.not hq30),
        hY 6 (congrArg Bool.not hq30),
        hP 7 (congrArg Bool.not hq30),
        hY 9 (decide_eq_false hq41),
        hY 10 (decide_eq_false hq41),
        hY 11 (decide_eq_false hq41),
        hY 12 (decide_eq_false hq41),
        hY 13 (congrArg Bool.not hq42),
        hY 14 (congrArg Bool.not hq42),
        hY 15 (congrArg Bool.not hq42),
        hY 16 (congrArg Bool.not hq42),
        hS 17 (oY rfl rfl rfl rfl (lt_of rfl) (decide_eq_false hq41) (r_pickT (b := (!(hasM m.f_Kind).f_Data)) (av := (zc734_9 m)) (lt_of rfl) trivial (congrArg Bool.not hq42))),
        hP 18 (decide_eq_false hq41),
        hY 20 (decide_eq_false hq47),
        hY 21 (decide_eq_false hq47),
        hY 22 (decide_eq_false hq47),
        hY 23 (decide_eq_false hq47),
        hY 24 (congrArg Bool.not hq48),
        hY 25 (congrArg Bool.not hq48),
        hY 26 (congrArg Bool.not hq48),
        hS 27 (oY rfl rfl rfl rfl (lt_of rfl) (congrArg Bool.not hq48) (r_neSt (ax := (zc734_6 m)) (ay := zc734_7) (a := m.f_Result) (b := (api_Result.mk 0 0)) seq_48 ⟨[.int .i64 m.f_Result.f_Code, .int .i64 m.f_Result.f_Stage], rfl, rfl⟩ ⟨[.int .i64 0, .int .i64 0], rfl, rfl⟩ (lt_of rfl) (by exact trivial))),
        hS 28 (oY rfl rfl rfl rfl (lt_of rfl) (decide_eq_false hq47) (r_pickT (b := (!(hasM m.f_Kind).f_Result)) (av := (zc734_8 m)) (lt_of rfl) trivial (congrArg Bool.not hq48))),
        hP 29 (decide_eq_false hq47),
        hY 31 (decide_eq_false hq50),
        hY 32 (decide_eq_false hq50),
        hS 33 (oY rfl rfl rfl rfl (lt_of rfl) (decide_eq_false hq50) (rCa (ref12_counts tm m (quaestorref12_Has.mk (hasM m.f_Kind).f_View (hasM m.f_Kind).f_Seq (hasM m.f_Kind).f_Client (hasM m.f_Kind).f_Digest (hasM m.f_Kind).f_Data (hasM m.f_Kind).f_Result (hasM m.f_Kind).f_Batch (hasM m.f_Kind).f_Pres (hasM m.f_Kind).f_Certs) (by assumption) (by assumption) (by assumption)) Try.func88 [] [(.tmp 95, (zc734_0 tm m)), (.tmp 96, (zc734_4 m))] 0 0)),
        hY 34 (decide_eq_false hq50),
        hP 35 (decide_eq_false hq50)] ?_
      by_cases hq51 : cntM m (quaestorref12_Has.mk (hasM m.f_Kind).f_View (hasM m.f_Kind).f_Seq (hasM m.f_Kind).f_Client (hasM m.f_Kind).f_Digest (hasM m.f_Kind).f_Data (hasM m.f_Kind).f_Result (hasM m.f_Kind).f_Batch (hasM m.f_Kind).f_Pres (hasM m.f_Kind).f_Certs)
      ·refine cF (congrArg Bool.not (decide_eq_true hq51)) ?_
       refine T.skip (nT ?_)
       refine sR [] ?_
       refine T.ret ?_
       exact eRt 2 (zc734_5) [] (congrArg (fun (q1 : Int) => (vI q1 : AV)) (by exact if_pos ((well_iff m).2 ⟨(by assumption), (by assumption), (by assumption), (by assumption), (by assumption), (fun h8 => by exact absurd h8.1 (by assumption)), (fun h8 => by exact absurd h8.2 (by assumption)), (fun h8 => by exact absurd h8.2 (by assumption)), (fun h8 => by exact absurd h8.2 (by assumption)), (by assumption)⟩))) trivial
      refine cT (congrArg Bool.not (decide_eq_false hq51)) ?_
      refine sR [] ?_
      refine T.ret (rT ?_)
      exact eRt 2 (zc734_3) [] (congrArg (fun (q1 : Int) => (vI q1 : AV)) (by exact if_neg (fun h9 => by obtain ⟨q1, q2, q3, q4, q5, q6, q7, q8, q9, q10⟩ := (well_iff m).1 h9; exact absurd q10 (by assumption)))) trivial
     refine cT (congrArg Bool.not (decide_eq_false hq5)) ?_
     refine sR [] ?_
     refine T.ret (rT ?_)
     exact eRt 2 (zc734_3) [] (congrArg (fun (q1 : Int) => (vI q1 : AV)) (by exact if_neg (fun h9 => by obtain ⟨q1, q2, q3, q4, q5, q6, q7, q8, q9, q10⟩ := (well_iff m).1 h9; exact absurd q5 (by assumption)))) trivial
    refine sR [hY 3 (congrArg Bool.not (decide_eq_true hq1)),
      hY 4 (congrArg Bool.not (decide_eq_true hq1)),
      hY 5 (congrArg Bool.not (decide_eq_true hq1)),
      hY 6 (congrArg Bool.not (decide_eq_true hq1)),
      hY 7 (congrArg Bool.not (decide_eq_true hq1)),
      hS 8 (oY rfl rfl rfl rfl (lt_of rfl) (congrArg Bool.not (decide_eq_true hq1)) (rCa (ref12_number m.f_View (hasM m.f_Kind).f_View (fstV m.f_Kind) ) Try.func87 [] [(.tmp 23, vI m.f_View), (.tmp 25, (zc734_1 m)), (.tmp 26, (zc734_2 m))] 0 0)),
      hY 9 (congrArg Bool.not (decide_eq_true hq1)),
      hP 10 (congrArg Bool.not (decide_eq_true hq1)),
      hY 12 (congrArg Bool.not (decide_eq_true hq2)),
      hY 13 (congrArg Bool.not (decide_eq_true hq2)),
      hY 14 (congrArg Bool.not (decide_eq_true hq2)),
      hY 15 (congrArg Bool.not (decide_eq_true hq2)),
      hY 16 (congrArg Bool.not (decide_eq_true hq2)),
      hS 17 (oY rfl rfl rfl rfl (lt_of rfl) (congrArg Bool.not (decide_eq_true hq2)) (rCa (ref12_number m.f_Seq (hasM m.f_Kind).f_Seq (fstS m.f_Kind) ) Try.func87 [] [(.tmp 32, vI m.f_Seq), (.tmp 34, vB (hasM m.f_Kind).f_Seq), (.tmp 35, vI (fstS m.f_Kind))] 0 0)),
      hY 18 (congrArg Bool.not (decide_eq_true hq2)),
      hP 19 (congrArg Bool.not (decide_eq_true hq2)),
      hY 21 (congrArg Bool.not (decide_eq_true hq3)),
      hY 22 (congrArg Bool.not (decide_eq_true hq3)),
      hY 23 (congrArg Bool.not (decide_eq_true hq3)),
      hY 24 (congrArg Bool.not (decide_eq_true hq3)),
      hS 25 (oY rfl rfl rfl rfl (lt_of rfl) (congrArg Bool.not (decide_eq_true hq3)) (rCa (ref12_number m.f_Client (hasM m.f_Kind).f_Client 0 ) Try.func87 [] [(.tmp 41, vI m.f_Client), (.tmp 43, vB (hasM m.f_Kind).f_Client), (.const (.int .i64 0), vI 0)] 0 0)),
      hY 26 (congrArg Bool.not (decide_eq_true hq3)),
      hP 27 (congrArg Bool.not (decide_eq_true hq3)),
      hN 29 false (congrArg Bool.not (decide_eq_false hq4)),
      hN 30 false (congrArg Bool.not (decide_eq_false hq4)),
      hN 31 false (congrArg Bool.not (decide_eq_false hq4)),
      hN 32 false (congrArg Bool.not (decide_eq_false hq4)),
      hN 33 false (congrArg Bool.not (decide_eq_false hq4)),
      hN 34 false (congrArg Bool.not (decide_eq_false hq4)),
      hP 35 (congrArg Bool.not (decide_eq_false hq4))] ?_
    refine cT (b := true) rfl ?_
    refine sR [] ?_
    refine T.ret (rT ?_)
    exact eRt 2 (zc734_3) [] (congrArg (fun (q1 : Int) => (vI q1 : AV)) (by exact if_neg (fun h9 => by obtain ⟨q1, q2, q3, q4, q5, q6, q7, q8, q9, q10⟩ := (well_iff m).1 h9; exact absurd q4 (by assumption)))) trivial
   refine sR [hY 3 (congrArg Bool.not (decide_eq_true hq1)),
     hY 4 (congrArg Bool.not (decide_eq_true hq1)),
     hY 5 (congrArg Bool.not (decide_eq_true hq1)),
     hY 6 (congrArg Bool.not (decide_eq_true hq1)),
     hY 7 (congrArg Bool.not (decide_eq_true hq1)),
     hS 8 (oY rfl rfl rfl rfl (lt_of rfl) (congrArg Bool.not (decide_eq_true hq1)) (rCa (ref12_number m.f_View (hasM m.f_Kind).f_View (fstV m.f_Kind) ) Try.func87 [] [(.tmp 23, vI m.f_View), (.tmp 25, (zc734_1 m)), (.tmp 26, (zc734_2 m))] 0 0)),
     hY 9 (congrArg Bool.not (decide_eq_true hq1)),
     hP 10 (congrArg Bool.not (decide_eq_true hq1)),
     hY 12 (congrArg Bool.not (decide_eq_true hq2)),
     hY 13 (congrArg Bool.not (decide_eq_true hq2)),
     hY 14 (congrArg Bool.not (decide_eq_true hq2)),
     hY 15 (congrArg Bool.not (decide_eq_true hq2)),
     hY 16 (congrArg Bool.not (decide_eq_true hq2)),
     hS 17 (oY rfl rfl rfl rfl (lt_of rfl) (congrArg Bool.not (decide_eq_true hq2)) (rCa (ref12_number m.f_Seq (hasM m.f_Kind).f_Seq (fstS m.f_Kind) ) Try.func87 [] [(.tmp 32, vI m.f_Seq), (.tmp 34, vB (hasM m.f_Kind).f_Seq), (.tmp 35, vI (fstS m.f_Kind))] 0 0)),
     hY 18 (congrArg Bool.not (decide_eq_true hq2)),
     hP 19 (congrArg Bool.not (decide_eq_true hq2)),
     hN 21 false (congrArg Bool.not (decide_eq_false hq3)),
     hN 22 false (congrArg Bool.not (decide_eq_false hq3)),
     hN 23 false (congrArg Bool.not (decide_eq_false hq3)),
     hN 24 false (congrArg Bool.not (decide_eq_false hq3)),
     hN 25 false (congrArg Bool.not (decide_eq_false hq3)),
     hN 26 false (congrArg Bool.not (decide_eq_false hq3)),
     hP 27 (congrArg Bool.not (decide_eq_false hq3)),
     hN 29 (b := true) false rfl,
     hN 30 (b := true) false rfl,
     hN 31 (b := true) false rfl,
     hN 32 (b := true) false rfl,
     hN 33 (b := true) false rfl,
     hN 34 (b := true) false rfl,
     hP 35 (b := true) (w := true) rfl] ?_
   refine cT (b := true) rfl ?_
   refine sR [] ?_
   refine T.ret (rT ?_)
   exact eRt 2 (zc734_3) [] (congrArg (fun (q1 : Int) => (vI q1 : AV)) (by exact if_neg (fun h9 => by obtain ⟨q1, q2, q3, q4, q5, q6, q7, q8, q9, q10⟩ := (well_iff m).1 h9; exact absurd q3 (by assumption)))) trivial
  refine sR [hY 3 (congrArg Bool.not (decide_eq_true hq1)),
    hY 4 (congrArg Bool.not (decide_eq_true hq1)),
    hY 5 (congrArg Bool.not (decide_eq_true hq1)),
    hY 6 (congrArg Bool.not (decide_eq_true hq1)),
    hY 7 (congrArg Bool.not (decide_eq_true hq1)),
    hS 8 (oY rfl rfl rfl rfl (lt_of rfl) (congrArg Bool.not (decide_eq_true hq1)) (rCa (ref12_number m.f_View (hasM m.f_Kind).f_View (fstV m.f_Kind) ) Try.func87 [] [(.tmp 23, vI m.f_View), (.tmp 25, (zc734_1 m)), (.tmp 26, (zc734_2 m))] 0 0)),
    hY 9 (congrArg Bool.not (decide_eq_true hq1)),
    hP 10 (congrArg Bool.not (decide_eq_true hq1)),
    hN 12 false (congrArg Bool.not (decide_eq_false hq2)),
    hN 13 false (congrArg Bool.not (decide_eq_false hq2)),
    hN 14 false (congrArg Bool.not (decide_eq_false hq2)),
    hN 15 false (congrArg Bool.not (decide_eq_false hq2)),
    hN 16 false (congrArg Bool.not (decide_eq_false hq2)),
    hN 17 false (congrArg Bool.not (decide_eq_false hq2)),
    hN 18 false (congrArg Bool.not (decide_eq_false hq2)),
    hP 19 (congrArg Bool.not (decide_eq_false hq2)),
    hN 21 (b := true) false rfl,
    hN 22 (b := true) false rfl,
    hN 23 (b := true) false rfl,
    hN 24 (b := true) false rfl,
    hN 25 (b := true) false rfl,
    hN 26 (b := true) false rfl,
    hP 27 (b := true) (w := true) rfl,
    hN 29 (b := true) false rfl,
    hN 30 (b := true) false rfl,
    hN 31 (b := true) false rfl,
    hN 32 (b := true) false rfl,
    hN 33 (b := true) false rfl,
    hN 34 (b := true) false rfl,
    hP 35 (b := true) (w := true) rfl] ?_
  refine cT (b := true) rfl ?_
  refine sR [] ?_
  refine T.ret (rT ?_)
  exact eRt 2 (zc734_3) [] (congrArg (fun (q1 : Int) => (vI q1 : AV)) (by exact if_neg (fun h9 => by obtain ⟨q1, q2, q3, q4, q5, q6, q7, q8, q9, q10⟩ := (well_iff m).1 h9; exact absurd q2 (by assumption)))) trivial
 refine sR [hN 3 false (congrArg Bool.not (decide_eq_false hq1)),
   hN 4 false (congrArg Bool.not (decide_eq_false hq1)),
   hN 5 false (congrArg Bool.not (decide_eq_false hq1)),
   hN 6 false (congrArg Bool.not (decide_eq_false hq1)),
   hN 7 false (congrArg Bool.not (decide_eq_false hq1)),
   hN 8 false (congrArg Bool.not (decide_eq_false hq1)),
   hN 9 false (congrArg Bool.not (decide_eq_false hq1)),
   hP 10 (congrArg Bool.not (decide_eq_false hq1)),
   hN 12 (b := true) false rfl,
   hN 13 (b := true) false rfl,
   hN 14 (b := true) false rfl,
   hN 15 (b := true) false rfl,
   hN 16 (b := true) false rfl,
   hN 17 (b := true) false rfl,
   hN 18 (b := true) false rfl,
   hP 19 (b := true) (w := true) rfl,
   hN 21 (b := true) false rfl,
   hN 22 (b := true) false rfl,
   hN 23 (b := true) false rfl,
   hN 24 (b := true) false rfl,
   hN 25 (b := true) false rfl,
   hN 26 (b := true) false rfl,
   hP 27 (b := true) (w := true) rfl,
   hN 29 (b := true) false rfl,
   hN 30 (b := true) false rfl,
   hN 31 (b := true) false rfl,
   hN 32 (b := true) false rfl,
   hN 33 (b := true) false rfl,
   hN 34 (b := true) false rfl,
   hP 35 (b := true) (w := true) rfl] ?_
 refine cT (b := true) rfl ?_
 refine sR [] ?_
 refine T.ret (rT ?_)
 exact eRt 2 (zc734_3) [] (congrArg (fun (q1 : Int) => (vI q1 : AV)) (by exact if_neg (fun h9 => by obtain ⟨q1, q2, q3, q4, q5, q6, q7, q8, q9, q10⟩ := (well_iff m).1 h9; exact absurd q1 (by assumption)))) trivial
end Go.Proofs.Ytalapplihdmenaa.Q
