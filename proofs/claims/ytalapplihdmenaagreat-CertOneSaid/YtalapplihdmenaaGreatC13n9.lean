import Derived.Test.YtalapplihdmenaaGreatC13n8
namespace Go.Proofs.YtalapplihdmenaaGreat.Q
open Go Go.RowKit
set_option linter.unusedVariables false
set_option linter.unusedSimpArgs false
set_option maxRecDepth 100000
set_option maxHeartbeats 4000000
theorem seq_43 : SEq Tryz.prog 43 (fun x : api_Result => .agg #[.int .i64 x.f_Code, .int .i64 x.f_Stage]) := seq_of (g := fun x : api_Result => #[.int .i64 x.f_Code, .int .i64 x.f_Stage]) (bs' := fun a b => [decide (a.f_Code = b.f_Code), decide (a.f_Stage = b.f_Stage)]) Tryz.underlying43 (by kernel_rfl) (by kernel_rfl) (fun a b => ⟨by decide, ⟨_, _, rfl, rfl, .int Tryz.underlying41⟩, ⟨by decide, ⟨_, _, rfl, rfl, .int Tryz.underlying3⟩, trivial⟩⟩) (fun a b => by rw [Bool.eq_iff_iff]; simp [api_Result_iff])
section
variable (tm : Bool) (m : aM)
abbrev Z2u : AV := .tv (.agg [dI (shapeM m.f_Kind).f_has, dI (shapeM m.f_Kind).f_minView, dI (shapeM m.f_Kind).f_minSeq, dI (shapeM m.f_Kind).f_batch])
abbrev Z2v : AV := vI (shapeM m.f_Kind).f_minView
abbrev Z2w : AV := vI 1099511627776
abbrev Z2x : AV := vI (shapeM m.f_Kind).f_minSeq
abbrev Z2y : AV := vI ((m.f_Batch.length : Nat) : Int)
abbrev Z2z : AV := vI (shapeM m.f_Kind).f_batch
abbrev Z30 : AV := vI ((m.f_Digest.length : Nat) : Int)
abbrev Z31 : AV := vI ((m.f_Data.length : Nat) : Int)
abbrev Z32 : AV := slV tm false (kC tm) m.f_Certs
abbrev Z33 : AV := dv (.func (.func 119) #[] #[])
abbrev Z34 : TV := .one (dI 120)
abbrev Z35 : TV := .one (dI 0)
abbrev Z36 : AV := vB (decide (((m.f_Certs.length : Nat) : Int) = 1))
end
theorem msg_Check (tm : Bool) (m : aM) (hq : m.f_Batch.length ≤ 9223372036854775807) (hr : m.f_Pres.length ≤ 9223372036854775807) (hc : m.f_Certs.length ≤ 9223372036854775807) (hd : m.f_Data.length ≤ 9223372036854775807) (hg : m.f_Digest.length ≤ 9223372036854775807) : Holds Tryz.prog 99 ⟨[.tv (.agg [dI m.f_Kind, dI m.f_View, dI m.f_Seq, dI m.f_Client, dI m.f_Stamp, dS m.f_Digest, .d (dsl tm false kU8 m.f_Data), dI m.f_Result.f_Code, dI m.f_Result.f_Stage, .d (dsl tm false (kE tm) m.f_Batch), .d (dsl tm false (kE tm) m.f_Pres), .d (dsl tm false (kC tm) m.f_Certs)])], [], vI (chkM m), []⟩ := by
 refine Holds.of Tryz.func99 rfl (N := 129) Tryz.ntmps99 rfl fun w0 B0 S0 U0 => ?_
 show T _ (mkBase 129 0 w0 S0 U0 B0) ⟨[.tv (.agg [dI m.f_Kind, dI m.f_View, dI m.f_Seq, dI m.f_Client, dI m.f_Stamp, dS m.f_Digest, .d (dsl tm false kU8 m.f_Data), dI m.f_Result.f_Code, dI m.f_Result.f_Stage, .d (dsl tm false (kE tm) m.f_Batch), .d (dsl tm false (kE tm) m.f_Pres), .d (dsl tm false (kC tm) m.f_Certs)])], []⟩ _ _
 refine sR [] ?_
 refine sR [hR 2 rfl rfl (rCa (msg_shapeOf m.f_Kind ) Tryz.func93 [] [(.tmp 7, vI m.f_Kind)] 0 0)] ?_
 by_cases hq1 : okK m.f_Kind
 ·by_cases hq2 : inM (shapeM m.f_Kind) 1 m.f_View (shapeM m.f_Kind).f_minView 1099511627776
  ·by_cases hq3 : inM (shapeM m.f_Kind) 2 m.f_Seq (shapeM m.f_Kind).f_minSeq 1099511627776
   ·by_cases hq4 : inM (shapeM m.f_Kind) 4 m.f_Client 0 1099511627776
    ·refine sR [hY 2 (dT hq1),
       hY 3 (dT hq1),
       hY 4 (dT hq1),
       hY 5 (dT hq1),
       hY 6 (dT hq1),
       hS 7 (oY rfl rfl rfl rfl (lt_of rfl) (dT hq1) (rCa (msg_in (shapeM m.f_Kind) 1 m.f_View (shapeM m.f_Kind).f_minView 1099511627776 ) Tryz.func117 [] [(.tmp 13, (Z2u m)), (.const (.int .i64 1), vI 1), (.tmp 15, vI m.f_View), (.tmp 17, (Z2v m)), (.const (.int .i64 1099511627776), Z2w)] 0 0)),
       hP 8 (dT hq1),
       hY 10 (dT hq2),
       hY 11 (dT hq2),
       hY 12 (dT hq2),
       hY 13 (dT hq2),
       hY 14 (dT hq2),
       hS 15 (oY rfl rfl rfl rfl (lt_of rfl) (dT hq2) (rCa (msg_in (shapeM m.f_Kind) 2 m.f_Seq (shapeM m.f_Kind).f_minSeq 1099511627776 ) Tryz.func117 [] [(.tmp 21, (Z2u m)), (.const (.int .i64 2), vI 2), (.tmp 23, vI m.f_Seq), (.tmp 25, (Z2x m)), (.const (.int .i64 1099511627776), Z2w)] 0 0)),
       hP 16 (dT hq2),
       hY 18 (dT hq3),
       hY 19 (dT hq3),
       hY 20 (dT hq3),
       hS 21 (oY rfl rfl rfl rfl (lt_of rfl) (dT hq3) (rCa (msg_in (shapeM m.f_Kind) 4 m.f_Client 0 1099511627776 ) Tryz.func117 [] [(.tmp 29, (Z2u m)), (.const (.int .i64 4), vI 4), (.tmp 31, vI m.f_Client), (.const (.int .i64 0), vI 0), (.const (.int .i64 1099511627776), Z2w)] 0 0)),
       hP 22 (dT hq3),
       hY 24 (dT hq4),
       hY 25 (dT hq4),
       hY 26 (dT hq4),
       hS 27 (oY rfl rfl rfl rfl (lt_of rfl) (dT hq4) (rCa (msg_in (shapeM m.f_Kind) 4 m.f_Stamp 1 1099511627776 ) Tryz.func117 [] [(.tmp 35, (Z2u m)), (.const (.int .i64 4), vI 4), (.tmp 37, vI m.f_Stamp), (.const (.int .i64 1), vI 1), (.const (.int .i64 1099511627776), Z2w)] 0 0)),
       hP 28 (dT hq4)] ?_
     by_cases hq5 : inM (shapeM m.f_Kind) 4 m.f_Stamp 1 1099511627776
     ·by_cases hq6 : inM (shapeM m.f_Kind) 64 ((m.f_Batch.length : Nat) : Int) 0 (shapeM m.f_Kind).f_batch
      ·by_cases hq7 : inM (shapeM m.f_Kind) 128 ((m.f_Pres.length : Nat) : Int) 0 8
       ·refine sR [hY 2 (dT hq5),
          hY 3 (dT hq5),
          hY 4 (dT hq5),
          hY 5 (dT hq5),
          hY 6 (dT hq5),
          hY 7 (dT hq5),
          hS 8 (oY rfl rfl rfl rfl (lt_of rfl) (dT hq5) (rCa (msg_in (shapeM m.f_Kind) 64 ((m.f_Batch.length : Nat) : Int) 0 (shapeM m.f_Kind).f_batch ) Tryz.func117 [] [(.tmp 42, (Z2u m)), (.const (.int .i64 64), vI 64), (.tmp 45, (Z2y m)), (.const (.int .i64 0), vI 0), (.tmp 47, (Z2z m))] 0 0)),
          hP 9 (dT hq5),
          hY 11 (dT hq6),
          hY 12 (dT hq6),
          hY 13 (dT hq6),
          hY 14 (dT hq6),
          hS 15 (oY rfl rfl rfl rfl (lt_of rfl) (dT hq6) (rCa (msg_in (shapeM m.f_Kind) 128 ((m.f_Pres.length : Nat) : Int) 0 8 ) Tryz.func117 [] [(.tmp 51, (Z2u m)), (.const (.int .i64 128), vI 128), (.tmp 54, vI ((m.f_Pres.length : Nat) : Int)), (.const (.int .i64 0), vI 0), (.const (.int .i64 8), vI 8)] 0 0)),
          hP 16 (dT hq6),
          hY 18 (dT hq7),
          hY 19 (dT hq7),
          hY 20 (dT hq7),
          hY 21 (dT hq7),
          hS 22 (oY rfl rfl rfl rfl (lt_of rfl) (dT hq7) (rCa (msg_in (shapeM m.f_Kind) 256 ((m.f_Certs.length : Nat) : Int) 0 8 ) Tryz.func117 [] [(.tmp 58, (Z2u m)), (.const (.int .i64 256), vI 256), (.tmp 61, vI ((m.f_Certs.length : Nat) : Int)), (.const (.int .i64 0), vI 0), (.const (.int .i64 8), vI 8)] 0 0)),
          hP 23 (dT hq7)] ?_
        by_cases hq8 : inM (shapeM m.f_Kind) 256 ((m.f_Certs.length : Nat) : Int) 0 8
        ·by_cases hq9 : inM (shapeM m.f_Kind) 8 ((m.f_Digest.length : Nat) : Int) 0 ((m.f_Digest.length : Nat) : Int)
         ·by_cases hq10 : inM (shapeM m.f_Kind) 16 ((m.f_Data.length : Nat) : Int) 0 ((m.f_Data.length : Nat) : Int)
          ·by_cases hq11 : (andI (shapeM m.f_Kind).f_has 32) ≠ 0
           ·refine sR [hY 2 (dT hq8),
              hY 3 (dT hq8),
              hY 4 (dT hq8),
              hY 5 (dT hq8),
              hY 6 (dT hq8),
              hY 7 (dT hq8),
              hY 8 (dT hq8),
              hS 9 (oY rfl rfl rfl rfl (lt_of rfl) (dT hq8) (rCa (msg_in (shapeM m.f_Kind) 8 ((m.f_Digest.length : Nat) : Int) 0 ((m.f_Digest.length : Nat) : Int) ) Tryz.func117 [] [(.tmp 66, (Z2u m)), (.const (.int .i64 8), vI 8), (.tmp 69, (Z30 m)), (.const (.int .i64 0), vI 0), (.tmp 72, (Z30 m))] 0 0)),
              hP 10 (dT hq8),
              hY 12 (dT hq9),
              hY 13 (dT hq9),
              hY 14 (dT hq9),
              hY 15 (dT hq9),
              hY 16 (dT hq9),
              hY 17 (dT hq9),
              hY 18 (dT hq9),
              hS 19 (oY rfl rfl rfl rfl (lt_of rfl) (dT hq9) (rCa (msg_in (shapeM m.f_Kind) 16 ((m.f_Data.length : Nat) : Int) 0 ((m.f_Data.length : Nat) : Int) ) Tryz.func117 [] [(.tmp 76, (Z2u m)), (.const (.int .i64 16), vI 16), (.tmp 79, (Z31 m)), (.const (.int .i64 0), vI 0), (.tmp 82, (Z31 m))] 0 0)),
              hP 20 (dT hq9),
              hY 22 (dT hq10),
              hY 23 (dT hq10),
              hS 24 (oY rfl rfl rfl rfl (lt_of rfl) (dT hq10) (r_bin (u1 := .int .i64 (shapeM m.f_Kind).f_has) (u2 := .int .i64 32) (v := .int .i64 (andI (shapeM m.f_Kind).f_has 32)) (b_andI rfl) (lt_of rfl) ⟨rfl, trivial⟩)),
              hY 25 (dT hq10),
              hY 26 (dT hq10),
              hN 27 false (dT hq11),
              hN 28 false (dT hq11),
              hN 29 false (dT hq11),
              hN 30 false (dT hq11),
              hS 31 (oY rfl rfl rfl rfl (lt_of rfl) (dT hq10) (r_pickT (b := (decide ((andI (shapeM m.f_Kind).f_has 32) ≠ 0))) (av := vB true) (lt_of rfl) ⟨rfl, trivial⟩ (dT hq11))),
              hP 32 (dT hq10)] ?_
            by_cases hq12 : m.f_Kind ≠ 1
            ·refine sR [hY1 2,
               hY1 3,
               hY1 4,
               hY1 5,
               hN 6 false (dT hq12),
               hN 7 false (dT hq12),
               hN 8 false (dT hq12),
               hN 9 false (dT hq12),
               hS 10 (oY (b := true) rfl rfl rfl rfl (lt_of rfl) rfl (r_pickT (b := (decide (m.f_Kind ≠ 1))) (av := vB true) (lt_of rfl) ⟨rfl, trivial⟩ (dT hq12))),
               hP1 11] ?_
             by_cases hq13 : m.f_Kind ≠ 10
             ·refine sR [hY1 2,
                hY1 3,
                hY1 4,
                hY1 5,
                hN 6 false (dT hq13),
                hN 7 false (dT hq13),
                hN 8 false (dT hq13),
                hN 9 false (dT hq13),
                hS 10 (oY (b := true) rfl rfl rfl rfl (lt_of rfl) rfl (r_pickT (b := (decide (m.f_Kind ≠ 10))) (av := vB true) (lt_of rfl) ⟨rfl, trivial⟩ (dT hq13))),
                hP1 11,
                hY1 13,
                hY1 14,
                hS 15 (oY (b := true) rfl rfl rfl rfl (lt_of rfl) rfl (rCa (has_Cert tm false tm m.f_Certs ‹_›) Tryz.func118 [] [(.tmp 123, (Z32 tm m)), (.func 119, Z33)] 0 0)),
                hY1 16,
                hP1 17] ?_
              refine T.seq ?_
              refine sR [] ?_
              by_cases hq14 : ¬ fewV m.f_Certs
              ·refine cT (cn (cn (dT hq14))) ?_
               refine sR [] ?_
               refine T.ret (rT ?_)
               exact eRt 2 (Z34) [] (cI (by exact if_neg (fun h9 => by exact absurd h9.2.2.2.2.2.2.2.2.2.2.2.2.2 ‹_›))) trivial
              refine cF (cn (cn (dF hq14))) ?_
              refine T.skip (nT ?_)
              refine sR [] ?_
              refine T.ret ?_
              exact eRt 2 (Z35) [] (cI (by exact if_pos ⟨‹_›, ‹_›, ‹_›, ‹_›, ‹_›, ‹_›, ‹_›, ‹_›, ‹_›, ‹_›, (by exact .inl ‹_›), (by exact .inl ‹_›), (by exact .inl ‹_›), (by exact Classical.not_not.1 ‹_›)⟩)) trivial
             by_cases hq15 : ((m.f_Certs.length : Nat) : Int) = 1
             ·refine sR [hY1 2,
                hY1 3,
                hY1 4,
                hY1 5,
                hY 6 (dF hq13),
                hY 7 (dF hq13),
                hY 8 (dF hq13),
                hY 9 (dF hq13),
                hS 10 (oY (b := true) rfl rfl rfl rfl (lt_of rfl) rfl (r_pickF (b := (decide (m.f_Kind ≠ 10))) (av := (Z36 m)) (lt_of rfl) trivial (dF hq13))),
                hP1 11,
                hY 13 (dT hq15),
                hY 14 (dT hq15),
                hS 15 (oY rfl rfl rfl rfl (lt_of rfl) (dT hq15) (rCa (has_Cert tm false tm m.f_Certs ‹_›) Tryz.func118 [] [(.tmp 123, (Z32 tm m)), (.func 119, Z33)] 0 0)),
                hY 16 (dT hq15),
                hP 17 (dT hq15)] ?_
              refine T.seq ?_
              refine sR [] ?_
              by_cases hq16 : ¬ fewV m.f_Certs
              ·refine cT (cn (cn (dT hq16))) ?_
               refine sR [] ?_
               refine T.ret (rT ?_)
               exact eRt 2 (Z34) [] (cI (by exact if_neg (fun h9 => by exact absurd h9.2.2.2.2.2.2.2.2.2.2.2.2.2 ‹_›))) trivial
              refine cF (cn (cn (dF hq16))) ?_
              refine T.skip (nT ?_)
              refine sR [] ?_
              refine T.ret ?_
              exact eRt 2 (Z35) [] (cI (by exact if_pos ⟨‹_›, ‹_›, ‹_›, ‹_›, ‹_›, ‹_›, ‹_›, ‹_›, ‹_›, ‹_›, (by exact .inl ‹_›), (by exact .inl ‹_›), (by exact .inr ‹_›), (by exact Classical.not_not.1 ‹_›)⟩)) trivial
             refine sR [hY1 2,
               hY1 3,
               hY1 4,
               hY1 5,
               hY 6 (dF hq13),
               hY 7 (dF hq13),
               hY 8 (dF hq13),
               hY 9 (dF hq13),
               hS 10 (oY (b := true) rfl rfl rfl rfl (lt_of rfl) rfl (r_pickF (b := (decide (m.f_Kind ≠ 10))) (av := (Z36 m)) (lt_of rfl) trivial (dF hq13))),
               hP1 11,
               hN 13 true (dF hq15),
               hN 14 true (dF hq15),
               hN 15 true (dF hq15),
               hN 16 true (dF hq15),
               hP 17 (dF hq15)] ?_
             refine T.seq ?_
             refine sR [] ?_
             refine cT (b := (!false)) rfl ?_
             refine sR [] ?_
             refine T.ret (rT ?_)
             exact eRt 2 (Z34) [] (cI (by exact if_neg (fun h9 => by (rcases h9.2.2.2.2.2.2.2.2.2.2.2.2.1 with h8 | h8 <;> exact absurd h8 ‹_›)))) trivial
            refine sR [hY1 2,
              hY1 3,
              hY1 4,
              hY1 5,
              hY 6 (dF hq12),
              hY 7 (dF hq12),
              hY 8 (dF hq12),
              hY 9 (dF hq12),
              hS 10 (oY (b := true) rfl rfl rfl rfl (lt_of rfl) rfl (r_pickF (b := (decide (m.f_Kind ≠ 1))) (av := vB (decide (((m.f_Data.length : Nat) : Int) ≤ 4096))) (lt_of rfl) trivial (dF hq12))),
              hP1 11] ?_
            by_cases hq17 : ((m.f_Data.length : Nat) : Int) ≤ 4096
            ·by_cases hq18 : m.f_Kind ≠ 10
             ·refine sR [hY 2 (dT hq17),
                hY 3 (dT hq17),
                hY 4 (dT hq17),
                hY 5 (dT hq17),
                hN 6 false (dT hq18),
                hN 7 false (dT hq18),
                hN 8 false (dT hq18),
                hN 9 false (dT hq18),
                hS 10 (oY rfl rfl rfl rfl (lt_of rfl) (dT hq17) (r_pickT (b := (decide (m.f_Kind ≠ 10))) (av := vB true) (lt_of rfl) ⟨rfl, trivial⟩ (dT hq18))),
                hP 11 (dT hq17),
                hY1 13,
                hY1 14,
                hS 15 (oY (b := true) rfl rfl rfl rfl (lt_of rfl) rfl (rCa (has_Cert tm false tm m.f_Certs ‹_›) Tryz.func118 [] [(.tmp 123, (Z32 tm m)), (.func 119, Z33)] 0 0)),
                hY1 16,
                hP1 17] ?_
              refine T.seq ?_
              refine sR [] ?_
              by_cases hq19 : ¬ fewV m.f_Certs
              ·refine cT (cn (cn (dT hq19))) ?_
               refine sR [] ?_
               refine T.ret (rT ?_)
               exact eRt 2 (Z34) [] (cI (by exact if_neg (fun h9 => by exact absurd h9.2.2.2.2.2.2.2.2.2.2.2.2.2 ‹_›))) trivial
              refine cF (cn (cn (dF hq19))) ?_
              refine T.skip (nT ?_)
              refine sR [] ?_
              refine T.ret ?_
              exact eRt 2 (Z35) [] (cI (by exact if_pos ⟨‹_›, ‹_›, ‹_›, ‹_›, ‹_›, ‹_›, ‹_›, ‹_›, ‹_›, ‹_›, (by exact .inl ‹_›), (by exact .inr ‹_›), (by exact .inl ‹_›), (by exact Classical.not_not.1 ‹_›)⟩)) trivial
             by_cases hq20 : ((m.f_Certs.length : Nat) : Int) = 1
             ·refine sR [hY 2 (dT hq17),
                hY 3 (dT hq17),
                hY 4 (dT hq17),
                hY 5 (dT hq17),
                hY 6 (dF hq18),
                hY 7 (dF hq18),
                hY 8 (dF hq18),
                hY 9 (dF hq18),
                hS 10 (oY rfl rfl rfl rfl (lt_of rfl) (dT hq17) (r_pickF (b := (decide (m.f_Kind ≠ 10))) (av := (Z36 m)) (lt_of rfl) trivial (dF hq18))),
                hP 11 (dT hq17),
                hY 13 (dT hq20),
                hY 14 (dT hq20),
                hS 15 (oY rfl rfl rfl rfl (lt_of rfl) (dT hq20) (rCa (has_Cert tm false tm m.f_Certs ‹_›) Tryz.func118 [] [(.tmp 123, (Z32 tm m)), (.func 119, Z33)] 0 0)),
                hY 16 (dT hq20),
                hP 17 (dT hq20)] ?_
              refine T.seq ?_
              refine sR [] ?_
              by_cases hq21 : ¬ fewV m.f_Certs
              ·refine cT (cn (cn (dT hq21))) ?_
               refine sR [] ?_
               refine T.ret (rT ?_)
               exact eRt 2 (Z34) [] (cI (by exact if_neg (fun h9 => by exact absurd h9.2.2.2.2.2.2.2.2.2.2.2.2.2 ‹_›))) trivial
              refine cF (cn (cn (dF hq21))) ?_
              refine T.skip (nT ?_)
              refine sR [] ?_
              refine T.ret ?_
              exact eRt 2 (Z35) [] (cI (by exact if_pos ⟨‹_›, ‹_›, ‹_›, ‹_›, ‹_›, ‹_›, ‹_›, ‹_›, ‹_›, ‹_›, (by exact .inl ‹_›), (by exact .inr ‹_›), (by exact .inr ‹_›), (by exact Classical.not_not.1 ‹_›)⟩)) trivial
             refine sR [hY 2 (dT hq17),
               hY 3 (dT hq17),
               hY 4 (dT hq17),
               hY 5 (dT hq17),
               hY 6 (dF hq18),
               hY 7 (dF hq18),
               hY 8 (dF hq18),
               hY 9 (dF hq18),
               hS 10 (oY rfl rfl rfl rfl (lt_of rfl) (dT hq17) (r_pickF (b := (decide (m.f_Kind ≠ 10))) (av := (Z36 m)) (lt_of rfl) trivial (dF hq18))),
               hP 11 (dT hq17),
               hN 13 true (dF hq20),
               hN 14 true (dF hq20),
               hN 15 true (dF hq20),
               hN 16 true (dF hq20),
               hP 17 (dF hq20)] ?_
             refine T.seq ?_
             refine sR [] ?_
             refine cT (b := (!false)) rfl ?_
             refine sR [] ?_
             refine T.ret (rT ?_)
             exact eRt 2 (Z34) [] (cI (by exact if_neg (fun h9 => by (rcases h9.2.2.2.2.2.2.2.2.2.2.2.2.1 with h8 | h8 <;> exact absurd h8 ‹_›)))) trivial
            refine sR [hN 2 true (dF hq17),
              hN 3 true (dF hq17),
              hN 4 true (dF hq17),
              hN 5 true (dF hq17),
              hU 6,
              hU 7,
              hU 8,
              hU 9,
              hN 10 true (dF hq17),
              hP 11 (dF hq17),
              hN1 13,
              hN1 14,
              hN1 15,
              hN1 16,
              hP0 17] ?_
            refine T.seq ?_
            refine sR [] ?_
            refine cT (b := (!false)) rfl ?_
            refine sR [] ?_
            refine T.ret (rT ?_)
            exact eRt 2 (Z34) [] (cI (by exact if_neg (fun h9 => by (rcases h9.2.2.2.2.2.2.2.2.2.2.2.1 with h8 | h8 <;> exact absurd h8 ‹_›)))) trivial
           refine sR [hY 2 (dT hq8),
             hY 3 (dT hq8),
             hY 4 (dT hq8),
             hY 5 (dT hq8),
             hY 6 (dT hq8),
             hY 7 (dT hq8),
             hY 8 (dT hq8),
             hS 9 (oY rfl rfl rfl rfl (lt_of rfl) (dT hq8) (rCa (msg_in (shapeM m.f_Kind) 8 ((m.f_Digest.length : Nat) : Int) 0 ((m.f_Digest.length : Nat) : Int) ) Tryz.func117 [] [(.tmp 66, (Z2u m)), (.const (.int .i64 8), vI 8), (.tmp 69, (Z30 m)), (.const (.int .i64 0), vI 0), (.tmp 72, (Z30 m))] 0 0)),
             hP 10 (dT hq8),
             hY 12 (dT hq9),
             hY 13 (dT hq9),
             hY 14 (dT hq9),
             hY 15 (dT hq9),
             hY 16 (dT hq9),
             hY 17 (dT hq9),
             hY 18 (dT hq9),
             hS 19 (oY rfl rfl rfl rfl (lt_of rfl) (dT hq9) (rCa (msg_in (shapeM m.f_Kind) 16 ((m.f_Data.length : Nat) : Int) 0 ((m.f_Data.length : Nat) : Int) ) Tryz.func117 [] [(.tmp 76, (Z2u m)), (.const (.int .i64 16), vI 16), (.tmp 79, (Z31 m)), (.const (.int .i64 0), vI 0), (.tmp 82, (Z31 m))] 0 0)),
             hP 20 (dT hq9),
             hY 22 (dT hq10),
             hY 23 (dT hq10),
             hS 24 (oY rfl rfl rfl rfl (lt_of rfl) (dT hq10) (r_bin (u1 := .int .i64 (shapeM m.f_Kind).f_has) (u2 := .int .i64 32) (v := .int .i64 (andI (shapeM m.f_Kind).f_has 32)) (b_andI rfl) (lt_of rfl) ⟨rfl, trivial⟩)),
             hY 25 (dT hq10),
             hY 26 (dT hq10),
             hY 27 (dF hq11),
             hY 28 (dF hq11),
             hY 29 (dF hq11),
             hS 30 (oY rfl rfl rfl rfl (lt_of rfl) (dF hq11) (r_eqSt (ax := .tv (.agg [dI m.f_Result.f_Code, dI m.f_Result.f_Stage])) (ay := .tv (.agg [dI 0, dI 0])) (a := m.f_Result) (b := (api_Result.mk 0 0)) seq_43 ⟨[.int .i64 m.f_Result.f_Code, .int .i64 m.f_Result.f_Stage], rfl, rfl⟩ ⟨[.int .i64 0, .int .i64 0], rfl, rfl⟩ (lt_of rfl) (by exact trivial))),
             hS 31 (oY rfl rfl rfl rfl (lt_of rfl) (dT hq10) (r_pickF (b := (decide ((andI (shapeM m.f_Kind).f_has 32) ≠ 0))) (av := vB (decide (m.f_Result = (api_Result.mk 0 0)))) (lt_of rfl) trivial (dF hq11))),
             hP 32 (dT hq10)] ?_
           by_cases hq22 : m.f_Result = (api_Result.mk 0 0)
           ·by_cases hq23 : m.f_Kind ≠ 1
            ·refine sR [hY 2 (dT hq22),
               hY 3 (dT hq22),
               hY 4 (dT hq22),
               hY 5 (dT hq22),
               hN 6 false (dT hq23),
               hN 7 false (dT hq23),
               hN 8 false (dT hq23),
               hN 9 false (dT hq23),
               hS 10 (oY rfl rfl rfl rfl (lt_of rfl) (dT hq22) (r_pickT (b := (decide (m.f_Kind ≠ 1))) (av := vB true) (lt_of rfl) ⟨rfl, trivial⟩ (dT hq23))),
               hP 11 (dT hq22)] ?_
             by_cases hq24 : m.f_Kind ≠ 10
             ·refine sR [hY1 2,
                hY1 3,
                hY1 4,
                hY1 5,
                hN 6 false (dT hq24),
                hN 7 false (dT hq24),
                hN 8 false (dT hq24),
                hN 9 false (dT hq24),
                hS 10 (oY (b := true) rfl rfl rfl rfl (lt_of rfl) rfl (r_pickT (b := (decide (m.f_Kind ≠ 10))) (av := vB true) (lt_of rfl) ⟨rfl, trivial⟩ (dT hq24))),
                hP1 11,
                hY1 13,
                hY1 14,
                hS 15 (oY (b := true) rfl rfl rfl rfl (lt_of rfl) rfl (rCa (has_Cert tm false tm m.f_Certs ‹_›) Tryz.func118 [] [(.tmp 123, (Z32 tm m)), (.func 119, Z33)] 0 0)),
                hY1 16,
                hP1 17] ?_
              refine T.seq ?_
              refine sR [] ?_
              by_cases hq25 : ¬ fewV m.f_Certs
              ·refine cT (cn (cn (dT hq25))) ?_
               refine sR [] ?_
               refine T.ret (rT ?_)
               exact eRt 2 (Z34) [] (cI (by exact if_neg (fun h9 => by exact absurd h9.2.2.2.2.2.2.2.2.2.2.2.2.2 ‹_›))) trivial
              refine cF (cn (cn (dF hq25))) ?_
              refine T.skip (nT ?_)
              refine sR [] ?_
              refine T.ret ?_
              exact eRt 2 (Z35) [] (cI (by exact if_pos ⟨‹_›, ‹_›, ‹_›, ‹_›, ‹_›, ‹_›, ‹_›, ‹_›, ‹_›, ‹_›, (by exact .inr ‹_›), (by exact .inl ‹_›), (by exact .inl ‹_›), (by exact Classical.not_not.1 ‹_›)⟩)) trivial
             by_cases hq26 : ((m.f_Certs.length : Nat) : Int) = 1
             ·refine sR [hY1 2,
                hY1 3,
                hY1 4,
                hY1 5,
                hY 6 (dF hq24),
                hY 7 (dF hq24),
                hY 8 (dF hq24),
                hY 9 (dF hq24),
                hS 10 (oY (b := true) rfl rfl rfl rfl (lt_of rfl) rfl (r_pickF (b := (decide (m.f_Kind ≠ 10))) (av := (Z36 m)) (lt_of rfl) trivial (dF hq24))),
                hP1 11,
                hY 13 (dT hq26),
                hY 14 (dT hq26),
                hS 15 (oY rfl rfl rfl rfl (lt_of rfl) (dT hq26) (rCa (has_Cert tm false tm m.f_Certs ‹_›) Tryz.func118 [] [(.tmp 123, (Z32 tm m)), (.func 119, Z33)] 0 0)),
                hY 16 (dT hq26),
                hP 17 (dT hq26)] ?_
              refine T.seq ?_
              refine sR [] ?_
              by_cases hq27 : ¬ fewV m.f_Certs
              ·refine cT (cn (cn (dT hq27))) ?_
               refine sR [] ?_
               refine T.ret (rT ?_)
               exact eRt 2 (Z34) [] (cI (by exact if_neg (fun h9 => by exact absurd h9.2.2.2.2.2.2.2.2.2.2.2.2.2 ‹_›))) trivial
              refine cF (cn (cn (dF hq27))) ?_
              refine T.skip (nT ?_)
              refine sR [] ?_
              refine T.ret ?_
              exact eRt 2 (Z35) [] (cI (by exact if_pos ⟨‹_›, ‹_›, ‹_›, ‹_›, ‹_›, ‹_›, ‹_›, ‹_›, ‹_›, ‹_›, (by exact .inr ‹_›), (by exact .inl ‹_›), (by exact .inr ‹_›), (by exact Classical.not_not.1 ‹_›)⟩)) trivial
             refine sR [hY1 2,
               hY1 3,
               hY1 4,
               hY1 5,
               hY 6 (dF hq24),
               hY 7 (dF hq24),
               hY 8 (dF hq24),
               hY 9 (dF hq24),
               hS 10 (oY (b := true) rfl rfl rfl rfl (lt_of rfl) rfl (r_pickF (b := (decide (m.f_Kind ≠ 10))) (av := (Z36 m)) (lt_of rfl) trivial (dF hq24))),
               hP1 11,
               hN 13 true (dF hq26),
               hN 14 true (dF hq26),
               hN 15 true (dF hq26),
               hN 16 true (dF hq26),
               hP 17 (dF hq26)] ?_
             refine T.seq ?_
             refine sR [] ?_
             refine cT (b := (!false)) rfl ?_
             refine sR [] ?_
             refine T.ret (rT ?_)
             exact eRt 2 (Z34) [] (cI (by exact if_neg (fun h9 => by (rcases h9.2.2.2.2.2.2.2.2.2.2.2.2.1 with h8 | h8 <;> exact absurd h8 ‹_›)))) trivial
            refine sR [hY 2 (dT hq22),
              hY 3 (dT hq22),
              hY 4 (dT hq22),
              hY 5 (dT hq22),
              hY 6 (dF hq23),
              hY 7 (dF hq23),
              hY 8 (dF hq23),
              hY 9 (dF hq23),
              hS 10 (oY rfl rfl rfl rfl (lt_of rfl) (dT hq22) (r_pickF (b := (decide (m.f_Kind ≠ 1))) (av := vB (decide (((m.f_Data.length : Nat) : Int) ≤ 4096))) (lt_of rfl) trivial (dF hq23))),
              hP 11 (dT hq22)] ?_
            by_cases hq28 : ((m.f_Data.length : Nat) : Int) ≤ 4096
            ·by_cases hq29 : m.f_Kind ≠ 10
             ·refine sR [hY 2 (dT hq28),
                hY 3 (dT hq28),
                hY 4 (dT hq28),
                hY 5 (dT hq28),
                hN 6 false (dT hq29),
                hN 7 false (dT hq29),
                hN 8 false (dT hq29),
                hN 9 false (dT hq29),
                hS 10 (oY rfl rfl rfl rfl (lt_of rfl) (dT hq28) (r_pickT (b := (decide (m.f_Kind ≠ 10))) (av := vB true) (lt_of rfl) ⟨rfl, trivial⟩ (dT hq29))),
                hP 11 (dT hq28),
                hY1 13,
                hY1 14,
                hS 15 (oY (b := true) rfl rfl rfl rfl (lt_of rfl) rfl (rCa (has_Cert tm false tm m.f_Certs ‹_›) Tryz.func118 [] [(.tmp 123, (Z32 tm m)), (.func 119, Z33)] 0 0)),
                hY1 16,
                hP1 17] ?_
              refine T.seq ?_
              refine sR [] ?_
              by_cases hq30 : ¬ fewV m.f_Certs
              ·refine cT (cn (cn (dT hq30))) ?_
               refine sR [] ?_
               refine T.ret (rT ?_)
               exact eRt 2 (Z34) [] (cI (by exact if_neg (fun h9 => by exact absurd h9.2.2.2.2.2.2.2.2.2.2.2.2.2 ‹_›))) trivial
              refine cF (cn (cn (dF hq30))) ?_
              refine T.skip (nT ?_)
              refine sR [] ?_
              refine T.ret ?_
              exact eRt 2 (Z35) [] (cI (by exact if_pos ⟨‹_›, ‹_›, ‹_›, ‹_›, ‹_›, ‹_›, ‹_›, ‹_›, ‹_›, ‹_›, (by exact .inr ‹_›), (by exact .inr ‹_›), (by exact .inl ‹_›), (by exact Classical.not_not.1 ‹_›)⟩)) trivial
             by_cases hq31 : ((m.f_Certs.length : Nat) : Int) = 1
             ·refine sR [hY 2 (dT hq28),
                hY 3 (dT hq28),
                hY 4 (dT hq28),
                hY 5 (dT hq28),
                hY 6 (dF hq29),
                hY 7 (dF hq29),
                hY 8 (dF hq29),
                hY 9 (dF hq29),
                hS 10 (oY rfl rfl rfl rfl (lt_of rfl) (dT hq28) (r_pickF (b := (decide (m.f_Kind ≠ 10))) (av := (Z36 m)) (lt_of rfl) trivial (dF hq29))),
                hP 11 (dT hq28),
                hY 13 (dT hq31),
                hY 14 (dT hq31),
                hS 15 (oY rfl rfl rfl rfl (lt_of rfl) (dT hq31) (rCa (has_Cert tm false tm m.f_Certs ‹_›) Tryz.func118 [] [(.tmp 123, (Z32 tm m)), (.func 119, Z33)] 0 0)),
                hY 16 (dT hq31),
                hP 17 (dT hq31)] ?_
              refine T.seq ?_
              refine sR [] ?_
              by_cases hq32 : ¬ fewV m.f_Certs
              ·refine cT (cn (cn (dT hq32))) ?_
               refine sR [] ?_
               refine T.ret (rT ?_)
               exact eRt 2 (Z34) [] (cI (by exact if_neg (fun h9 => by exact absurd h9.2.2.2.2.2.2.2.2.2.2.2.2.2 ‹_›))) trivial
              refine cF (cn (cn (dF hq32))) ?_
              refine T.skip (nT ?_)
              refine sR [] ?_
              refine T.ret ?_
              exact eRt 2 (Z35) [] (cI (by exact if_pos ⟨‹_›, ‹_›, ‹_›, ‹_›, ‹_›, ‹_›, ‹_›, ‹_›, ‹_›, ‹_›, (by exact .inr ‹_›), (by exact .inr ‹_›), (by exact .inr ‹_›), (by exact Classical.not_not.1 ‹_›)⟩)) trivial
             refine sR [hY 2 (dT hq28),
               hY 3 (dT hq28),
               hY 4 (dT hq28),
               hY 5 (dT hq28),
               hY 6 (dF hq29),
               hY 7 (dF hq29),
               hY 8 (dF hq29),
               hY 9 (dF hq29),
               hS 10 (oY rfl rfl rfl rfl (lt_of rfl) (dT hq28) (r_pickF (b := (decide (m.f_Kind ≠ 10))) (av := (Z36 m)) (lt_of rfl) trivial (dF hq29))),
               hP 11 (dT hq28),
               hN 13 true (dF hq31),
               hN 14 true (dF hq31),
               hN 15 true (dF hq31),
               hN 16 true (dF hq31),
               hP 17 (dF hq31)] ?_
             refine T.seq ?_
             refine sR [] ?_
             refine cT (b := (!false)) rfl ?_
             refine sR [] ?_
             refine T.ret (rT ?_)
             exact eRt 2 (Z34) [] (cI (by exact if_neg (fun h9 => by (rcases h9.2.2.2.2.2.2.2.2.2.2.2.2.1 with h8 | h8 <;> exact absurd h8 ‹_›)))) trivial
            refine sR [hN 2 true (dF hq28),
              hN 3 true (dF hq28),
              hN 4 true (dF hq28),
              hN 5 true (dF hq28),
              hU 6,
              hU 7,
              hU 8,
              hU 9,
              hN 10 true (dF hq28),
              hP 11 (dF hq28),
              hN1 13,
              hN1 14,
              hN1 15,
              hN1 16,
              hP0 17] ?_
            refine T.seq ?_
            refine sR [] ?_
            refine cT (b := (!false)) rfl ?_
            refine sR [] ?_
            refine T.ret (rT ?_)
            exact eRt 2 (Z34) [] (cI (by exact if_neg (fun h9 => by (rcases h9.2.2.2.2.2.2.2.2.2.2.2.1 with h8 | h8 <;> exact absurd h8 ‹_›)))) trivial
           refine sR [hN 2 true (dF hq22),
             hN 3 true (dF hq22),
             hN 4 true (dF hq22),
             hN 5 true (dF hq22),
             hU 6,
             hU 7,
             hU 8,
             hU 9,
             hN 10 true (dF hq22),
             hP 11 (dF hq22)] ?_
           refine sR [hN1 2,
             hN1 3,
             hN1 4,
             hN1 5,
             hU 6,
             hU 7,
             hU 8,
             hU 9,
             hN1 10,
             hP0 11,
             hN1 13,
             hN1 14,
             hN1 15,
             hN1 16,
             hP0 17] ?_
           refine T.seq ?_
           refine sR [] ?_
           refine cT (b := (!false)) rfl ?_
           refine sR [] ?_
           refine T.ret (rT ?_)
           exact eRt 2 (Z34) [] (cI (by exact if_neg (fun h9 => by (rcases h9.2.2.2.2.2.2.2.2.2.2.1 with h8 | h8 <;> exact absurd h8 ‹_›)))) trivial
          refine sR [hY 2 (dT hq8),
            hY 3 (dT hq8),
            hY 4 (dT hq8),
            hY 5 (dT hq8),
            hY 6 (dT hq8),
            hY 7 (dT hq8),
            hY 8 (dT hq8),
            hS 9 (oY rfl rfl rfl rfl (lt_of rfl) (dT hq8) (rCa (msg_in (shapeM m.f_Kind) 8 ((m.f_Digest.length : Nat) : Int) 0 ((m.f_Digest.length : Nat) : Int) ) Tryz.func117 [] [(.tmp 66, (Z2u m)), (.const (.int .i64 8), vI 8), (.tmp 69, (Z30 m)), (.const (.int .i64 0), vI 0), (.tmp 72, (Z30 m))] 0 0)),
            hP 10 (dT hq8),
            hY 12 (dT hq9),
            hY 13 (dT hq9),
            hY 14 (dT hq9),
            hY 15 (dT hq9),
            hY 16 (dT hq9),
            hY 17 (dT hq9),
            hY 18 (dT hq9),
            hS 19 (oY rfl rfl rfl rfl (lt_of rfl) (dT hq9) (rCa (msg_in (shapeM m.f_Kind) 16 ((m.f_Data.length : Nat) : Int) 0 ((m.f_Data.length : Nat) : Int) ) Tryz.func117 [] [(.tmp 76, (Z2u m)), (.const (.int .i64 16), vI 16), (.tmp 79, (Z31 m)), (.const (.int .i64 0), vI 0), (.tmp 82, (Z31 m))] 0 0)),
            hP 20 (dT hq9),
            hN 22 true (dF hq10),
            hN 23 true (dF hq10),
            hN 24 true (dF hq10),
            hN 25 true (dF hq10),
            hN 26 true (dF hq10),
            hU 27,
            hU 28,
            hU 29,
            hU 30,
            hN 31 true (dF hq10),
            hP 32 (dF hq10)] ?_
          refine sR [hN1 2,
            hN1 3,
            hN1 4,
            hN1 5,
            hU 6,
            hU 7,
            hU 8,
            hU 9,
            hN1 10,
            hP0 11] ?_
          refine sR [hN1 2,
            hN1 3,
            hN1 4,
            hN1 5,
            hU 6,
            hU 7,
            hU 8,
            hU 9,
            hN1 10,
            hP0 11,
            hN1 13,
            hN1 14,
            hN1 15,
            hN1 16,
            hP0 17] ?_
          refine T.seq ?_
          refine sR [] ?_
          refine cT (b := (!false)) rfl ?_
          refine sR [] ?_
          refine T.ret (rT ?_)
          exact eRt 2 (Z34) [] (cI (by exact if_neg (fun h9 => by exact absurd h9.2.2.2.2.2.2.2.2.2.1 ‹_›))) trivial
         refine sR [hY 2 (dT hq8),
           hY 3 (dT hq8),
           hY 4 (dT hq8),
           hY 5 (dT hq8),
           hY 6 (dT hq8),
           hY 7 (dT hq8),
           hY 8 (dT hq8),
           hS 9 (oY rfl rfl rfl rfl (lt_of rfl) (dT hq8) (rCa (msg_in (shapeM m.f_Kind) 8 ((m.f_Digest.length : Nat) : Int) 0 ((m.f_Digest.length : Nat) : Int) ) Tryz.func117 [] [(.tmp 66, (Z2u m)), (.const (.int .i64 8), vI 8), (.tmp 69, (Z30 m)), (.const (.int .i64 0), vI 0), (.tmp 72, (Z30 m))] 0 0)),
           hP 10 (dT hq8),
           hN 12 true (dF hq9),
           hN 13 true (dF hq9),
           hN 14 true (dF hq9),
           hN 15 true (dF hq9),
           hN 16 true (dF hq9),
           hN 17 true (dF hq9),
           hN 18 true (dF hq9),
           hN 19 true (dF hq9),
           hP 20 (dF hq9),
           hN1 22,
           hN1 23,
           hN1 24,
           hN1 25,
           hN1 26,
           hU 27,
           hU 28,
           hU 29,
           hU 30,
           hN1 31,
           hP0 32] ?_
         refine sR [hN1 2,
           hN1 3,
           hN1 4,
           hN1 5,
           hU 6,
           hU 7,
           hU 8,
           hU 9,
           hN1 10,
           hP0 11] ?_
         refine sR [hN1 2,
           hN1 3,
           hN1 4,
           hN1 5,
           hU 6,
           hU 7,
           hU 8,
           hU 9,
           hN1 10,
           hP0 11,
           hN1 13,
           hN1 14,
           hN1 15,
           hN1 16,
           hP0 17] ?_
         refine T.seq ?_
         refine sR [] ?_
         refine cT (b := (!false)) rfl ?_
         refine sR [] ?_
         refine T.ret (rT ?_)
         exact eRt 2 (Z34) [] (cI (by exact if_neg (fun h9 => by exact absurd h9.2.2.2.2.2.2.2.2.1 ‹_›))) trivial
        refine sR [hN 2 true (dF hq8),
          hN 3 true (dF hq8),
          hN 4 true (dF hq8),
          hN 5 true (dF hq8),
          hN 6 true (dF hq8),
          hN 7 true (dF hq8),
          hN 8 true (dF hq8),
          hN 9 true (dF hq8),
          hP 10 (dF hq8),
          hN1 12,
          hN1 13,
          hN1 14,
          hN1 15,
          hN1 16,
          hN1 17,
          hN1 18,
          hN1 19,
          hP0 20,
          hN1 22,
          hN1 23,
          hN1 24,
          hN1 25,
          hN1 26,
          hU 27,
          hU 28,
          hU 29,
          hU 30,
          hN1 31,
          hP0 32] ?_
        refine sR [hN1 2,
          hN1 3,
          hN1 4,
          hN1 5,
          hU 6,
          hU 7,
          hU 8,
          hU 9,
          hN1 10,
          hP0 11] ?_
        refine sR [hN1 2,
          hN1 3,
          hN1 4,
          hN1 5,
          hU 6,
          hU 7,
          hU 8,
          hU 9,
          hN1 10,
          hP0 11,
          hN1 13,
          hN1 14,
          hN1 15,
          hN1 16,
          hP0 17] ?_
        refine T.seq ?_
        refine sR [] ?_
        refine cT (b := (!false)) rfl ?_
        refine sR [] ?_
        refine T.ret (rT ?_)
        exact eRt 2 (Z34) [] (cI (by exact if_neg (fun h9 => by exact absurd h9.2.2.2.2.2.2.2.1 ‹_›))) trivial
       refine sR [hY 2 (dT hq5),
         hY 3 (dT hq5),
         hY 4 (dT hq5),
         hY 5 (dT hq5),
         hY 6 (dT hq5),
         hY 7 (dT hq5),
         hS 8 (oY rfl rfl rfl rfl (lt_of rfl) (dT hq5) (rCa (msg_in (shapeM m.f_Kind) 64 ((m.f_Batch.length : Nat) : Int) 0 (shapeM m.f_Kind).f_batch ) Tryz.func117 [] [(.tmp 42, (Z2u m)), (.const (.int .i64 64), vI 64), (.tmp 45, (Z2y m)), (.const (.int .i64 0), vI 0), (.tmp 47, (Z2z m))] 0 0)),
         hP 9 (dT hq5),
         hY 11 (dT hq6),
         hY 12 (dT hq6),
         hY 13 (dT hq6),
         hY 14 (dT hq6),
         hS 15 (oY rfl rfl rfl rfl (lt_of rfl) (dT hq6) (rCa (msg_in (shapeM m.f_Kind) 128 ((m.f_Pres.length : Nat) : Int) 0 8 ) Tryz.func117 [] [(.tmp 51, (Z2u m)), (.const (.int .i64 128), vI 128), (.tmp 54, vI ((m.f_Pres.length : Nat) : Int)), (.const (.int .i64 0), vI 0), (.const (.int .i64 8), vI 8)] 0 0)),
         hP 16 (dT hq6),
         hN 18 true (dF hq7),
         hN 19 true (dF hq7),
         hN 20 true (dF hq7),
         hN 21 true (dF hq7),
         hN 22 true (dF hq7),
         hP 23 (dF hq7)] ?_
       refine sR [hN1 2,
         hN1 3,
         hN1 4,
         hN1 5,
         hN1 6,
         hN1 7,
         hN1 8,
         hN1 9,
         hP0 10,
         hN1 12,
         hN1 13,
         hN1 14,
         hN1 15,
         hN1 16,
         hN1 17,
         hN1 18,
         hN1 19,
         hP0 20,
         hN1 22,
         hN1 23,
         hN1 24,
         hN1 25,
         hN1 26,
         hU 27,
         hU 28,
         hU 29,
         hU 30,
         hN1 31,
         hP0 32] ?_
       refine sR [hN1 2,
         hN1 3,
         hN1 4,
         hN1 5,
         hU 6,
         hU 7,
         hU 8,
         hU 9,
         hN1 10,
         hP0 11] ?_
       refine sR [hN1 2,
         hN1 3,
         hN1 4,
         hN1 5,
         hU 6,
         hU 7,
         hU 8,
         hU 9,
         hN1 10,
         hP0 11,
         hN1 13,
         hN1 14,
         hN1 15,
         hN1 16,
         hP0 17] ?_
       refine T.seq ?_
       refine sR [] ?_
       refine cT (b := (!false)) rfl ?_
       refine sR [] ?_
       refine T.ret (rT ?_)
       exact eRt 2 (Z34) [] (cI (by exact if_neg (fun h9 => by exact absurd h9.2.2.2.2.2.2.1 ‹_›))) trivial
      refine sR [hY 2 (dT hq5),
        hY 3 (dT hq5),
        hY 4 (dT hq5),
        hY 5 (dT hq5),
        hY 6 (dT hq5),
        hY 7 (dT hq5),
        hS 8 (oY rfl rfl rfl rfl (lt_of rfl) (dT hq5) (rCa (msg_in (shapeM m.f_Kind) 64 ((m.f_Batch.length : Nat) : Int) 0 (shapeM m.f_Kind).f_batch ) Tryz.func117 [] [(.tmp 42, (Z2u m)), (.const (.int .i64 64), vI 64), (.tmp 45, (Z2y m)), (.const (.int .i64 0), vI 0), (.tmp 47, (Z2z m))] 0 0)),
        hP 9 (dT hq5),
        hN 11 true (dF hq6),
        hN 12 true (dF hq6),
        hN 13 true (dF hq6),
        hN 14 true (dF hq6),
        hN 15 true (dF hq6),
        hP 16 (dF hq6),
        hN1 18,
        hN1 19,
        hN1 20,
        hN1 21,
        hN1 22,
        hP0 23] ?_
      refine sR [hN1 2,
        hN1 3,
        hN1 4,
        hN1 5,
        hN1 6,
        hN1 7,
        hN1 8,
        hN1 9,
        hP0 10,
        hN1 12,
        hN1 13,
        hN1 14,
        hN1 15,
        hN1 16,
        hN1 17,
        hN1 18,
        hN1 19,
        hP0 20,
        hN1 22,
        hN1 23,
        hN1 24,
        hN1 25,
        hN1 26,
        hU 27,
        hU 28,
        hU 29,
        hU 30,
        hN1 31,
        hP0 32] ?_
      refine sR [hN1 2,
        hN1 3,
        hN1 4,
        hN1 5,
        hU 6,
        hU 7,
        hU 8,
        hU 9,
        hN1 10,
        hP0 11] ?_
      refine sR [hN1 2,
        hN1 3,
        hN1 4,
        hN1 5,
        hU 6,
        hU 7,
        hU 8,
        hU 9,
        hN1 10,
        hP0 11,
        hN1 13,
        hN1 14,
        hN1 15,
        hN1 16,
        hP0 17] ?_
      refine T.seq ?_
      refine sR [] ?_
      refine cT (b := (!false)) rfl ?_
      refine sR [] ?_
      refine T.ret (rT ?_)
      exact eRt 2 (Z34) [] (cI (by exact if_neg (fun h9 => by exact absurd h9.2.2.2.2.2.1 ‹_›))) trivial
     refine sR [hN 2 true (dF hq5),
       hN 3 true (dF hq5),
       hN 4 true (dF hq5),
       hN 5 true (dF hq5),
       hN 6 true (dF hq5),
       hN 7 true (dF hq5),
       hN 8 true (dF hq5),
       hP 9 (dF hq5),
       hN1 11,
       hN1 12,
       hN1 13,
       hN1 14,
       hN1 15,
       hP0 16,
       hN1 18,
       hN1 19,
       hN1 20,
       hN1 21,
       hN1 22,
       hP0 23] ?_
     refine sR [hN1 2,
       hN1 3,
       hN1 4,
       hN1 5,
       hN1 6,
       hN1 7,
       hN1 8,
       hN1 9,
       hP0 10,
       hN1 12,
       hN1 13,
       hN1 14,
       hN1 15,
       hN1 16,
       hN1 17,
       hN1 18,
       hN1 19,
       hP0 20,
       hN1 22,
       hN1 23,
       hN1 24,
       hN1 25,
       hN1 26,
       hU 27,
       hU 28,
       hU 29,
       hU 30,
       hN1 31,
       hP0 32] ?_
     refine sR [hN1 2,
       hN1 3,
       hN1 4,
       hN1 5,
       hU 6,
       hU 7,
       hU 8,
       hU 9,
       hN1 10,
       hP0 11] ?_
     refine sR [hN1 2,
       hN1 3,
       hN1 4,
       hN1 5,
       hU 6,
       hU 7,
       hU 8,
       hU 9,
       hN1 10,
       hP0 11,
       hN1 13,
       hN1 14,
       hN1 15,
       hN1 16,
       hP0 17] ?_
     refine T.seq ?_
     refine sR [] ?_
     refine cT (b := (!false)) rfl ?_
     refine sR [] ?_
     refine T.ret (rT ?_)
     exact eRt 2 (Z34) [] (cI (by exact if_neg (fun h9 => by exact absurd h9.2.2.2.2.1 ‹_›))) trivial
    refine sR [hY 2 (dT hq1),
      hY 3 (dT hq1),
      hY 4 (dT hq1),
      hY 5 (dT hq1),
      hY 6 (dT hq1),
      hS 7 (oY rfl rfl rfl rfl (lt_of rfl) (dT hq1) (rCa (msg_in (shapeM m.f_Kind) 1 m.f_View (shapeM m.f_Kind).f_minView 1099511627776 ) Tryz.func117 [] [(.tmp 13, (Z2u m)), (.const (.int .i64 1), vI 1), (.tmp 15, vI m.f_View), (.tmp 17, (Z2v m)), (.const (.int .i64 1099511627776), Z2w)] 0 0)),
      hP 8 (dT hq1),
      hY 10 (dT hq2),
      hY 11 (dT hq2),
      hY 12 (dT hq2),
      hY 13 (dT hq2),
      hY 14 (dT hq2),
      hS 15 (oY rfl rfl rfl rfl (lt_of rfl) (dT hq2) (rCa (msg_in (shapeM m.f_Kind) 2 m.f_Seq (shapeM m.f_Kind).f_minSeq 1099511627776 ) Tryz.func117 [] [(.tmp 21, (Z2u m)), (.const (.int .i64 2), vI 2), (.tmp 23, vI m.f_Seq), (.tmp 25, (Z2x m)), (.const (.int .i64 1099511627776), Z2w)] 0 0)),
      hP 16 (dT hq2),
      hY 18 (dT hq3),
      hY 19 (dT hq3),
      hY 20 (dT hq3),
      hS 21 (oY rfl rfl rfl rfl (lt_of rfl) (dT hq3) (rCa (msg_in (shapeM m.f_Kind) 4 m.f_Client 0 1099511627776 ) Tryz.func117 [] [(.tmp 29, (Z2u m)), (.const (.int .i64 4), vI 4), (.tmp 31, vI m.f_Client), (.const (.int .i64 0), vI 0), (.const (.int .i64 1099511627776), Z2w)] 0 0)),
      hP 22 (dT hq3),
      hN 24 true (dF hq4),
      hN 25 true (dF hq4),
      hN 26 true (dF hq4),
      hN 27 true (dF hq4),
      hP 28 (dF hq4)] ?_
    refine sR [hN1 2,
      hN1 3,
      hN1 4,
      hN1 5,
      hN1 6,
      hN1 7,
      hN1 8,
      hP0 9,
      hN1 11,
      hN1 12,
      hN1 13,
      hN1 14,
      hN1 15,
      hP0 16,
      hN1 18,
      hN1 19,
      hN1 20,
      hN1 21,
      hN1 22,
      hP0 23] ?_
    refine sR [hN1 2,
      hN1 3,
      hN1 4,
      hN1 5,
      hN1 6,
      hN1 7,
      hN1 8,
      hN1 9,
      hP0 10,
      hN1 12,
      hN1 13,
      hN1 14,
      hN1 15,
      hN1 16,
      hN1 17,
      hN1 18,
      hN1 19,
      hP0 20,
      hN1 22,
      hN1 23,
      hN1 24,
      hN1 25,
      hN1 26,
      hU 27,
      hU 28,
      hU 29,
      hU 30,
      hN1 31,
      hP0 32] ?_
    refine sR [hN1 2,
      hN1 3,
      hN1 4,
      hN1 5,
      hU 6,
      hU 7,
      hU 8,
      hU 9,
      hN1 10,
      hP0 11] ?_
    refine sR [hN1 2,
      hN1 3,
      hN1 4,
      hN1 5,
      hU 6,
      hU 7,
      hU 8,
      hU 9,
      hN1 10,
      hP0 11,
      hN1 13,
      hN1 14,
      hN1 15,
      hN1 16,
      hP0 17] ?_
    refine T.seq ?_
    refine sR [] ?_
    refine cT (b := (!false)) rfl ?_
    refine sR [] ?_
    refine T.ret (rT ?_)
    exact eRt 2 (Z34) [] (cI (by exact if_neg (fun h9 => by exact absurd h9.2.2.2.1 ‹_›))) trivial
   refine sR [hY 2 (dT hq1),
     hY 3 (dT hq1),
     hY 4 (dT hq1),
     hY 5 (dT hq1),
     hY 6 (dT hq1),
     hS 7 (oY rfl rfl rfl rfl (lt_of rfl) (dT hq1) (rCa (msg_in (shapeM m.f_Kind) 1 m.f_View (shapeM m.f_Kind).f_minView 1099511627776 ) Tryz.func117 [] [(.tmp 13, (Z2u m)), (.const (.int .i64 1), vI 1), (.tmp 15, vI m.f_View), (.tmp 17, (Z2v m)), (.const (.int .i64 1099511627776), Z2w)] 0 0)),
     hP 8 (dT hq1),
     hY 10 (dT hq2),
     hY 11 (dT hq2),
     hY 12 (dT hq2),
     hY 13 (dT hq2),
     hY 14 (dT hq2),
     hS 15 (oY rfl rfl rfl rfl (lt_of rfl) (dT hq2) (rCa (msg_in (shapeM m.f_Kind) 2 m.f_Seq (shapeM m.f_Kind).f_minSeq 1099511627776 ) Tryz.func117 [] [(.tmp 21, (Z2u m)), (.const (.int .i64 2), vI 2), (.tmp 23, vI m.f_Seq), (.tmp 25, (Z2x m)), (.const (.int .i64 1099511627776), Z2w)] 0 0)),
     hP 16 (dT hq2),
     hN 18 true (dF hq3),
     hN 19 true (dF hq3),
     hN 20 true (dF hq3),
     hN 21 true (dF hq3),
     hP 22 (dF hq3),
     hN1 24,
     hN1 25,
     hN1 26,
     hN1 27,
     hP0 28] ?_
   refine sR [hN1 2,
     hN1 3,
     hN1 4,
     hN1 5,
     hN1 6,
     hN1 7,
     hN1 8,
     hP0 9,
     hN1 11,
     hN1 12,
     hN1 13,
     hN1 14,
     hN1 15,
     hP0 16,
     hN1 18,
     hN1 19,
     hN1 20,
     hN1 21,
     hN1 22,
     hP0 23] ?_
   refine sR [hN1 2,
     hN1 3,
     hN1 4,
     hN1 5,
     hN1 6,
     hN1 7,
     hN1 8,
     hN1 9,
     hP0 10,
     hN1 12,
     hN1 13,
     hN1 14,
     hN1 15,
     hN1 16,
     hN1 17,
     hN1 18,
     hN1 19,
     hP0 20,
     hN1 22,
     hN1 23,
     hN1 24,
     hN1 25,
     hN1 26,
     hU 27,
     hU 28,
     hU 29,
     hU 30,
     hN1 31,
     hP0 32] ?_
   refine sR [hN1 2,
     hN1 3,
     hN1 4,
     hN1 5,
     hU 6,
     hU 7,
     hU 8,
     hU 9,
     hN1 10,
     hP0 11] ?_
   refine sR [hN1 2,
     hN1 3,
     hN1 4,
     hN1 5,
     hU 6,
     hU 7,
     hU 8,
     hU 9,
     hN1 10,
     hP0 11,
     hN1 13,
     hN1 14,
     hN1 15,
     hN1 16,
     hP0 17] ?_
   refine T.seq ?_
   refine sR [] ?_
   refine cT (b := (!false)) rfl ?_
   refine sR [] ?_
   refine T.ret (rT ?_)
   exact eRt 2 (Z34) [] (cI (by exact if_neg (fun h9 => by exact absurd h9.2.2.1 ‹_›))) trivial
  refine sR [hY 2 (dT hq1),
    hY 3 (dT hq1),
    hY 4 (dT hq1),
    hY 5 (dT hq1),
    hY 6 (dT hq1),
    hS 7 (oY rfl rfl rfl rfl (lt_of rfl) (dT hq1) (rCa (msg_in (shapeM m.f_Kind) 1 m.f_View (shapeM m.f_Kind).f_minView 1099511627776 ) Tryz.func117 [] [(.tmp 13, (Z2u m)), (.const (.int .i64 1), vI 1), (.tmp 15, vI m.f_View), (.tmp 17, (Z2v m)), (.const (.int .i64 1099511627776), Z2w)] 0 0)),
    hP 8 (dT hq1),
    hN 10 true (dF hq2),
    hN 11 true (dF hq2),
    hN 12 true (dF hq2),
    hN 13 true (dF hq2),
    hN 14 true (dF hq2),
    hN 15 true (dF hq2),
    hP 16 (dF hq2),
    hN1 18,
    hN1 19,
    hN1 20,
    hN1 21,
    hP0 22,
    hN1 24,
    hN1 25,
    hN1 26,
    hN1 27,
    hP0 28] ?_
  refine sR [hN1 2,
    hN1 3,
    hN1 4,
    hN1 5,
    hN1 6,
    hN1 7,
    hN1 8,
    hP0 9,
    hN1 11,
    hN1 12,
    hN1 13,
    hN1 14,
    hN1 15,
    hP0 16,
    hN1 18,
    hN1 19,
    hN1 20,
    hN1 21,
    hN1 22,
    hP0 23] ?_
  refine sR [hN1 2,
    hN1 3,
    hN1 4,
    hN1 5,
    hN1 6,
    hN1 7,
    hN1 8,
    hN1 9,
    hP0 10,
    hN1 12,
    hN1 13,
    hN1 14,
    hN1 15,
    hN1 16,
    hN1 17,
    hN1 18,
    hN1 19,
    hP0 20,
    hN1 22,
    hN1 23,
    hN1 24,
    hN1 25,
    hN1 26,
    hU 27,
    hU 28,
    hU 29,
    hU 30,
    hN1 31,
    hP0 32] ?_
  refine sR [hN1 2,
    hN1 3,
    hN1 4,
    hN1 5,
    hU 6,
    hU 7,
    hU 8,
    hU 9,
    hN1 10,
    hP0 11] ?_
  refine sR [hN1 2,
    hN1 3,
    hN1 4,
    hN1 5,
    hU 6,
    hU 7,
    hU 8,
    hU 9,
    hN1 10,
    hP0 11,
    hN1 13,
    hN1 14,
    hN1 15,
    hN1 16,
    hP0 17] ?_
  refine T.seq ?_
  refine sR [] ?_
  refine cT (b := (!false)) rfl ?_
  refine sR [] ?_
  refine T.ret (rT ?_)
  exact eRt 2 (Z34) [] (cI (by exact if_neg (fun h9 => by exact absurd h9.2.1 ‹_›))) trivial
 refine sR [hN 2 true (dF hq1),
   hN 3 true (dF hq1),
   hN 4 true (dF hq1),
   hN 5 true (dF hq1),
   hN 6 true (dF hq1),
   hN 7 true (dF hq1),
   hP 8 (dF hq1),
   hN1 10,
   hN1 11,
   hN1 12,
   hN1 13,
   hN1 14,
   hN1 15,
   hP0 16,
   hN1 18,
   hN1 19,
   hN1 20,
   hN1 21,
   hP0 22,
   hN1 24,
   hN1 25,
   hN1 26,
   hN1 27,
   hP0 28] ?_
 refine sR [hN1 2,
   hN1 3,
   hN1 4,
   hN1 5,
   hN1 6,
   hN1 7,
   hN1 8,
   hP0 9,
   hN1 11,
   hN1 12,
   hN1 13,
   hN1 14,
   hN1 15,
   hP0 16,
   hN1 18,
   hN1 19,
   hN1 20,
   hN1 21,
   hN1 22,
   hP0 23] ?_
 refine sR [hN1 2,
   hN1 3,
   hN1 4,
   hN1 5,
   hN1 6,
   hN1 7,
   hN1 8,
   hN1 9,
   hP0 10,
   hN1 12,
   hN1 13,
   hN1 14,
   hN1 15,
   hN1 16,
   hN1 17,
   hN1 18,
   hN1 19,
   hP0 20,
   hN1 22,
   hN1 23,
   hN1 24,
   hN1 25,
   hN1 26,
   hU 27,
   hU 28,
   hU 29,
   hU 30,
   hN1 31,
   hP0 32] ?_
 refine sR [hN1 2,
   hN1 3,
   hN1 4,
   hN1 5,
   hU 6,
   hU 7,
   hU 8,
   hU 9,
   hN1 10,
   hP0 11] ?_
 refine sR [hN1 2,
   hN1 3,
   hN1 4,
   hN1 5,
   hU 6,
   hU 7,
   hU 8,
   hU 9,
   hN1 10,
   hP0 11,
   hN1 13,
   hN1 14,
   hN1 15,
   hN1 16,
   hP0 17] ?_
 refine T.seq ?_
 refine sR [] ?_
 refine cT (b := (!false)) rfl ?_
 refine sR [] ?_
 refine T.ret (rT ?_)
 exact eRt 2 (Z34) [] (cI (by exact if_neg (fun h9 => by exact absurd h9.1 ‹_›))) trivial
end Go.Proofs.YtalapplihdmenaaGreat.Q
