import Derived.Test.YtalapplihdmenaaC13n6
namespace Go.Proofs.Ytalapplihdmenaa.Q
open Go Go.RowKit
set_option linter.unusedVariables false
set_option linter.unusedSimpArgs false
set_option maxRecDepth 100000
set_option maxHeartbeats 4000000
theorem wide_46 : Wide Try.prog 46 none := ⟨_, Try.underlying46, (fun _ h => by cases h), (fun _ _ h => by cases h)⟩
theorem seq_48 : SEq Try.prog 48 (fun x : api_Result => .agg #[.int .i64 x.f_Code, .int .i64 x.f_Stage]) := seq_of (g := fun x : api_Result => #[.int .i64 x.f_Code, .int .i64 x.f_Stage]) (bs' := fun a b => [decide (a.f_Code = b.f_Code), decide (a.f_Stage = b.f_Stage)]) Try.underlying48 (by kernel_rfl) (by kernel_rfl) (fun a b => ⟨by decide, ⟨_, _, rfl, rfl, .int Try.underlying36⟩, ⟨by decide, ⟨_, _, rfl, rfl, .int Try.underlying3⟩, trivial⟩⟩) (fun a b => by rw [Bool.eq_iff_iff]; simp [api_Result_iff])
section
variable (tm : Bool) (m : api_Message)
abbrev z5b58_0 : AV := .tv (.agg [dI (shapeM m.f_Kind).f_has, dI (shapeM m.f_Kind).f_minView, dI (shapeM m.f_Kind).f_minSeq, dI (shapeM m.f_Kind).f_batch])
abbrev z5b58_1 : AV := vI (shapeM m.f_Kind).f_minView
abbrev z5b58_2 : AV := vI 1099511627776
abbrev z5b58_3 : AV := vI (shapeM m.f_Kind).f_minSeq
abbrev z5b58_4 : AV := vI ((m.f_Batch.length : Nat) : Int)
abbrev z5b58_5 : AV := vI (shapeM m.f_Kind).f_batch
abbrev z5b58_6 : AV := vI ((m.f_Digest.length : Nat) : Int)
abbrev z5b58_7 : AV := vI ((m.f_Data.length : Nat) : Int)
abbrev z5b58_8 : AV := slV tm false (k_api_Cert tm) m.f_Certs
abbrev z5b58_9 : AV := dv (.func (.func 98) #[] #[])
abbrev z5b58_a : TV := .one (dI 120)
abbrev z5b58_b : TV := .one (dI 0)
abbrev z5b58_c : AV := vB (decide (((m.f_Certs.length : Nat) : Int) = 1))
end
theorem msg_Check (tm : Bool) (m : api_Message) (hq : m.f_Batch.length ≤ 9223372036854775807) (hr : m.f_Pres.length ≤ 9223372036854775807) (hc : m.f_Certs.length ≤ 9223372036854775807) (hd : m.f_Data.length ≤ 9223372036854775807) (hg : m.f_Digest.length ≤ 9223372036854775807) : Holds Try.prog 78 ⟨[.tv (.agg [dI m.f_Kind, dI m.f_View, dI m.f_Seq, dI m.f_Client, dI m.f_Stamp, dS m.f_Digest, .d (dsl tm false kU8 m.f_Data), dI m.f_Result.f_Code, dI m.f_Result.f_Stage, .d (dsl tm false (k_api_Envelope tm) m.f_Batch), .d (dsl tm false (k_api_Envelope tm) m.f_Pres), .d (dsl tm false (k_api_Cert tm) m.f_Certs)])], [], vI (chkM m), []⟩ := by
 refine Holds.of Try.func78 rfl (N := 129) Try.ntmps78 rfl fun w0 B0 S0 U0 => ?_
 show T _ (mkBase 129 0 w0 S0 U0 B0) ⟨[.tv (.agg [dI m.f_Kind, dI m.f_View, dI m.f_Seq, dI m.f_Client, dI m.f_Stamp, dS m.f_Digest, .d (dsl tm false kU8 m.f_Data), dI m.f_Result.f_Code, dI m.f_Result.f_Stage, .d (dsl tm false (k_api_Envelope tm) m.f_Batch), .d (dsl tm false (k_api_Envelope tm) m.f_Pres), .d (dsl tm false (k_api_Cert tm) m.f_Certs)])], []⟩ _ _
 refine sR [] ?_
 refine sR [hR 2 rfl rfl (rCa (msg_shapeOf m.f_Kind ) Try.func72 [] [(.tmp 7, vI m.f_Kind)] 0 0)] ?_
 by_cases hq1 : okK m.f_Kind
 ·by_cases hq2 : inM (shapeM m.f_Kind) 1 m.f_View (shapeM m.f_Kind).f_minView 1099511627776
  ·by_cases hq3 : inM (shapeM m.f_Kind) 2 m.f_Seq (shapeM m.f_Kind).f_minSeq 1099511627776
   ·by_cases hq4 : inM (shapeM m.f_Kind) 4 m.f_Client 0 1099511627776
    ·refine sR [hY 2 (decide_eq_true hq1),
       hY 3 (decide_eq_true hq1),
       hY 4 (decide_eq_true hq1),
       hY 5 (decide_eq_true hq1),
       hY 6 (decide_eq_true hq1),
       hS 7 (oY rfl rfl rfl rfl (lt_of rfl) (decide_eq_true hq1) (rCa (msg_in (shapeM m.f_Kind) 1 m.f_View (shapeM m.f_Kind).f_minView 1099511627776 ) Try.func96 [] [(.tmp 13, (z5b58_0 m)), (.const (.int .i64 1), vI 1), (.tmp 15, vI m.f_View), (.tmp 17, (z5b58_1 m)), (.const (.int .i64 1099511627776), z5b58_2)] 0 0)),
       hP 8 (decide_eq_true hq1),
       hY 10 (decide_eq_true hq2),
       hY 11 (decide_eq_true hq2),
       hY 12 (decide_eq_true hq2),
       hY 13 (decide_eq_true hq2),
       hY 14 (decide_eq_true hq2),
       hS 15 (oY rfl rfl rfl rfl (lt_of rfl) (decide_eq_true hq2) (rCa (msg_in (shapeM m.f_Kind) 2 m.f_Seq (shapeM m.f_Kind).f_minSeq 1099511627776 ) Try.func96 [] [(.tmp 21, (z5b58_0 m)), (.const (.int .i64 2), vI 2), (.tmp 23, vI m.f_Seq), (.tmp 25, (z5b58_3 m)), (.const (.int .i64 1099511627776), z5b58_2)] 0 0)),
       hP 16 (decide_eq_true hq2),
       hY 18 (decide_eq_true hq3),
       hY 19 (decide_eq_true hq3),
       hY 20 (decide_eq_true hq3),
       hS 21 (oY rfl rfl rfl rfl (lt_of rfl) (decide_eq_true hq3) (rCa (msg_in (shapeM m.f_Kind) 4 m.f_Client 0 1099511627776 ) Try.func96 [] [(.tmp 29, (z5b58_0 m)), (.const (.int .i64 4), vI 4), (.tmp 31, vI m.f_Client), (.const (.int .i64 0), vI 0), (.const (.int .i64 1099511627776), z5b58_2)] 0 0)),
       hP 22 (decide_eq_true hq3),
       hY 24 (decide_eq_true hq4),
       hY 25 (decide_eq_true hq4),
       hY 26 (decide_eq_true hq4),
       hS 27 (oY rfl rfl rfl rfl (lt_of rfl) (decide_eq_true hq4) (rCa (msg_in (shapeM m.f_Kind) 4 m.f_Stamp 1 1099511627776 ) Try.func96 [] [(.tmp 35, (z5b58_0 m)), (.const (.int .i64 4), vI 4), (.tmp 37, vI m.f_Stamp), (.const (.int .i64 1), vI 1), (.const (.int .i64 1099511627776), z5b58_2)] 0 0)),
       hP 28 (decide_eq_true hq4)] ?_
     by_cases hq5 : inM (shapeM m.f_Kind) 4 m.f_Stamp 1 1099511627776
     ·by_cases hq6 : inM (shapeM m.f_Kind) 64 ((m.f_Batch.length : Nat) : Int) 0 (shapeM m.f_Kind).f_batch
      ·by_cases hq7 : inM (shapeM m.f_Kind) 128 ((m.f_Pres.length : Nat) : Int) 0 8
       ·refine sR [hY 2 (decide_eq_true hq5),
          hY 3 (decide_eq_true hq5),
          hY 4 (decide_eq_true hq5),
          hY 5 (decide_eq_true hq5),
          hY 6 (decide_eq_true hq5),
          hY 7 (decide_eq_true hq5),
          hS 8 (oY rfl rfl rfl rfl (lt_of rfl) (decide_eq_true hq5) (rCa (msg_in (shapeM m.f_Kind) 64 ((m.f_Batch.length : Nat) : Int) 0 (shapeM m.f_Kind).f_batch ) Try.func96 [] [(.tmp 42, (z5b58_0 m)), (.const (.int .i64 64), vI 64), (.tmp 45, (z5b58_4 m)), (.const (.int .i64 0), vI 0), (.tmp 47, (z5b58_5 m))] 0 0)),
          hP 9 (decide_eq_true hq5),
          hY 11 (decide_eq_true hq6),
          hY 12 (decide_eq_true hq6),
          hY 13 (decide_eq_true hq6),
          hY 14 (decide_eq_true hq6),
          hS 15 (oY rfl rfl rfl rfl (lt_of rfl) (decide_eq_true hq6) (rCa (msg_in (shapeM m.f_Kind) 128 ((m.f_Pres.length : Nat) : Int) 0 8 ) Try.func96 [] [(.tmp 51, (z5b58_0 m)), (.const (.int .i64 128), vI 128), (.tmp 54, vI ((m.f_Pres.length : Nat) : Int)), (.const (.int .i64 0), vI 0), (.const (.int .i64 8), vI 8)] 0 0)),
          hP 16 (decide_eq_true hq6),
          hY 18 (decide_eq_true hq7),
          hY 19 (decide_eq_true hq7),
          hY 20 (decide_eq_true hq7),
          hY 21 (decide_eq_true hq7),
          hS 22 (oY rfl rfl rfl rfl (lt_of rfl) (decide_eq_true hq7) (rCa (msg_in (shapeM m.f_Kind) 256 ((m.f_Certs.length : Nat) : Int) 0 8 ) Try.func96 [] [(.tmp 58, (z5b58_0 m)), (.const (.int .i64 256), vI 256), (.tmp 61, vI ((m.f_Certs.length : Nat) : Int)), (.const (.int .i64 0), vI 0), (.const (.int .i64 8), vI 8)] 0 0)),
          hP 23 (decide_eq_true hq7)] ?_
        by_cases hq8 : inM (shapeM m.f_Kind) 256 ((m.f_Certs.length : Nat) : Int) 0 8
        ·by_cases hq9 : inM (shapeM m.f_Kind) 8 ((m.f_Digest.length : Nat) : Int) 0 ((m.f_Digest.length : Nat) : Int)
         ·by_cases hq10 : inM (shapeM m.f_Kind) 16 ((m.f_Data.length : Nat) : Int) 0 ((m.f_Data.length : Nat) : Int)
          ·by_cases hq11 : (andI (shapeM m.f_Kind).f_has 32) ≠ 0
           ·refine sR [hY 2 (decide_eq_true hq8),
              hY 3 (decide_eq_true hq8),
              hY 4 (decide_eq_true hq8),
              hY 5 (decide_eq_true hq8),
              hY 6 (decide_eq_true hq8),
              hY 7 (decide_eq_true hq8),
              hY 8 (decide_eq_true hq8),
              hS 9 (oY rfl rfl rfl rfl (lt_of rfl) (decide_eq_true hq8) (rCa (msg_in (shapeM m.f_Kind) 8 ((m.f_Digest.length : Nat) : Int) 0 ((m.f_Digest.length : Nat) : Int) ) Try.func96 [] [(.tmp 66, (z5b58_0 m)), (.const (.int .i64 8), vI 8), (.tmp 69, (z5b58_6 m)), (.const (.int .i64 0), vI 0), (.tmp 72, (z5b58_6 m))] 0 0)),
              hP 10 (decide_eq_true hq8),
              hY 12 (decide_eq_true hq9),
              hY 13 (decide_eq_true hq9),
              hY 14 (decide_eq_true hq9),
              hY 15 (decide_eq_true hq9),
              hY 16 (decide_eq_true hq9),
              hY 17 (decide_eq_true hq9),
              hY 18 (decide_eq_true hq9),
              hS 19 (oY rfl rfl rfl rfl (lt_of rfl) (decide_eq_true hq9) (rCa (msg_in (shapeM m.f_Kind) 16 ((m.f_Data.length : Nat) : Int) 0 ((m.f_Data.length : Nat) : Int) ) Try.func96 [] [(.tmp 76, (z5b58_0 m)), (.const (.int .i64 16), vI 16), (.tmp 79, (z5b58_7 m)), (.const (.int .i64 0), vI 0), (.tmp 82, (z5b58_7 m))] 0 0)),
              hP 20 (decide_eq_true hq9),
              hY 22 (decide_eq_true hq10),
              hY 23 (decide_eq_true hq10),
              hS 24 (oY rfl rfl rfl rfl (lt_of rfl) (decide_eq_true hq10) (r_bin (u1 := .int .i64 (shapeM m.f_Kind).f_has) (u2 := .int .i64 32) (v := .int .i64 (andI (shapeM m.f_Kind).f_has 32)) (b_andI rfl) (lt_of rfl) ⟨rfl, trivial⟩)),
              hY 25 (decide_eq_true hq10),
              hY 26 (decide_eq_true hq10),
              hN 27 false (decide_eq_true hq11),
              hN 28 false (decide_eq_true hq11),
              hN 29 false (decide_eq_true hq11),
              hN 30 false (decide_eq_true hq11),
              hS 31 (oY rfl rfl rfl rfl (lt_of rfl) (decide_eq_true hq10) (r_pickT (b := (decide ((andI (shapeM m.f_Kind).f_has 32) ≠ 0))) (av := vB true) (lt_of rfl) ⟨rfl, trivial⟩ (decide_eq_true hq11))),
              hP 32 (decide_eq_true hq10)] ?_
            by_cases hq12 : m.f_Kind ≠ 1
            ·refine sR [hY 2 (b := true) (w := true) rfl,
               hY 3 (b := true) (w := true) rfl,
               hY 4 (b := true) (w := true) rfl,
               hY 5 (b := true) (w := true) rfl,
               hN 6 false (decide_eq_true hq12),
               hN 7 false (decide_eq_true hq12),
               hN 8 false (decide_eq_true hq12),
               hN 9 false (decide_eq_true hq12),
               hS 10 (oY (b := true) rfl rfl rfl rfl (lt_of rfl) rfl (r_pickT (b := (decide (m.f_Kind ≠ 1))) (av := vB true) (lt_of rfl) ⟨rfl, trivial⟩ (decide_eq_true hq12))),
               hP 11 (b := true) (w := true) rfl] ?_
             by_cases hq13 : m.f_Kind ≠ 10
             ·refine sR [hY 2 (b := true) (w := true) rfl,
                hY 3 (b := true) (w := true) rfl,
                hY 4 (b := true) (w := true) rfl,
                hY 5 (b := true) (w := true) rfl,
                hN 6 false (decide_eq_true hq13),
                hN 7 false (decide_eq_true hq13),
                hN 8 false (decide_eq_true hq13),
                hN 9 false (decide_eq_true hq13),
                hS 10 (oY (b := true) rfl rfl rfl rfl (lt_of rfl) rfl (r_pickT (b := (decide (m.f_Kind ≠ 10))) (av := vB true) (lt_of rfl) ⟨rfl, trivial⟩ (decide_eq_true hq13))),
                hP 11 (b := true) (w := true) rfl,
                hY 13 (b := true) (w := true) rfl,
                hY 14 (b := true) (w := true) rfl,
                hS 15 (oY (b := true) rfl rfl rfl rfl (lt_of rfl) rfl (rCa (has_Cert tm false tm m.f_Certs (by assumption)) Try.func97 [] [(.tmp 123, (z5b58_8 tm m)), (.func 98, z5b58_9)] 0 0)),
                hY 16 (b := true) (w := true) rfl,
                hP 17 (b := true) (w := true) rfl] ?_
              refine T.seq ?_
              refine sR [] ?_
              by_cases hq14 : ¬ fewV m.f_Certs
              ·refine cT (congrArg Bool.not (congrArg Bool.not (decide_eq_true hq14))) ?_
               refine sR [] ?_
               refine T.ret (rT ?_)
               exact eRt 2 (z5b58_a) [] (congrArg (fun (q1 : Int) => (vI q1 : AV)) (by exact if_neg (fun h9 => by exact absurd h9.2.2.2.2.2.2.2.2.2.2.2.2.2 (by assumption)))) trivial
              refine cF (congrArg Bool.not (congrArg Bool.not (decide_eq_false hq14))) ?_
              refine T.skip (nT ?_)
              refine sR [] ?_
              refine T.ret ?_
              exact eRt 2 (z5b58_b) [] (congrArg (fun (q1 : Int) => (vI q1 : AV)) (by exact if_pos ⟨(by assumption), (by assumption), (by assumption), (by assumption), (by assumption), (by assumption), (by assumption), (by assumption), (by assumption), (by assumption), (by exact .inl (by assumption)), (by exact .inl (by assumption)), (by exact .inl (by assumption)), (by exact Classical.not_not.1 (by assumption))⟩)) trivial
             by_cases hq15 : ((m.f_Certs.length : Nat) : Int) = 1
             ·refine sR [hY 2 (b := true) (w := true) rfl,
                hY 3 (b := true) (w := true) rfl,
                hY 4 (b := true) (w := true) rfl,
                hY 5 (b := true) (w := true) rfl,
                hY 6 (decide_eq_false hq13),
                hY 7 (decide_eq_false hq13),
                hY 8 (decide_eq_false hq13),
                hY 9 (decide_eq_false hq13),
                hS 10 (oY (b := true) rfl rfl rfl rfl (lt_of rfl) rfl (r_pickF (b := (decide (m.f_Kind ≠ 10))) (av := (z5b58_c m)) (lt_of rfl) trivial (decide_eq_false hq13))),
                hP 11 (b := true) (w := true) rfl,
                hY 13 (decide_eq_true hq15),
                hY 14 (decide_eq_true hq15),
                hS 15 (oY rfl rfl rfl rfl (lt_of rfl) (decide_eq_true hq15) (rCa (has_Cert tm false tm m.f_Certs (by assumption)) Try.func97 [] [(.tmp 123, (z5b58_8 tm m)), (.func 98, z5b58_9)] 0 0)),
                hY 16 (decide_eq_true hq15),
                hP 17 (decide_eq_true hq15)] ?_
              refine T.seq ?_
              refine sR [] ?_
              by_cases hq16 : ¬ fewV m.f_Certs
              ·refine cT (congrArg Bool.not (congrArg Bool.not (decide_eq_true hq16))) ?_
               refine sR [] ?_
               refine T.ret (rT ?_)
               exact eRt 2 (z5b58_a) [] (congrArg (fun (q1 : Int) => (vI q1 : AV)) (by exact if_neg (fun h9 => by exact absurd h9.2.2.2.2.2.2.2.2.2.2.2.2.2 (by assumption)))) trivial
              refine cF (congrArg Bool.not (congrArg Bool.not (decide_eq_false hq16))) ?_
              refine T.skip (nT ?_)
              refine sR [] ?_
              refine T.ret ?_
              exact eRt 2 (z5b58_b) [] (congrArg (fun (q1 : Int) => (vI q1 : AV)) (by exact if_pos ⟨(by assumption), (by assumption), (by assumption), (by assumption), (by assumption), (by assumption), (by assumption), (by assumption), (by assumption), (by assumption), (by exact .inl (by assumption)), (by exact .inl (by assumption)), (by exact .inr (by assumption)), (by exact Classical.not_not.1 (by assumption))⟩)) trivial
             refine sR [hY 2 (b := true) (w := true) rfl,
               hY 3 (b := true) (w := true) rfl,
               hY 4 (b := true) (w := true) rfl,
               hY 5 (b := true) (w := true) rfl,
               hY 6 (decide_eq_false hq13),
               hY 7 (decide_eq_false hq13),
               hY 8 (decide_eq_false hq13),
               hY 9 (decide_eq_false hq13),
               hS 10 (oY (b := true) rfl rfl rfl rfl (lt_of rfl) rfl (r_pickF (b := (decide (m.f_Kind ≠ 10))) (av := (z5b58_c m)) (lt_of rfl) trivial (decide_eq_false hq13))),
               hP 11 (b := true) (w := true) rfl,
               hN 13 true (decide_eq_false hq15),
               hN 14 true (decide_eq_false hq15),
               hN 15 true (decide_eq_false hq15),
               hN 16 true (decide_eq_false hq15),
               hP 17 (decide_eq_false hq15)] ?_
             refine T.seq ?_
             refine sR [] ?_
             refine cT (b := (!false)) rfl ?_
             refine sR [] ?_
             refine T.ret (rT ?_)
             exact eRt 2 (z5b58_a) [] (congrArg (fun (q1 : Int) => (vI q1 : AV)) (by exact if_neg (fun h9 => by (rcases h9.2.2.2.2.2.2.2.2.2.2.2.2.1 with h8 | h8 <;> exact absurd h8 (by assumption))))) trivial
            refine sR [hY 2 (b := true) (w := true) rfl,
              hY 3 (b := true) (w := true) rfl,
              hY 4 (b := true) (w := true) rfl,
              hY 5 (b := true) (w := true) rfl,
              hY 6 (decide_eq_false hq12),
              hY 7 (decide_eq_false hq12),
              hY 8 (decide_eq_false hq12),
              hY 9 (decide_eq_false hq12),
              hS 10 (oY (b := true) rfl rfl rfl rfl (lt_of rfl) rfl (r_pickF (b := (decide (m.f_Kind ≠ 1))) (av := vB (decide (((m.f_Data.length : Nat) : Int) ≤ 4096))) (lt_of rfl) trivial (decide_eq_false hq12))),
              hP 11 (b := true) (w := true) rfl] ?_
            by_cases hq17 : ((m.f_Data.length : Nat) : Int) ≤ 4096
            ·by_cases hq18 : m.f_Kind ≠ 10
             ·refine sR [hY 2 (decide_eq_true hq17),
                hY 3 (decide_eq_true hq17),
                hY 4 (decide_eq_true hq17),
                hY 5 (decide_eq_true hq17),
                hN 6 false (decide_eq_true hq18),
                hN 7 false (decide_eq_true hq18),
                hN 8 false (decide_eq_true hq18),
                hN 9 false (decide_eq_true hq18),
                hS 10 (oY rfl rfl rfl rfl (lt_of rfl) (decide_eq_true hq17) (r_pickT (b := (decide (m.f_Kind ≠ 10))) (av := vB true) (lt_of rfl) ⟨rfl, trivial⟩ (decide_eq_true hq18))),
                hP 11 (decide_eq_true hq17),
                hY 13 (b := true) (w := true) rfl,
                hY 14 (b := true) (w := true) rfl,
                hS 15 (oY (b := true) rfl rfl rfl rfl (lt_of rfl) rfl (rCa (has_Cert tm false tm m.f_Certs (by assumption)) Try.func97 [] [(.tmp 123, (z5b58_8 tm m)), (.func 98, z5b58_9)] 0 0)),
                hY 16 (b := true) (w := true) rfl,
                hP 17 (b := true) (w := true) rfl] ?_
              refine T.seq ?_
              refine sR [] ?_
              by_cases hq19 : ¬ fewV m.f_Certs
              ·refine cT (congrArg Bool.not (congrArg Bool.not (decide_eq_true hq19))) ?_
               refine sR [] ?_
               refine T.ret (rT ?_)
               exact eRt 2 (z5b58_a) [] (congrArg (fun (q1 : Int) => (vI q1 : AV)) (by exact if_neg (fun h9 => by exact absurd h9.2.2.2.2.2.2.2.2.2.2.2.2.2 (by assumption)))) trivial
              refine cF (congrArg Bool.not (congrArg Bool.not (decide_eq_false hq19))) ?_
              refine T.skip (nT ?_)
              refine sR [] ?_
              refine T.ret ?_
              exact eRt 2 (z5b58_b) [] (congrArg (fun (q1 : Int) => (vI q1 : AV)) (by exact if_pos ⟨(by assumption), (by assumption), (by assumption), (by assumption), (by assumption), (by assumption), (by assumption), (by assumption), (by assumption), (by assumption), (by exact .inl (by assumption)), (by exact .inr (by assumption)), (by exact .inl (by assumption)), (by exact Classical.not_not.1 (by assumption))⟩)) trivial
             by_cases hq20 : ((m.f_Certs.length : Nat) : Int) = 1
             ·refine sR [hY 2 (decide_eq_true hq17),
                hY 3 (decide_eq_true hq17),
                hY 4 (decide_eq_true hq17),
                hY 5 (decide_eq_true hq17),
                hY 6 (decide_eq_false hq18),
                hY 7 (decide_eq_false hq18),
                hY 8 (decide_eq_false hq18),
                hY 9 (decide_eq_false hq18),
                hS 10 (oY rfl rfl rfl rfl (lt_of rfl) (decide_eq_true hq17) (r_pickF (b := (decide (m.f_Kind ≠ 10))) (av := (z5b58_c m)) (lt_of rfl) trivial (decide_eq_false hq18))),
                hP 11 (decide_eq_true hq17),
                hY 13 (decide_eq_true hq20),
                hY 14 (decide_eq_true hq20),
                hS 15 (oY rfl rfl rfl rfl (lt_of rfl) (decide_eq_true hq20) (rCa (has_Cert tm false tm m.f_Certs (by assumption)) Try.func97 [] [(.tmp 123, (z5b58_8 tm m)), (.func 98, z5b58_9)] 0 0)),
                hY 16 (decide_eq_true hq20),
                hP 17 (decide_eq_true hq20)] ?_
              refine T.seq ?_
              refine sR [] ?_
              by_cases hq21 : ¬ fewV m.f_Certs
              ·refine cT (congrArg Bool.not (congrArg Bool.not (decide_eq_true hq21))) ?_
               refine sR [] ?_
               refine T.ret (rT ?_)
               exact eRt 2 (z5b58_a) [] (congrArg (fun (q1 : Int) => (vI q1 : AV)) (by exact if_neg (fun h9 => by exact absurd h9.2.2.2.2.2.2.2.2.2.2.2.2.2 (by assumption)))) trivial
              refine cF (congrArg Bool.not (congrArg Bool.not (decide_eq_false hq21))) ?_
              refine T.skip (nT ?_)
              refine sR [] ?_
              refine T.ret ?_
              exact eRt 2 (z5b58_b) [] (congrArg (fun (q1 : Int) => (vI q1 : AV)) (by exact if_pos ⟨(by assumption), (by assumption), (by assumption), (by assumption), (by assumption), (by assumption), (by assumption), (by assumption), (by assumption), (by assumption), (by exact .inl (by assumption)), (by exact .inr (by assumption)), (by exact .inr (by assumption)), (by exact Classical.not_not.1 (by assumption))⟩)) trivial
             refine sR [hY 2 (decide_eq_true hq17),
               hY 3 (decide_eq_true hq17),
               hY 4 (decide_eq_true hq17),
               hY 5 (decide_eq_true hq17),
               hY 6 (decide_eq_false hq18),
               hY 7 (decide_eq_false hq18),
               hY 8 (decide_eq_false hq18),
               hY 9 (decide_eq_false hq18),
               hS 10 (oY rfl rfl rfl rfl (lt_of rfl) (decide_eq_true hq17) (r_pickF (b := (decide (m.f_Kind ≠ 10))) (av := (z5b58_c m)) (lt_of rfl) trivial (decide_eq_false hq18))),
               hP 11 (decide_eq_true hq17),
               hN 13 true (decide_eq_false hq20),
               hN 14 true (decide_eq_false hq20),
               hN 15 true (decide_eq_false hq20),
               hN 16 true (decide_eq_false hq20),
               hP 17 (decide_eq_false hq20)] ?_
             refine T.seq ?_
             refine sR [] ?_
             refine cT (b := (!false)) rfl ?_
             refine sR [] ?_
             refine T.ret (rT ?_)
             exact eRt 2 (z5b58_a) [] (congrArg (fun (q1 : Int) => (vI q1 : AV)) (by exact if_neg (fun h9 => by (rcases h9.2.2.2.2.2.2.2.2.2.2.2.2.1 with h8 | h8 <;> exact absurd h8 (by assumption))))) trivial
            refine sR [hN 2 true (decide_eq_false hq17),
              hN 3 true (decide_eq_false hq17),
              hN 4 true (decide_eq_false hq17),
              hN 5 true (decide_eq_false hq17),
              hU 6,
              hU 7,
              hU 8,
              hU 9,
              hN 10 true (decide_eq_false hq17),
              hP 11 (decide_eq_false hq17),
              hN 13 (b := false) true rfl,
              hN 14 (b := false) true rfl,
              hN 15 (b := false) true rfl,
              hN 16 (b := false) true rfl,
              hP 17 (b := false) (w := false) rfl] ?_
            refine T.seq ?_
            refine sR [] ?_
            refine cT (b := (!false)) rfl ?_
            refine sR [] ?_
            refine T.ret (rT ?_)
            exact eRt 2 (z5b58_a) [] (congrArg (fun (q1 : Int) => (vI q1 : AV)) (by exact if_neg (fun h9 => by (rcases h9.2.2.2.2.2.2.2.2.2.2.2.1 with h8 | h8 <;> exact absurd h8 (by assumption))))) trivial
           refine sR [hY 2 (decide_eq_true hq8),
             hY 3 (decide_eq_true hq8),
             hY 4 (decide_eq_true hq8),
             hY 5 (decide_eq_true hq8),
             hY 6 (decide_eq_true hq8),
             hY 7 (decide_eq_true hq8),
             hY 8 (decide_eq_true hq8),
             hS 9 (oY rfl rfl rfl rfl (lt_of rfl) (decide_eq_true hq8) (rCa (msg_in (shapeM m.f_Kind) 8 ((m.f_Digest.length : Nat) : Int) 0 ((m.f_Digest.length : Nat) : Int) ) Try.func96 [] [(.tmp 66, (z5b58_0 m)), (.const (.int .i64 8), vI 8), (.tmp 69, (z5b58_6 m)), (.const (.int .i64 0), vI 0), (.tmp 72, (z5b58_6 m))] 0 0)),
             hP 10 (decide_eq_true hq8),
             hY 12 (decide_eq_true hq9),
             hY 13 (decide_eq_true hq9),
             hY 14 (decide_eq_true hq9),
             hY 15 (decide_eq_true hq9),
             hY 16 (decide_eq_true hq9),
             hY 17 (decide_eq_true hq9),
             hY 18 (decide_eq_true hq9),
             hS 19 (oY rfl rfl rfl rfl (lt_of rfl) (decide_eq_true hq9) (rCa (msg_in (shapeM m.f_Kind) 16 ((m.f_Data.length : Nat) : Int) 0 ((m.f_Data.length : Nat) : Int) ) Try.func96 [] [(.tmp 76, (z5b58_0 m)), (.const (.int .i64 16), vI 16), (.tmp 79, (z5b58_7 m)), (.const (.int .i64 0), vI 0), (.tmp 82, (z5b58_7 m))] 0 0)),
             hP 20 (decide_eq_true hq9),
             hY 22 (decide_eq_true hq10),
             hY 23 (decide_eq_true hq10),
             hS 24 (oY rfl rfl rfl rfl (lt_of rfl) (decide_eq_true hq10) (r_bin (u1 := .int .i64 (shapeM m.f_Kind).f_has) (u2 := .int .i64 32) (v := .int .i64 (andI (shapeM m.f_Kind).f_has 32)) (b_andI rfl) (lt_of rfl) ⟨rfl, trivial⟩)),
             hY 25 (decide_eq_true hq10),
             hY 26 (decide_eq_true hq10),
             hY 27 (decide_eq_false hq11),
             hY 28 (decide_eq_false hq11),
             hY 29 (decide_eq_false hq11),
             hS 30 (oY rfl rfl rfl rfl (lt_of rfl) (decide_eq_false hq11) (r_eqSt (ax := .tv (.agg [dI m.f_Result.f_Code, dI m.f_Result.f_Stage])) (ay := .tv (.agg [dI 0, dI 0])) (a := m.f_Result) (b := (api_Result.mk 0 0)) seq_48 ⟨[.int .i64 m.f_Result.f_Code, .int .i64 m.f_Result.f_Stage], rfl, rfl⟩ ⟨[.int .i64 0, .int .i64 0], rfl, rfl⟩ (lt_of rfl) (by exact trivial))),
             hS 31 (oY rfl rfl rfl rfl (lt_of rfl) (decide_eq_true hq10) (r_pickF (b := (decide ((andI (shapeM m.f_Kind).f_has 32) ≠ 0))) (av := vB (decide (m.f_Result = (api_Result.mk 0 0)))) (lt_of rfl) trivial (decide_eq_false hq11))),
             hP 32 (decide_eq_true hq10)] ?_
           by_cases hq22 : m.f_Result = (api_Result.mk 0 0)
           ·by_cases hq23 : m.f_Kind ≠ 1
            ·refine sR [hY 2 (decide_eq_true hq22),
               hY 3 (decide_eq_true hq22),
               hY 4 (decide_eq_true hq22),
               hY 5 (decide_eq_true hq22),
               hN 6 false (decide_eq_true hq23),
               hN 7 false (decide_eq_true hq23),
               hN 8 false (decide_eq_true hq23),
               hN 9 false (decide_eq_true hq23),
               hS 10 (oY rfl rfl rfl rfl (lt_of rfl) (decide_eq_true hq22) (r_pickT (b := (decide (m.f_Kind ≠ 1))) (av := vB true) (lt_of rfl) ⟨rfl, trivial⟩ (decide_eq_true hq23))),
               hP 11 (decide_eq_true hq22)] ?_
             by_cases hq24 : m.f_Kind ≠ 10
             ·refine sR [hY 2 (b := true) (w := true) rfl,
                hY 3 (b := true) (w := true) rfl,
                hY 4 (b := true) (w := true) rfl,
                hY 5 (b := true) (w := true) rfl,
                hN 6 false (decide_eq_true hq24),
                hN 7 false (decide_eq_true hq24),
                hN 8 false (decide_eq_true hq24),
                hN 9 false (decide_eq_true hq24),
                hS 10 (oY (b := true) rfl rfl rfl rfl (lt_of rfl) rfl (r_pickT (b := (decide (m.f_Kind ≠ 10))) (av := vB true) (lt_of rfl) ⟨rfl, trivial⟩ (decide_eq_true hq24))),
                hP 11 (b := true) (w := true) rfl,
                hY 13 (b := true) (w := true) rfl,
                hY 14 (b := true) (w := true) rfl,
                hS 15 (oY (b := true) rfl rfl rfl rfl (lt_of rfl) rfl (rCa (has_Cert tm false tm m.f_Certs (by assumption)) Try.func97 [] [(.tmp 123, (z5b58_8 tm m)), (.func 98, z5b58_9)] 0 0)),
                hY 16 (b := true) (w := true) rfl,
                hP 17 (b := true) (w := true) rfl] ?_
              refine T.seq ?_
              refine sR [] ?_
              by_cases hq25 : ¬ fewV m.f_Certs
              ·refine cT (congrArg Bool.not (congrArg Bool.not (decide_eq_true hq25))) ?_
               refine sR [] ?_
               refine T.ret (rT ?_)
               exact eRt 2 (z5b58_a) [] (congrArg (fun (q1 : Int) => (vI q1 : AV)) (by exact if_neg (fun h9 => by exact absurd h9.2.2.2.2.2.2.2.2.2.2.2.2.2 (by assumption)))) trivial
              refine cF (congrArg Bool.not (congrArg Bool.not (decide_eq_false hq25))) ?_
              refine T.skip (nT ?_)
              refine sR [] ?_
              refine T.ret ?_
              exact eRt 2 (z5b58_b) [] (congrArg (fun (q1 : Int) => (vI q1 : AV)) (by exact if_pos ⟨(by assumption), (by assumption), (by assumption), (by assumption), (by assumption), (by assumption), (by assumption), (by assumption), (by assumption), (by assumption), (by exact .inr (by assumption)), (by exact .inl (by assumption)), (by exact .inl (by assumption)), (by exact Classical.not_not.1 (by assumption))⟩)) trivial
             by_cases hq26 : ((m.f_Certs.length : Nat) : Int) = 1
             ·refine sR [hY 2 (b := true) (w := true) rfl,
                hY 3 (b := true) (w := true) rfl,
                hY 4 (b := true) (w := true) rfl,
                hY 5 (b := true) (w := true) rfl,
                hY 6 (decide_eq_false hq24),
                hY 7 (decide_eq_false hq24),
                hY 8 (decide_eq_false hq24),
                hY 9 (decide_eq_false hq24),
                hS 10 (oY (b := true) rfl rfl rfl rfl (lt_of rfl) rfl (r_pickF (b := (decide (m.f_Kind ≠ 10))) (av := (z5b58_c m)) (lt_of rfl) trivial (decide_eq_false hq24))),
                hP 11 (b := true) (w := true) rfl,
                hY 13 (decide_eq_true hq26),
                hY 14 (decide_eq_true hq26),
                hS 15 (oY rfl rfl rfl rfl (lt_of rfl) (decide_eq_true hq26) (rCa (has_Cert tm false tm m.f_Certs (by assumption)) Try.func97 [] [(.tmp 123, (z5b58_8 tm m)), (.func 98, z5b58_9)] 0 0)),
                hY 16 (decide_eq_true hq26),
                hP 17 (decide_eq_true hq26)] ?_
              refine T.seq ?_
              refine sR [] ?_
              by_cases hq27 : ¬ fewV m.f_Certs
              ·refine cT (congrArg Bool.not (congrArg Bool.not (decide_eq_true hq27))) ?_
               refine sR [] ?_
               refine T.ret (rT ?_)
               exact eRt 2 (z5b58_a) [] (congrArg (fun (q1 : Int) => (vI q1 : AV)) (by exact if_neg (fun h9 => by exact absurd h9.2.2.2.2.2.2.2.2.2.2.2.2.2 (by assumption)))) trivial
              refine cF (congrArg Bool.not (congrArg Bool.not (decide_eq_false hq27))) ?_
              refine T.skip (nT ?_)
              refine sR [] ?_
              refine T.ret ?_
              exact eRt 2 (z5b58_b) [] (congrArg (fun (q1 : Int) => (vI q1 : AV)) (by exact if_pos ⟨(by assumption), (by assumption), (by assumption), (by assumption), (by assumption), (by assumption), (by assumption), (by assumption), (by assumption), (by assumption), (by exact .inr (by assumption)), (by exact .inl (by assumption)), (by exact .inr (by assumption)), (by exact Classical.not_not.1 (by assumption))⟩)) trivial
             refine sR [hY 2 (b := true) (w := true) rfl,
               hY 3 (b := true) (w := true) rfl,
               hY 4 (b := true) (w := true) rfl,
               hY 5 (b := true) (w := true) rfl,
               hY 6 (decide_eq_false hq24),
               hY 7 (decide_eq_false hq24),
               hY 8 (decide_eq_false hq24),
               hY 9 (decide_eq_false hq24),
               hS 10 (oY (b := true) rfl rfl rfl rfl (lt_of rfl) rfl (r_pickF (b := (decide (m.f_Kind ≠ 10))) (av := (z5b58_c m)) (lt_of rfl) trivial (decide_eq_false hq24))),
               hP 11 (b := true) (w := true) rfl,
               hN 13 true (decide_eq_false hq26),
               hN 14 true (decide_eq_false hq26),
               hN 15 true (decide_eq_false hq26),
               hN 16 true (decide_eq_false hq26),
               hP 17 (decide_eq_false hq26)] ?_
             refine T.seq ?_
             refine sR [] ?_
             refine cT (b := (!false)) rfl ?_
             refine sR [] ?_
             refine T.ret (rT ?_)
             exact eRt 2 (z5b58_a) [] (congrArg (fun (q1 : Int) => (vI q1 : AV)) (by exact if_neg (fun h9 => by (rcases h9.2.2.2.2.2.2.2.2.2.2.2.2.1 with h8 | h8 <;> exact absurd h8 (by assumption))))) trivial
            refine sR [hY 2 (decide_eq_true hq22),
              hY 3 (decide_eq_true hq22),
              hY 4 (decide_eq_true hq22),
              hY 5 (decide_eq_true hq22),
              hY 6 (decide_eq_false hq23),
              hY 7 (decide_eq_false hq23),
              hY 8 (decide_eq_false hq23),
              hY 9 (decide_eq_false hq23),
              hS 10 (oY rfl rfl rfl rfl (lt_of rfl) (decide_eq_true hq22) (r_pickF (b := (decide (m.f_Kind ≠ 1))) (av := vB (decide (((m.f_Data.length : Nat) : Int) ≤ 4096))) (lt_of rfl) trivial (decide_eq_false hq23))),
              hP 11 (decide_eq_true hq22)] ?_
            by_cases hq28 : ((m.f_Data.length : Nat) : Int) ≤ 4096
            ·by_cases hq29 : m.f_Kind ≠ 10
             ·refine sR [hY 2 (decide_eq_true hq28),
                hY 3 (decide_eq_true hq28),
                hY 4 (decide_eq_true hq28),
                hY 5 (decide_eq_true hq28),
                hN 6 false (decide_eq_true hq29),
                hN 7 false (decide_eq_true hq29),
                hN 8 false (decide_eq_true hq29),
                hN 9 false (decide_eq_true hq29),
                hS 10 (oY rfl rfl rfl rfl (lt_of rfl) (decide_eq_true hq28) (r_pickT (b := (decide (m.f_Kind ≠ 10))) (av := vB true) (lt_of rfl) ⟨rfl, trivial⟩ (decide_eq_true hq29))),
                hP 11 (decide_eq_true hq28),
                hY 13 (b := true) (w := true) rfl,
                hY 14 (b := true) (w := true) rfl,
                hS 15 (oY (b := true) rfl rfl rfl rfl (lt_of rfl) rfl (rCa (has_Cert tm false tm m.f_Certs (by assumption)) Try.func97 [] [(.tmp 123, (z5b58_8 tm m)), (.func 98, z5b58_9)] 0 0)),
                hY 16 (b := true) (w := true) rfl,
                hP 17 (b := true) (w := true) rfl] ?_
              refine T.seq ?_
              refine sR [] ?_
              by_cases hq30 : ¬ fewV m.f_Certs
              ·refine cT (congrArg Bool.not (congrArg Bool.not (decide_eq_true hq30))) ?_
               refine sR [] ?_
               refine T.ret (rT ?_)
               exact eRt 2 (z5b58_a) [] (congrArg (fun (q1 : Int) => (vI q1 : AV)) (by exact if_neg (fun h9 => by exact absurd h9.2.2.2.2.2.2.2.2.2.2.2.2.2 (by assumption)))) trivial
              refine cF (congrArg Bool.not (congrArg Bool.not (decide_eq_false hq30))) ?_
              refine T.skip (nT ?_)
              refine sR [] ?_
              refine T.ret ?_
              exact eRt 2 (z5b58_b) [] (congrArg (fun (q1 : Int) => (vI q1 : AV)) (by exact if_pos ⟨(by assumption), (by assumption), (by assumption), (by assumption), (by assumption), (by assumption), (by assumption), (by assumption), (by assumption), (by assumption), (by exact .inr (by assumption)), (by exact .inr (by assumption)), (by exact .inl (by assumption)), (by exact Classical.not_not.1 (by assumption))⟩)) trivial
             by_cases hq31 : ((m.f_Certs.length : Nat) : Int) = 1
             ·refine sR [hY 2 (decide_eq_true hq28),
                hY 3 (decide_eq_true hq28),
                hY 4 (decide_eq_true hq28),
                hY 5 (decide_eq_true hq28),
                hY 6 (decide_eq_false hq29),
                hY 7 (decide_eq_false hq29),
                hY 8 (decide_eq_false hq29),
                hY 9 (decide_eq_false hq29),
                hS 10 (oY rfl rfl rfl rfl (lt_of rfl) (decide_eq_true hq28) (r_pickF (b := (decide (m.f_Kind ≠ 10))) (av := (z5b58_c m)) (lt_of rfl) trivial (decide_eq_false hq29))),
                hP 11 (decide_eq_true hq28),
                hY 13 (decide_eq_true hq31),
                hY 14 (decide_eq_true hq31),
                hS 15 (oY rfl rfl rfl rfl (lt_of rfl) (decide_eq_true hq31) (rCa (has_Cert tm false tm m.f_Certs (by assumption)) Try.func97 [] [(.tmp 123, (z5b58_8 tm m)), (.func 98, z5b58_9)] 0 0)),
                hY 16 (decide_eq_true hq31),
                hP 17 (decide_eq_true hq31)] ?_
              refine T.seq ?_
              refine sR [] ?_
              by_cases hq32 : ¬ fewV m.f_Certs
              ·refine cT (congrArg Bool.not (congrArg Bool.not (decide_eq_true hq32))) ?_
               refine sR [] ?_
               refine T.ret (rT ?_)
               exact eRt 2 (z5b58_a) [] (congrArg (fun (q1 : Int) => (vI q1 : AV)) (by exact if_neg (fun h9 => by exact absurd h9.2.2.2.2.2.2.2.2.2.2.2.2.2 (by assumption)))) trivial
              refine cF (congrArg Bool.not (congrArg Bool.not (decide_eq_false hq32))) ?_
              refine T.skip (nT ?_)
              refine sR [] ?_
              refine T.ret ?_
              exact eRt 2 (z5b58_b) [] (congrArg (fun (q1 : Int) => (vI q1 : AV)) (by exact if_pos ⟨(by assumption), (by assumption), (by assumption), (by assumption), (by assumption), (by assumption), (by assumption), (by assumption), (by assumption), (by assumption), (by exact .inr (by assumption)), (by exact .inr (by assumption)), (by exact .inr (by assumption)), (by exact Classical.not_not.1 (by assumption))⟩)) trivial
             refine sR [hY 2 (decide_eq_true hq28),
               hY 3 (decide_eq_true hq28),
               hY 4 (decide_eq_true hq28),
               hY 5 (decide_eq_true hq28),
               hY 6 (decide_eq_false hq29),
               hY 7 (decide_eq_false hq29),
               hY 8 (decide_eq_false hq29),
               hY 9 (decide_eq_false hq29),
               hS 10 (oY rfl rfl rfl rfl (lt_of rfl) (decide_eq_true hq28) (r_pickF (b := (decide (m.f_Kind ≠ 10))) (av := (z5b58_c m)) (lt_of rfl) trivial (decide_eq_false hq29))),
               hP 11 (decide_eq_true hq28),
               hN 13 true (decide_eq_false hq31),
               hN 14 true (decide_eq_false hq31),
               hN 15 true (decide_eq_false hq31),
               hN 16 true (decide_eq_false hq31),
               hP 17 (decide_eq_false hq31)] ?_
             refine T.seq ?_
             refine sR [] ?_
             refine cT (b := (!false)) rfl ?_
             refine sR [] ?_
             refine T.ret (rT ?_)
             exact eRt 2 (z5b58_a) [] (congrArg (fun (q1 : Int) => (vI q1 : AV)) (by exact if_neg (fun h9 => by (rcases h9.2.2.2.2.2.2.2.2.2.2.2.2.1 with h8 | h8 <;> exact absurd h8 (by assumption))))) trivial
            refine sR [hN 2 true (decide_eq_false hq28),
              hN 3 true (decide_eq_false hq28),
              hN 4 true (decide_eq_false hq28),
              hN 5 true (decide_eq_false hq28),
              hU 6,
              hU 7,
              hU 8,
              hU 9,
              hN 10 true (decide_eq_false hq28),
              hP 11 (decide_eq_false hq28),
              hN 13 (b := false) true rfl,
              hN 14 (b := false) true rfl,
              hN 15 (b := false) true rfl,
              hN 16 (b := false) true rfl,
              hP 17 (b := false) (w := false) rfl] ?_
            refine T.seq ?_
            refine sR [] ?_
            refine cT (b := (!false)) rfl ?_
            refine sR [] ?_
            refine T.ret (rT ?_)
            exact eRt 2 (z5b58_a) [] (congrArg (fun (q1 : Int) => (vI q1 : AV)) (by exact if_neg (fun h9 => by (rcases h9.2.2.2.2.2.2.2.2.2.2.2.1 with h8 | h8 <;> exact absurd h8 (by assumption))))) trivial
           refine sR [hN 2 true (decide_eq_false hq22),
             hN 3 true (decide_eq_false hq22),
             hN 4 true (decide_eq_false hq22),
             hN 5 true (decide_eq_false hq22),
             hU 6,
             hU 7,
             hU 8,
             hU 9,
             hN 10 true (decide_eq_false hq22),
             hP 11 (decide_eq_false hq22)] ?_
           refine sR [hN 2 (b := false) true rfl,
             hN 3 (b := false) true rfl,
             hN 4 (b := false) true rfl,
             hN 5 (b := false) true rfl,
             hU 6,
             hU 7,
             hU 8,
             hU 9,
             hN 10 (b := false) true rfl,
             hP 11 (b := false) (w := false) rfl,
             hN 13 (b := false) true rfl,
             hN 14 (b := false) true rfl,
             hN 15 (b := false) true rfl,
             hN 16 (b := false) true rfl,
             hP 17 (b := false) (w := false) rfl] ?_
           refine T.seq ?_
           refine sR [] ?_
           refine cT (b := (!false)) rfl ?_
           refine sR [] ?_
           refine T.ret (rT ?_)
           exact eRt 2 (z5b58_a) [] (congrArg (fun (q1 : Int) => (vI q1 : AV)) (by exact if_neg (fun h9 => by (rcases h9.2.2.2.2.2.2.2.2.2.2.1 with h8 | h8 <;> exact absurd h8 (by assumption))))) trivial
          refine sR [hY 2 (decide_eq_true hq8),
            hY 3 (decide_eq_true hq8),
            hY 4 (decide_eq_true hq8),
            hY 5 (decide_eq_true hq8),
            hY 6 (decide_eq_true hq8),
            hY 7 (decide_eq_true hq8),
            hY 8 (decide_eq_true hq8),
            hS 9 (oY rfl rfl rfl rfl (lt_of rfl) (decide_eq_true hq8) (rCa (msg_in (shapeM m.f_Kind) 8 ((m.f_Digest.length : Nat) : Int) 0 ((m.f_Digest.length : Nat) : Int) ) Try.func96 [] [(.tmp 66, (z5b58_0 m)), (.const (.int .i64 8), vI 8), (.tmp 69, (z5b58_6 m)), (.const (.int .i64 0), vI 0), (.tmp 72, (z5b58_6 m))] 0 0)),
            hP 10 (decide_eq_true hq8),
            hY 12 (decide_eq_true hq9),
            hY 13 (decide_eq_true hq9),
            hY 14 (decide_eq_true hq9),
            hY 15 (decide_eq_true hq9),
            hY 16 (decide_eq_true hq9),
            hY 17 (decide_eq_true hq9),
            hY 18 (decide_eq_true hq9),
            hS 19 (oY rfl rfl rfl rfl (lt_of rfl) (decide_eq_true hq9) (rCa (msg_in (shapeM m.f_Kind) 16 ((m.f_Data.length : Nat) : Int) 0 ((m.f_Data.length : Nat) : Int) ) Try.func96 [] [(.tmp 76, (z5b58_0 m)), (.const (.int .i64 16), vI 16), (.tmp 79, (z5b58_7 m)), (.const (.int .i64 0), vI 0), (.tmp 82, (z5b58_7 m))] 0 0)),
            hP 20 (decide_eq_true hq9),
            hN 22 true (decide_eq_false hq10),
            hN 23 true (decide_eq_false hq10),
            hN 24 true (decide_eq_false hq10),
            hN 25 true (decide_eq_false hq10),
            hN 26 true (decide_eq_false hq10),
            hU 27,
            hU 28,
            hU 29,
            hU 30,
            hN 31 true (decide_eq_false hq10),
            hP 32 (decide_eq_false hq10)] ?_
          refine sR [hN 2 (b := false) true rfl,
            hN 3 (b := false) true rfl,
            hN 4 (b := false) true rfl,
            hN 5 (b := false) true rfl,
            hU 6,
            hU 7,
            hU 8,
            hU 9,
            hN 10 (b := false) true rfl,
            hP 11 (b := false) (w := false) rfl] ?_
          refine sR [hN 2 (b := false) true rfl,
            hN 3 (b := false) true rfl,
            hN 4 (b := false) true rfl,
            hN 5 (b := false) true rfl,
            hU 6,
            hU 7,
            hU 8,
            hU 9,
            hN 10 (b := false) true rfl,
            hP 11 (b := false) (w := false) rfl,
            hN 13 (b := false) true rfl,
            hN 14 (b := false) true rfl,
            hN 15 (b := false) true rfl,
            hN 16 (b := false) true rfl,
            hP 17 (b := false) (w := false) rfl] ?_
          refine T.seq ?_
          refine sR [] ?_
          refine cT (b := (!false)) rfl ?_
          refine sR [] ?_
          refine T.ret (rT ?_)
          exact eRt 2 (z5b58_a) [] (congrArg (fun (q1 : Int) => (vI q1 : AV)) (by exact if_neg (fun h9 => by exact absurd h9.2.2.2.2.2.2.2.2.2.1 (by assumption)))) trivial
         refine sR [hY 2 (decide_eq_true hq8),
           hY 3 (decide_eq_true hq8),
           hY 4 (decide_eq_true hq8),
           hY 5 (decide_eq_true hq8),
           hY 6 (decide_eq_true hq8),
           hY 7 (decide_eq_true hq8),
           hY 8 (decide_eq_true hq8),
           hS 9 (oY rfl rfl rfl rfl (lt_of rfl) (decide_eq_true hq8) (rCa (msg_in (shapeM m.f_Kind) 8 ((m.f_Digest.length : Nat) : Int) 0 ((m.f_Digest.length : Nat) : Int) ) Try.func96 [] [(.tmp 66, (z5b58_0 m)), (.const (.int .i64 8), vI 8), (.tmp 69, (z5b58_6 m)), (.const (.int .i64 0), vI 0), (.tmp 72, (z5b58_6 m))] 0 0)),
           hP 10 (decide_eq_true hq8),
           hN 12 true (decide_eq_false hq9),
           hN 13 true (decide_eq_false hq9),
           hN 14 true (decide_eq_false hq9),
           hN 15 true (decide_eq_false hq9),
           hN 16 true (decide_eq_false hq9),
           hN 17 true (decide_eq_false hq9),
           hN 18 true (decide_eq_false hq9),
           hN 19 true (decide_eq_false hq9),
           hP 20 (decide_eq_false hq9),
           hN 22 (b := false) true rfl,
           hN 23 (b := false) true rfl,
           hN 24 (b := false) true rfl,
           hN 25 (b := false) true rfl,
           hN 26 (b := false) true rfl,
           hU 27,
           hU 28,
           hU 29,
           hU 30,
           hN 31 (b := false) true rfl,
           hP 32 (b := false) (w := false) rfl] ?_
         refine sR [hN 2 (b := false) true rfl,
           hN 3 (b := false) true rfl,
           hN 4 (b := false) true rfl,
           hN 5 (b := false) true rfl,
           hU 6,
           hU 7,
           hU 8,
           hU 9,
           hN 10 (b := false) true rfl,
           hP 11 (b := false) (w := false) rfl] ?_
         refine sR [hN 2 (b := false) true rfl,
           hN 3 (b := false) true rfl,
           hN 4 (b := false) true rfl,
           hN 5 (b := false) true rfl,
           hU 6,
           hU 7,
           hU 8,
           hU 9,
           hN 10 (b := false) true rfl,
           hP 11 (b := false) (w := false) rfl,
           hN 13 (b := false) true rfl,
           hN 14 (b := false) true rfl,
           hN 15 (b := false) true rfl,
           hN 16 (b := false) true rfl,
           hP 17 (b := false) (w := false) rfl] ?_
         refine T.seq ?_
         refine sR [] ?_
         refine cT (b := (!false)) rfl ?_
         refine sR [] ?_
         refine T.ret (rT ?_)
         exact eRt 2 (z5b58_a) [] (congrArg (fun (q1 : Int) => (vI q1 : AV)) (by exact if_neg (fun h9 => by exact absurd h9.2.2.2.2.2.2.2.2.1 (by assumption)))) trivial
        refine sR [hN 2 true (decide_eq_false hq8),
          hN 3 true (decide_eq_false hq8),
          hN 4 true (decide_eq_false hq8),
          hN 5 true (decide_eq_false hq8),
          hN 6 true (decide_eq_false hq8),
          hN 7 true (decide_eq_false hq8),
          hN 8 true (decide_eq_false hq8),
          hN 9 true (decide_eq_false hq8),
          hP 10 (decide_eq_false hq8),
          hN 12 (b := false) true rfl,
          hN 13 (b := false) true rfl,
          hN 14 (b := false) true rfl,
          hN 15 (b := false) true rfl,
          hN 16 (b := false) true rfl,
          hN 17 (b := false) true rfl,
          hN 18 (b := false) true rfl,
          hN 19 (b := false) true rfl,
          hP 20 (b := false) (w := false) rfl,
          hN 22 (b := false) true rfl,
          hN 23 (b := false) true rfl,
          hN 24 (b := false) true rfl,
          hN 25 (b := false) true rfl,
          hN 26 (b := false) true rfl,
          hU 27,
          hU 28,
          hU 29,
          hU 30,
          hN 31 (b := false) true rfl,
          hP 32 (b := false) (w := false) rfl] ?_
        refine sR [hN 2 (b := false) true rfl,
          hN 3 (b := false) true rfl,
          hN 4 (b := false) true rfl,
          hN 5 (b := false) true rfl,
          hU 6,
          hU 7,
          hU 8,
          hU 9,
          hN 10 (b := false) true rfl,
          hP 11 (b := false) (w := false) rfl] ?_
        refine sR [hN 2 (b := false) true rfl,
          hN 3 (b := false) true rfl,
          hN 4 (b := false) true rfl,
          hN 5 (b := false) true rfl,
          hU 6,
          hU 7,
          hU 8,
          hU 9,
          hN 10 (b := false) true rfl,
          hP 11 (b := false) (w := false) rfl,
          hN 13 (b := false) true rfl,
          hN 14 (b := false) true rfl,
          hN 15 (b := false) true rfl,
          hN 16 (b := false) true rfl,
          hP 17 (b := false) (w := false) rfl] ?_
        refine T.seq ?_
        refine sR [] ?_
        refine cT (b := (!false)) rfl ?_
        refine sR [] ?_
        refine T.ret (rT ?_)
        exact eRt 2 (z5b58_a) [] (congrArg (fun (q1 : Int) => (vI q1 : AV)) (by exact if_neg (fun h9 => by exact absurd h9.2.2.2.2.2.2.2.1 (by assumption)))) trivial
       refine sR [hY 2 (decide_eq_true hq5),
         hY 3 (decide_eq_true hq5),
         hY 4 (decide_eq_true hq5),
         hY 5 (decide_eq_true hq5),
         hY 6 (decide_eq_true hq5),
         hY 7 (decide_eq_true hq5),
         hS 8 (oY rfl rfl rfl rfl (lt_of rfl) (decide_eq_true hq5) (rCa (msg_in (shapeM m.f_Kind) 64 ((m.f_Batch.length : Nat) : Int) 0 (shapeM m.f_Kind).f_batch ) Try.func96 [] [(.tmp 42, (z5b58_0 m)), (.const (.int .i64 64), vI 64), (.tmp 45, (z5b58_4 m)), (.const (.int .i64 0), vI 0), (.tmp 47, (z5b58_5 m))] 0 0)),
         hP 9 (decide_eq_true hq5),
         hY 11 (decide_eq_true hq6),
         hY 12 (decide_eq_true hq6),
         hY 13 (decide_eq_true hq6),
         hY 14 (decide_eq_true hq6),
         hS 15 (oY rfl rfl rfl rfl (lt_of rfl) (decide_eq_true hq6) (rCa (msg_in (shapeM m.f_Kind) 128 ((m.f_Pres.length : Nat) : Int) 0 8 ) Try.func96 [] [(.tmp 51, (z5b58_0 m)), (.const (.int .i64 128), vI 128), (.tmp 54, vI ((m.f_Pres.length : Nat) : Int)), (.const (.int .i64 0), vI 0), (.const (.int .i64 8), vI 8)] 0 0)),
         hP 16 (decide_eq_true hq6),
         hN 18 true (decide_eq_false hq7),
         hN 19 true (decide_eq_false hq7),
         hN 20 true (decide_eq_false hq7),
         hN 21 true (decide_eq_false hq7),
         hN 22 true (decide_eq_false hq7),
         hP 23 (decide_eq_false hq7)] ?_
       refine sR [hN 2 (b := false) true rfl,
         hN 3 (b := false) true rfl,
         hN 4 (b := false) true rfl,
         hN 5 (b := false) true rfl,
         hN 6 (b := false) true rfl,
         hN 7 (b := false) true rfl,
         hN 8 (b := false) true rfl,
         hN 9 (b := false) true rfl,
         hP 10 (b := false) (w := false) rfl,
         hN 12 (b := false) true rfl,
         hN 13 (b := false) true rfl,
         hN 14 (b := false) true rfl,
         hN 15 (b := false) true rfl,
         hN 16 (b := false) true rfl,
         hN 17 (b := false) true rfl,
         hN 18 (b := false) true rfl,
         hN 19 (b := false) true rfl,
         hP 20 (b := false) (w := false) rfl,
         hN 22 (b := false) true rfl,
         hN 23 (b := false) true rfl,
         hN 24 (b := false) true rfl,
         hN 25 (b := false) true rfl,
         hN 26 (b := false) true rfl,
         hU 27,
         hU 28,
         hU 29,
         hU 30,
         hN 31 (b := false) true rfl,
         hP 32 (b := false) (w := false) rfl] ?_
       refine sR [hN 2 (b := false) true rfl,
         hN 3 (b := false) true rfl,
         hN 4 (b := false) true rfl,
         hN 5 (b := false) true rfl,
         hU 6,
         hU 7,
         hU 8,
         hU 9,
         hN 10 (b := false) true rfl,
         hP 11 (b := false) (w := false) rfl] ?_
       refine sR [hN 2 (b := false) true rfl,
         hN 3 (b := false) true rfl,
         hN 4 (b := false) true rfl,
         hN 5 (b := false) true rfl,
         hU 6,
         hU 7,
         hU 8,
         hU 9,
         hN 10 (b := false) true rfl,
         hP 11 (b := false) (w := false) rfl,
         hN 13 (b := false) true rfl,
         hN 14 (b := false) true rfl,
         hN 15 (b := false) true rfl,
         hN 16 (b := false) true rfl,
         hP 17 (b := false) (w := false) rfl] ?_
       refine T.seq ?_
       refine sR [] ?_
       refine cT (b := (!false)) rfl ?_
       refine sR [] ?_
       refine T.ret (rT ?_)
       exact eRt 2 (z5b58_a) [] (congrArg (fun (q1 : Int) => (vI q1 : AV)) (by exact if_neg (fun h9 => by exact absurd h9.2.2.2.2.2.2.1 (by assumption)))) trivial
      refine sR [hY 2 (decide_eq_true hq5),
        hY 3 (decide_eq_true hq5),
        hY 4 (decide_eq_true hq5),
        hY 5 (decide_eq_true hq5),
        hY 6 (decide_eq_true hq5),
        hY 7 (decide_eq_true hq5),
        hS 8 (oY rfl rfl rfl rfl (lt_of rfl) (decide_eq_true hq5) (rCa (msg_in (shapeM m.f_Kind) 64 ((m.f_Batch.length : Nat) : Int) 0 (shapeM m.f_Kind).f_batch ) Try.func96 [] [(.tmp 42, (z5b58_0 m)), (.const (.int .i64 64), vI 64), (.tmp 45, (z5b58_4 m)), (.const (.int .i64 0), vI 0), (.tmp 47, (z5b58_5 m))] 0 0)),
        hP 9 (decide_eq_true hq5),
        hN 11 true (decide_eq_false hq6),
        hN 12 true (decide_eq_false hq6),
        hN 13 true (decide_eq_false hq6),
        hN 14 true (decide_eq_false hq6),
        hN 15 true (decide_eq_false hq6),
        hP 16 (decide_eq_false hq6),
        hN 18 (b := false) true rfl,
        hN 19 (b := false) true rfl,
        hN 20 (b := false) true rfl,
        hN 21 (b := false) true rfl,
        hN 22 (b := false) true rfl,
        hP 23 (b := false) (w := false) rfl] ?_
      refine sR [hN 2 (b := false) true rfl,
        hN 3 (b := false) true rfl,
        hN 4 (b := false) true rfl,
        hN 5 (b := false) true rfl,
        hN 6 (b := false) true rfl,
        hN 7 (b := false) true rfl,
        hN 8 (b := false) true rfl,
        hN 9 (b := false) true rfl,
        hP 10 (b := false) (w := false) rfl,
        hN 12 (b := false) true rfl,
        hN 13 (b := false) true rfl,
        hN 14 (b := false) true rfl,
        hN 15 (b := false) true rfl,
        hN 16 (b := false) true rfl,
        hN 17 (b := false) true rfl,
        hN 18 (b := false) true rfl,
        hN 19 (b := false) true rfl,
        hP 20 (b := false) (w := false) rfl,
        hN 22 (b := false) true rfl,
        hN 23 (b := false) true rfl,
        hN 24 (b := false) true rfl,
        hN 25 (b := false) true rfl,
        hN 26 (b := false) true rfl,
        hU 27,
        hU 28,
        hU 29,
        hU 30,
        hN 31 (b := false) true rfl,
        hP 32 (b := false) (w := false) rfl] ?_
      refine sR [hN 2 (b := false) true rfl,
        hN 3 (b := false) true rfl,
        hN 4 (b := false) true rfl,
        hN 5 (b := false) true rfl,
        hU 6,
        hU 7,
        hU 8,
        hU 9,
        hN 10 (b := false) true rfl,
        hP 11 (b := false) (w := false) rfl] ?_
      refine sR [hN 2 (b := false) true rfl,
        hN 3 (b := false) true rfl,
        hN 4 (b := false) true rfl,
        hN 5 (b := false) true rfl,
        hU 6,
        hU 7,
        hU 8,
        hU 9,
        hN 10 (b := false) true rfl,
        hP 11 (b := false) (w := false) rfl,
        hN 13 (b := false) true rfl,
        hN 14 (b := false) true rfl,
        hN 15 (b := false) true rfl,
        hN 16 (b := false) true rfl,
        hP 17 (b := false) (w := false) rfl] ?_
      refine T.seq ?_
      refine sR [] ?_
      refine cT (b := (!false)) rfl ?_
      refine sR [] ?_
      refine T.ret (rT ?_)
      exact eRt 2 (z5b58_a) [] (congrArg (fun (q1 : Int) => (vI q1 : AV)) (by exact if_neg (fun h9 => by exact absurd h9.2.2.2.2.2.1 (by assumption)))) trivial
     refine sR [hN 2 true (decide_eq_false hq5),
       hN 3 true (decide_eq_false hq5),
       hN 4 true (decide_eq_false hq5),
       hN 5 true (decide_eq_false hq5),
       hN 6 true (decide_eq_false hq5),
       hN 7 true (decide_eq_false hq5),
       hN 8 true (decide_eq_false hq5),
       hP 9 (decide_eq_false hq5),
       hN 11 (b := false) true rfl,
       hN 12 (b := false) true rfl,
       hN 13 (b := false) true rfl,
       hN 14 (b := false) true rfl,
       hN 15 (b := false) true rfl,
       hP 16 (b := false) (w := false) rfl,
       hN 18 (b := false) true rfl,
       hN 19 (b := false) true rfl,
       hN 20 (b := false) true rfl,
       hN 21 (b := false) true rfl,
       hN 22 (b := false) true rfl,
       hP 23 (b := false) (w := false) rfl] ?_
     refine sR [hN 2 (b := false) true rfl,
       hN 3 (b := false) true rfl,
       hN 4 (b := false) true rfl,
       hN 5 (b := false) true rfl,
       hN 6 (b := false) true rfl,
       hN 7 (b := false) true rfl,
       hN 8 (b := false) true rfl,
       hN 9 (b := false) true rfl,
       hP 10 (b := false) (w := false) rfl,
       hN 12 (b := false) true rfl,
       hN 13 (b := false) true rfl,
       hN 14 (b := false) true rfl,
       hN 15 (b := false) true rfl,
       hN 16 (b := false) true rfl,
       hN 17 (b := false) true rfl,
       hN 18 (b := false) true rfl,
       hN 19 (b := false) true rfl,
       hP 20 (b := false) (w := false) rfl,
       hN 22 (b := false) true rfl,
       hN 23 (b := false) true rfl,
       hN 24 (b := false) true rfl,
       hN 25 (b := false) true rfl,
       hN 26 (b := false) true rfl,
       hU 27,
       hU 28,
       hU 29,
       hU 30,
       hN 31 (b := false) true rfl,
       hP 32 (b := false) (w := false) rfl] ?_
     refine sR [hN 2 (b := false) true rfl,
       hN 3 (b := false) true rfl,
       hN 4 (b := false) true rfl,
       hN 5 (b := false) true rfl,
       hU 6,
       hU 7,
       hU 8,
       hU 9,
       hN 10 (b := false) true rfl,
       hP 11 (b := false) (w := false) rfl] ?_
     refine sR [hN 2 (b := false) true rfl,
       hN 3 (b := false) true rfl,
       hN 4 (b := false) true rfl,
       hN 5 (b := false) true rfl,
       hU 6,
       hU 7,
       hU 8,
       hU 9,
       hN 10 (b := false) true rfl,
       hP 11 (b := false) (w := false) rfl,
       hN 13 (b := false) true rfl,
       hN 14 (b := false) true rfl,
       hN 15 (b := false) true rfl,
       hN 16 (b := false) true rfl,
       hP 17 (b := false) (w := false) rfl] ?_
     refine T.seq ?_
     refine sR [] ?_
     refine cT (b := (!false)) rfl ?_
     refine sR [] ?_
     refine T.ret (rT ?_)
     exact eRt 2 (z5b58_a) [] (congrArg (fun (q1 : Int) => (vI q1 : AV)) (by exact if_neg (fun h9 => by exact absurd h9.2.2.2.2.1 (by assumption)))) trivial
    refine sR [hY 2 (decide_eq_true hq1),
      hY 3 (decide_eq_true hq1),
      hY 4 (decide_eq_true hq1),
      hY 5 (decide_eq_true hq1),
      hY 6 (decide_eq_true hq1),
      hS 7 (oY rfl rfl rfl rfl (lt_of rfl) (decide_eq_true hq1) (rCa (msg_in (shapeM m.f_Kind) 1 m.f_View (shapeM m.f_Kind).f_minView 1099511627776 ) Try.func96 [] [(.tmp 13, (z5b58_0 m)), (.const (.int .i64 1), vI 1), (.tmp 15, vI m.f_View), (.tmp 17, (z5b58_1 m)), (.const (.int .i64 1099511627776), z5b58_2)] 0 0)),
      hP 8 (decide_eq_true hq1),
      hY 10 (decide_eq_true hq2),
      hY 11 (decide_eq_true hq2),
      hY 12 (decide_eq_true hq2),
      hY 13 (decide_eq_true hq2),
      hY 14 (decide_eq_true hq2),
      hS 15 (oY rfl rfl rfl rfl (lt_of rfl) (decide_eq_true hq2) (rCa (msg_in (shapeM m.f_Kind) 2 m.f_Seq (shapeM m.f_Kind).f_minSeq 1099511627776 ) Try.func96 [] [(.tmp 21, (z5b58_0 m)), (.const (.int .i64 2), vI 2), (.tmp 23, vI m.f_Seq), (.tmp 25, (z5b58_3 m)), (.const (.int .i64 1099511627776), z5b58_2)] 0 0)),
      hP 16 (decide_eq_true hq2),
      hY 18 (decide_eq_true hq3),
      hY 19 (decide_eq_true hq3),
      hY 20 (decide_eq_true hq3),
      hS 21 (oY rfl rfl rfl rfl (lt_of rfl) (decide_eq_true hq3) (rCa (msg_in (shapeM m.f_Kind) 4 m.f_Client 0 1099511627776 ) Try.func96 [] [(.tmp 29, (z5b58_0 m)), (.const (.int .i64 4), vI 4), (.tmp 31, vI m.f_Client), (.const (.int .i64 0), vI 0), (.const (.int .i64 1099511627776), z5b58_2)] 0 0)),
      hP 22 (decide_eq_true hq3),
      hN 24 true (decide_eq_false hq4),
      hN 25 true (decide_eq_false hq4),
      hN 26 true (decide_eq_false hq4),
      hN 27 true (decide_eq_false hq4),
      hP 28 (decide_eq_false hq4)] ?_
    refine sR [hN 2 (b := false) true rfl,
      hN 3 (b := false) true rfl,
      hN 4 (b := false) true rfl,
      hN 5 (b := false) true rfl,
      hN 6 (b := false) true rfl,
      hN 7 (b := false) true rfl,
      hN 8 (b := false) true rfl,
      hP 9 (b := false) (w := false) rfl,
      hN 11 (b := false) true rfl,
      hN 12 (b := false) true rfl,
      hN 13 (b := false) true rfl,
      hN 14 (b := false) true rfl,
      hN 15 (b := false) true rfl,
      hP 16 (b := false) (w := false) rfl,
      hN 18 (b := false) true rfl,
      hN 19 (b := false) true rfl,
      hN 20 (b := false) true rfl,
      hN 21 (b := false) true rfl,
      hN 22 (b := false) true rfl,
      hP 23 (b := false) (w := false) rfl] ?_
    refine sR [hN 2 (b := false) true rfl,
      hN 3 (b := false) true rfl,
      hN 4 (b := false) true rfl,
      hN 5 (b := false) true rfl,
      hN 6 (b := false) true rfl,
      hN 7 (b := false) true rfl,
      hN 8 (b := false) true rfl,
      hN 9 (b := false) true rfl,
      hP 10 (b := false) (w := false) rfl,
      hN 12 (b := false) true rfl,
      hN 13 (b := false) true rfl,
      hN 14 (b := false) true rfl,
      hN 15 (b := false) true rfl,
      hN 16 (b := false) true rfl,
      hN 17 (b := false) true rfl,
      hN 18 (b := false) true rfl,
      hN 19 (b := false) true rfl,
      hP 20 (b := false) (w := false) rfl,
      hN 22 (b := false) true rfl,
      hN 23 (b := false) true rfl,
      hN 24 (b := false) true rfl,
      hN 25 (b := false) true rfl,
      hN 26 (b := false) true rfl,
      hU 27,
      hU 28,
      hU 29,
      hU 30,
      hN 31 (b := false) true rfl,
      hP 32 (b := false) (w := false) rfl] ?_
    refine sR [hN 2 (b := false) true rfl,
      hN 3 (b := false) true rfl,
      hN 4 (b := false) true rfl,
      hN 5 (b := false) true rfl,
      hU 6,
      hU 7,
      hU 8,
      hU 9,
      hN 10 (b := false) true rfl,
      hP 11 (b := false) (w := false) rfl] ?_
    refine sR [hN 2 (b := false) true rfl,
      hN 3 (b := false) true rfl,
      hN 4 (b := false) true rfl,
      hN 5 (b := false) true rfl,
      hU 6,
      hU 7,
      hU 8,
      hU 9,
      hN 10 (b := false) true rfl,
      hP 11 (b := false) (w := false) rfl,
      hN 13 (b := false) true rfl,
      hN 14 (b := false) true rfl,
      hN 15 (b := false) true rfl,
      hN 16 (b := false) true rfl,
      hP 17 (b := false) (w := false) rfl] ?_
    refine T.seq ?_
    refine sR [] ?_
    refine cT (b := (!false)) rfl ?_
    refine sR [] ?_
    refine T.ret (rT ?_)
    exact eRt 2 (z5b58_a) [] (congrArg (fun (q1 : Int) => (vI q1 : AV)) (by exact if_neg (fun h9 => by exact absurd h9.2.2.2.1 (by assumption)))) trivial
   refine sR [hY 2 (decide_eq_true hq1),
     hY 3 (decide_eq_true hq1),
     hY 4 (decide_eq_true hq1),
     hY 5 (decide_eq_true hq1),
     hY 6 (decide_eq_true hq1),
     hS 7 (oY rfl rfl rfl rfl (lt_of rfl) (decide_eq_true hq1) (rCa (msg_in (shapeM m.f_Kind) 1 m.f_View (shapeM m.f_Kind).f_minView 1099511627776 ) Try.func96 [] [(.tmp 13, (z5b58_0 m)), (.const (.int .i64 1), vI 1), (.tmp 15, vI m.f_View), (.tmp 17, (z5b58_1 m)), (.const (.int .i64 1099511627776), z5b58_2)] 0 0)),
     hP 8 (decide_eq_true hq1),
     hY 10 (decide_eq_true hq2),
     hY 11 (decide_eq_true hq2),
     hY 12 (decide_eq_true hq2),
     hY 13 (decide_eq_true hq2),
     hY 14 (decide_eq_true hq2),
     hS 15 (oY rfl rfl rfl rfl (lt_of rfl) (decide_eq_true hq2) (rCa (msg_in (shapeM m.f_Kind) 2 m.f_Seq (shapeM m.f_Kind).f_minSeq 1099511627776 ) Try.func96 [] [(.tmp 21, (z5b58_0 m)), (.const (.int .i64 2), vI 2), (.tmp 23, vI m.f_Seq), (.tmp 25, (z5b58_3 m)), (.const (.int .i64 1099511627776), z5b58_2)] 0 0)),
     hP 16 (decide_eq_true hq2),
     hN 18 true (decide_eq_false hq3),
     hN 19 true (decide_eq_false hq3),
     hN 20 true (decide_eq_false hq3),
     hN 21 true (decide_eq_false hq3),
     hP 22 (decide_eq_false hq3),
     hN 24 (b := false) true rfl,
     hN 25 (b := false) true rfl,
     hN 26 (b := false) true rfl,
     hN 27 (b := false) true rfl,
     hP 28 (b := false) (w := false) rfl] ?_
   refine sR [hN 2 (b := false) true rfl,
     hN 3 (b := false) true rfl,
     hN 4 (b := false) true rfl,
     hN 5 (b := false) true rfl,
     hN 6 (b := false) true rfl,
     hN 7 (b := false) true rfl,
     hN 8 (b := false) true rfl,
     hP 9 (b := false) (w := false) rfl,
     hN 11 (b := false) true rfl,
     hN 12 (b := false) true rfl,
     hN 13 (b := false) true rfl,
     hN 14 (b := false) true rfl,
     hN 15 (b := false) true rfl,
     hP 16 (b := false) (w := false) rfl,
     hN 18 (b := false) true rfl,
     hN 19 (b := false) true rfl,
     hN 20 (b := false) true rfl,
     hN 21 (b := false) true rfl,
     hN 22 (b := false) true rfl,
     hP 23 (b := false) (w := false) rfl] ?_
   refine sR [hN 2 (b := false) true rfl,
     hN 3 (b := false) true rfl,
     hN 4 (b := false) true rfl,
     hN 5 (b := false) true rfl,
     hN 6 (b := false) true rfl,
     hN 7 (b := false) true rfl,
     hN 8 (b := false) true rfl,
     hN 9 (b := false) true rfl,
     hP 10 (b := false) (w := false) rfl,
     hN 12 (b := false) true rfl,
     hN 13 (b := false) true rfl,
     hN 14 (b := false) true rfl,
     hN 15 (b := false) true rfl,
     hN 16 (b := false) true rfl,
     hN 17 (b := false) true rfl,
     hN 18 (b := false) true rfl,
     hN 19 (b := false) true rfl,
     hP 20 (b := false) (w := false) rfl,
     hN 22 (b := false) true rfl,
     hN 23 (b := false) true rfl,
     hN 24 (b := false) true rfl,
     hN 25 (b := false) true rfl,
     hN 26 (b := false) true rfl,
     hU 27,
     hU 28,
     hU 29,
     hU 30,
     hN 31 (b := false) true rfl,
     hP 32 (b := false) (w := false) rfl] ?_
   refine sR [hN 2 (b := false) true rfl,
     hN 3 (b := false) true rfl,
     hN 4 (b := false) true rfl,
     hN 5 (b := false) true rfl,
     hU 6,
     hU 7,
     hU 8,
     hU 9,
     hN 10 (b := false) true rfl,
     hP 11 (b := false) (w := false) rfl] ?_
   refine sR [hN 2 (b := false) true rfl,
     hN 3 (b := false) true rfl,
     hN 4 (b := false) true rfl,
     hN 5 (b := false) true rfl,
     hU 6,
     hU 7,
     hU 8,
     hU 9,
     hN 10 (b := false) true rfl,
     hP 11 (b := false) (w := false) rfl,
     hN 13 (b := false) true rfl,
     hN 14 (b := false) true rfl,
     hN 15 (b := false) true rfl,
     hN 16 (b := false) true rfl,
     hP 17 (b := false) (w := false) rfl] ?_
   refine T.seq ?_
   refine sR [] ?_
   refine cT (b := (!false)) rfl ?_
   refine sR [] ?_
   refine T.ret (rT ?_)
   exact eRt 2 (z5b58_a) [] (congrArg (fun (q1 : Int) => (vI q1 : AV)) (by exact if_neg (fun h9 => by exact absurd h9.2.2.1 (by assumption)))) trivial
  refine sR [hY 2 (decide_eq_true hq1),
    hY 3 (decide_eq_true hq1),
    hY 4 (decide_eq_true hq1),
    hY 5 (decide_eq_true hq1),
    hY 6 (decide_eq_true hq1),
    hS 7 (oY rfl rfl rfl rfl (lt_of rfl) (decide_eq_true hq1) (rCa (msg_in (shapeM m.f_Kind) 1 m.f_View (shapeM m.f_Kind).f_minView 1099511627776 ) Try.func96 [] [(.tmp 13, (z5b58_0 m)), (.const (.int .i64 1), vI 1), (.tmp 15, vI m.f_View), (.tmp 17, (z5b58_1 m)), (.const (.int .i64 1099511627776), z5b58_2)] 0 0)),
    hP 8 (decide_eq_true hq1),
    hN 10 true (decide_eq_false hq2),
    hN 11 true (decide_eq_false hq2),
    hN 12 true (decide_eq_false hq2),
    hN 13 true (decide_eq_false hq2),
    hN 14 true (decide_eq_false hq2),
    hN 15 true (decide_eq_false hq2),
    hP 16 (decide_eq_false hq2),
    hN 18 (b := false) true rfl,
    hN 19 (b := false) true rfl,
    hN 20 (b := false) true rfl,
    hN 21 (b := false) true rfl,
    hP 22 (b := false) (w := false) rfl,
    hN 24 (b := false) true rfl,
    hN 25 (b := false) true rfl,
    hN 26 (b := false) true rfl,
    hN 27 (b := false) true rfl,
    hP 28 (b := false) (w := false) rfl] ?_
  refine sR [hN 2 (b := false) true rfl,
    hN 3 (b := false) true rfl,
    hN 4 (b := false) true rfl,
    hN 5 (b := false) true rfl,
    hN 6 (b := false) true rfl,
    hN 7 (b := false) true rfl,
    hN 8 (b := false) true rfl,
    hP 9 (b := false) (w := false) rfl,
    hN 11 (b := false) true rfl,
    hN 12 (b := false) true rfl,
    hN 13 (b := false) true rfl,
    hN 14 (b := false) true rfl,
    hN 15 (b := false) true rfl,
    hP 16 (b := false) (w := false) rfl,
    hN 18 (b := false) true rfl,
    hN 19 (b := false) true rfl,
    hN 20 (b := false) true rfl,
    hN 21 (b := false) true rfl,
    hN 22 (b := false) true rfl,
    hP 23 (b := false) (w := false) rfl] ?_
  refine sR [hN 2 (b := false) true rfl,
    hN 3 (b := false) true rfl,
    hN 4 (b := false) true rfl,
    hN 5 (b := false) true rfl,
    hN 6 (b := false) true rfl,
    hN 7 (b := false) true rfl,
    hN 8 (b := false) true rfl,
    hN 9 (b := false) true rfl,
    hP 10 (b := false) (w := false) rfl,
    hN 12 (b := false) true rfl,
    hN 13 (b := false) true rfl,
    hN 14 (b := false) true rfl,
    hN 15 (b := false) true rfl,
    hN 16 (b := false) true rfl,
    hN 17 (b := false) true rfl,
    hN 18 (b := false) true rfl,
    hN 19 (b := false) true rfl,
    hP 20 (b := false) (w := false) rfl,
    hN 22 (b := false) true rfl,
    hN 23 (b := false) true rfl,
    hN 24 (b := false) true rfl,
    hN 25 (b := false) true rfl,
    hN 26 (b := false) true rfl,
    hU 27,
    hU 28,
    hU 29,
    hU 30,
    hN 31 (b := false) true rfl,
    hP 32 (b := false) (w := false) rfl] ?_
  refine sR [hN 2 (b := false) true rfl,
    hN 3 (b := false) true rfl,
    hN 4 (b := false) true rfl,
    hN 5 (b := false) true rfl,
    hU 6,
    hU 7,
    hU 8,
    hU 9,
    hN 10 (b := false) true rfl,
    hP 11 (b := false) (w := false) rfl] ?_
  refine sR [hN 2 (b := false) true rfl,
    hN 3 (b := false) true rfl,
    hN 4 (b := false) true rfl,
    hN 5 (b := false) true rfl,
    hU 6,
    hU 7,
    hU 8,
    hU 9,
    hN 10 (b := false) true rfl,
    hP 11 (b := false) (w := false) rfl,
    hN 13 (b := false) true rfl,
    hN 14 (b := false) true rfl,
    hN 15 (b := false) true rfl,
    hN 16 (b := false) true rfl,
    hP 17 (b := false) (w := false) rfl] ?_
  refine T.seq ?_
  refine sR [] ?_
  refine cT (b := (!false)) rfl ?_
  refine sR [] ?_
  refine T.ret (rT ?_)
  exact eRt 2 (z5b58_a) [] (congrArg (fun (q1 : Int) => (vI q1 : AV)) (by exact if_neg (fun h9 => by exact absurd h9.2.1 (by assumption)))) trivial
 refine sR [hN 2 true (decide_eq_false hq1),
   hN 3 true (decide_eq_false hq1),
   hN 4 true (decide_eq_false hq1),
   hN 5 true (decide_eq_false hq1),
   hN 6 true (decide_eq_false hq1),
   hN 7 true (decide_eq_false hq1),
   hP 8 (decide_eq_false hq1),
   hN 10 (b := false) true rfl,
   hN 11 (b := false) true rfl,
   hN 12 (b := false) true rfl,
   hN 13 (b := false) true rfl,
   hN 14 (b := false) true rfl,
   hN 15 (b := false) true rfl,
   hP 16 (b := false) (w := false) rfl,
   hN 18 (b := false) true rfl,
   hN 19 (b := false) true rfl,
   hN 20 (b := false) true rfl,
   hN 21 (b := false) true rfl,
   hP 22 (b := false) (w := false) rfl,
   hN 24 (b := false) true rfl,
   hN 25 (b := false) true rfl,
   hN 26 (b := false) true rfl,
   hN 27 (b := false) true rfl,
   hP 28 (b := false) (w := false) rfl] ?_
 refine sR [hN 2 (b := false) true rfl,
   hN 3 (b := false) true rfl,
   hN 4 (b := false) true rfl,
   hN 5 (b := false) true rfl,
   hN 6 (b := false) true rfl,
   hN 7 (b := false) true rfl,
   hN 8 (b := false) true rfl,
   hP 9 (b := false) (w := false) rfl,
   hN 11 (b := false) true rfl,
   hN 12 (b := false) true rfl,
   hN 13 (b := false) true rfl,
   hN 14 (b := false) true rfl,
   hN 15 (b := false) true rfl,
   hP 16 (b := false) (w := false) rfl,
   hN 18 (b := false) true rfl,
   hN 19 (b := false) true rfl,
   hN 20 (b := false) true rfl,
   hN 21 (b := false) true rfl,
   hN 22 (b := false) true rfl,
   hP 23 (b := false) (w := false) rfl] ?_
 refine sR [hN 2 (b := false) true rfl,
   hN 3 (b := false) true rfl,
   hN 4 (b := false) true rfl,
   hN 5 (b := false) true rfl,
   hN 6 (b := false) true rfl,
   hN 7 (b := false) true rfl,
   hN 8 (b := false) true rfl,
   hN 9 (b := false) true rfl,
   hP 10 (b := false) (w := false) rfl,
   hN 12 (b := false) true rfl,
   hN 13 (b := false) true rfl,
   hN 14 (b := false) true rfl,
   hN 15 (b := false) true rfl,
   hN 16 (b := false) true rfl,
   hN 17 (b := false) true rfl,
   hN 18 (b := false) true rfl,
   hN 19 (b := false) true rfl,
   hP 20 (b := false) (w := false) rfl,
   hN 22 (b := false) true rfl,
   hN 23 (b := false) true rfl,
   hN 24 (b := false) true rfl,
   hN 25 (b := false) true rfl,
   hN 26 (b := false) true rfl,
   hU 27,
   hU 28,
   hU 29,
   hU 30,
   hN 31 (b := false) true rfl,
   hP 32 (b := false) (w := false) rfl] ?_
 refine sR [hN 2 (b := false) true rfl,
   hN 3 (b := false) true rfl,
   hN 4 (b := false) true rfl,
   hN 5 (b := false) true rfl,
   hU 6,
   hU 7,
   hU 8,
   hU 9,
   hN 10 (b := false) true rfl,
   hP 11 (b := false) (w := false) rfl] ?_
 refine sR [hN 2 (b := false) true rfl,
   hN 3 (b := false) true rfl,
   hN 4 (b := false) true rfl,
   hN 5 (b := false) true rfl,
   hU 6,
   hU 7,
   hU 8,
   hU 9,
   hN 10 (b := false) true rfl,
   hP 11 (b := false) (w := false) rfl,
   hN 13 (b := false) true rfl,
   hN 14 (b := false) true rfl,
   hN 15 (b := false) true rfl,
   hN 16 (b := false) true rfl,
   hP 17 (b := false) (w := false) rfl] ?_
 refine T.seq ?_
 refine sR [] ?_
 refine cT (b := (!false)) rfl ?_
 refine sR [] ?_
 refine T.ret (rT ?_)
 exact eRt 2 (z5b58_a) [] (congrArg (fun (q1 : Int) => (vI q1 : AV)) (by exact if_neg (fun h9 => by exact absurd h9.1 (by assumption)))) trivial
end Go.Proofs.Ytalapplihdmenaa.Q
