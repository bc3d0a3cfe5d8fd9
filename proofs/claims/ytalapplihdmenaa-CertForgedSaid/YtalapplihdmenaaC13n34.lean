import Derived.Test.YtalapplihdmenaaC13n32
namespace Go.Proofs.Ytalapplihdmenaa.Q
open Go Go.RowKit
set_option linter.unusedVariables false
set_option linter.unusedSimpArgs false
set_option maxRecDepth 100000
set_option maxHeartbeats 4000000
section
variable (x : quaestorlaw03_Size) (c : quaestorlaw13_Case)
abbrev z03a2_0 : List SV := [dI x.f_F, dI x.f_Clients]
abbrev z03a2_1 : List SV := [dI c.f_View, dI c.f_Seq, dI c.f_Primary, .d (dsl false false (k_quaestorlaw13_Vote false) c.f_Votes)]
abbrev z03a2_2 : List SV := [dI (madeC (fOf x.f_F) c).f_Pre.f_Signer, .d (dsl false false kU8 (madeC (fOf x.f_F) c).f_Pre.f_Body), .d (dsl false false (k_api_Envelope false) (madeC (fOf x.f_F) c).f_Votes)]
abbrev z03a2_3 := (checkE (fOf x.f_F) (cOf x.f_Clients) ([] : List (authn_pair × Bool)))
abbrev z03a2_4 := (madeL (fOf x.f_F) (cOf x.f_Clients) ([] : List api_Envelope) c c.f_Votes.length)
abbrev z03a2_5 := (ceV (z03a2_3 x) (fOf x.f_F) (madeC (fOf x.f_F) c) 3 (2 * (fOf x.f_F)))
abbrev z03a2_6 := (ceV (z03a2_3 x) (fOf x.f_F) (madeC (fOf x.f_F) c) 4 (2 * (fOf x.f_F) + 1))
end
theorem law_CertForged (x : quaestorlaw03_Size) (c : quaestorlaw13_Case) (hr : rngC c) : Holds Try.prog 6 ⟨[.tv (.agg [dI x.f_F, dI x.f_Clients]), .tv (.agg [dI c.f_View, dI c.f_Seq, dI c.f_Primary, .d (dsl false false (k_quaestorlaw13_Vote false) c.f_Votes)])], [], vB true, []⟩ := by
 refine Holds.of Try.func6 rfl (N := 86) Try.ntmps6 rfl fun w0 B0 S0 U0 => ?_
 show T _ (mkBase 86 0 w0 S0 U0 B0) ⟨[.tv (.agg (z03a2_0 x)), .tv (.agg (z03a2_1 c))], []⟩ _ _
 have hfx := fOf_ok x.f_F
 have hux := cOf_ok x.f_Clients
 refine sR [] ?_
 refine T.seq ?_
 refine sR [hR 1 rfl rfl (rCa (law_bounds c ) Try.func20 [] [(.tmp 18, .tv (.agg (z03a2_1 c)))] 0 0)] ?_
 by_cases hq1 : bndC c
 ·have hbd := hq1; have hve : okEs (madeC (fOf x.f_F) c).f_Votes := made_okE hr hbd; have hpi : -9223372036854775808 ≤ (madeC (fOf x.f_F) c).f_Pre.f_Signer ∧ (madeC (fOf x.f_F) c).f_Pre.f_Signer ≤ 9223372036854775807 := pri_ok hfx hr hbd; have hpb := made_body (fOf x.f_F) c; obtain ⟨hb1, hb2, hb3, hb4, hb5⟩ := hbd
  refine cF (congrArg Bool.not (decide_eq_true hq1)) ?_
  refine T.skip (nT ?_)
  refine sR [hR 1 rfl rfl (rCa (law_begun x ) Try.func8 [2, 3, 4, 5] [(.tmp 22, .tv (.agg (z03a2_0 x)))] 0 4)] ?_
  refine sR [hR 2 rfl rfl (rCa (law_made (fOf x.f_F) (cOf x.f_Clients) ([] : List (authn_pair × Bool)) ([] : List api_Envelope) c (by assumption) (by assumption) (by rfl) (by (simp [maxLen, -List.getD_eq_getElem?_getD] <;> omega)) (by assumption) (by assumption)) Try.func21 [2, 3, 4, 5, 7] [(.tmp 24, .tv (.agg [.ptr 2 0, .ptr 4 0])), (.tmp 25, .tv (.agg (z03a2_1 c)))] 4 5)] ?_
  refine sR [hR 4 rfl rfl (rCa (authn_New x.f_F x.f_Clients ) Try.func24 [9, 10] [(.tmp 28, vI x.f_F), (.tmp 30, vI x.f_Clients)] 0 2)] ?_
  refine sR [hR 2 rfl rfl (rCa (cert_Prepared (fOf x.f_F) (cOf x.f_Clients) ([] : List (authn_pair × Bool)) false (madeC (fOf x.f_F) c) (by assumption) (by assumption) (by assumption) (by assumption) (by assumption)) Try.func25 [9, 10] [(.tmp 33, pv 9 0), (.tmp 34, .tv (.agg (z03a2_2 x c)))] 2 2)] ?_
  refine sR [hR 2 rfl rfl (rCa (cert_Committed (fOf x.f_F) (cOf x.f_Clients) ([] : List (authn_pair × Bool)) false (madeC (fOf x.f_F) c) (by assumption) (by assumption) (by assumption) (by assumption) (by assumption)) Try.func26 [9, 10] [(.tmp 39, pv 9 0), (.tmp 40, .tv (.agg (z03a2_2 x c)))] 2 2)] ?_
  refine sR [hR 5 rfl rfl (rCa (cert_Stable (fOf x.f_F) (cOf x.f_Clients) ([] : List (authn_pair × Bool)) c.f_Seq false false false (madeC (fOf x.f_F) c).f_Votes (by assumption) (by assumption) (by assumption)) Try.func22 [9, 10] [(.tmp 45, pv 9 0), (.tmp 47, vI c.f_Seq), (.tmp 49, slV false false (k_api_Envelope false) (madeC (fOf x.f_F) c).f_Votes)] 2 2)] ?_
  refine sR [hR 3 rfl rfl (rCa (cert_Request (fOf x.f_F) (cOf x.f_Clients) ([] : List (authn_pair × Bool)) false (madeC (fOf x.f_F) c).f_Pre (by assumption) (by assumption) (by assumption) (by assumption)) Try.func10 [9, 10] [(.tmp 54, pv 9 0), (.tmp 56, .tv (.agg [dI (madeC (fOf x.f_F) c).f_Pre.f_Signer, .d (dsl false false kU8 (madeC (fOf x.f_F) c).f_Pre.f_Body)]))] 2 2)] ?_
  refine sR [hR 1 rfl rfl (rCa (cert_Prepared_nil false (madeC (fOf x.f_F) c) (by assumption)) Try.func25 [] [(.const (.pointer none), dv (.pointer none)), (.tmp 61, .tv (.agg (z03a2_2 x c)))] 0 0)] ?_
  refine T.turn (s' := ⟨[.tv (.agg (z03a2_0 x)), .tv (.agg (z03a2_1 c)), pv 0 0, pv 1 0, vB false, pv 6 0, pv 8 0, pv 9 0, aa, vI (ceE (z03a2_3 x) (fOf x.f_F) (madeC (fOf x.f_F) c) 3 (2 * (fOf x.f_F))), aa, vI (ceE (z03a2_3 x) (fOf x.f_F) (madeC (fOf x.f_F) c) 4 (2 * (fOf x.f_F) + 1)), aa, vI (stE (z03a2_3 x) (fOf x.f_F) c.f_Seq (madeC (fOf x.f_F) c).f_Votes), aa, vI (rqE (z03a2_3 x) (fOf x.f_F) (madeC (fOf x.f_F) c).f_Pre), aa, vI 30, aa, aa, vB (!(decide (bndC c)))], [.live (.box 23 (z03a2_0 x)), .live (.box 61 (z03a2_1 c)), .live (.box 94 [dI (3 * (fOf x.f_F) + 1), dI (cOf x.f_Clients), .mref 3]), .live (mpK f_authn_pair kBool (tabM (z03a2_4 x c))), .live (.box 83 [dB true, dI (fOf x.f_F), dI (cOf x.f_Clients), .own 7 (k_api_Envelope false).sz 0 (z03a2_4 x c).length]), .dead, .live (.box 29 [.ptr 2 0, .ptr 4 0]), .live (arrK 40 (k_api_Envelope false) (z03a2_4 x c)), .live (.box 63 (z03a2_2 x c)), .live (.box 94 [dI (3 * (fOf x.f_F) + 1), dI (cOf x.f_Clients), .mref 10]), .live (mpK f_authn_pair kBool ([] : List (authn_pair × Bool))), .live (.box 51 [dI (z03a2_5 x c).f_Kind, dI (z03a2_5 x c).f_View, dI (z03a2_5 x c).f_Seq, dI (z03a2_5 x c).f_Client, dI (z03a2_5 x c).f_Stamp, dS (z03a2_5 x c).f_Digest, .d (dsl false false kU8 (z03a2_5 x c).f_Data), dI (z03a2_5 x c).f_Result.f_Code, dI (z03a2_5 x c).f_Result.f_Stage, .d (dsl false false (k_api_Envelope false) (z03a2_5 x c).f_Batch), .d (dsl false false (k_api_Envelope false) (z03a2_5 x c).f_Pres), .d (dsl false false (k_api_Cert false) (z03a2_5 x c).f_Certs)]), .live (.box 51 [dI (z03a2_6 x c).f_Kind, dI (z03a2_6 x c).f_View, dI (z03a2_6 x c).f_Seq, dI (z03a2_6 x c).f_Client, dI (z03a2_6 x c).f_Stamp, dS (z03a2_6 x c).f_Digest, .d (dsl false false kU8 (z03a2_6 x c).f_Data), dI (z03a2_6 x c).f_Result.f_Code, dI (z03a2_6 x c).f_Result.f_Stage, .d (dsl false false (k_api_Envelope false) (z03a2_6 x c).f_Batch), .d (dsl false false (k_api_Envelope false) (z03a2_6 x c).f_Pres), .d (dsl false false (k_api_Cert false) (z03a2_6 x c).f_Certs)]), .live (.box 35 [dI (rqV (z03a2_3 x) (fOf x.f_F) (madeC (fOf x.f_F) c).f_Pre).f_Client, dI (rqV (z03a2_3 x) (fOf x.f_F) (madeC (fOf x.f_F) c).f_Pre).f_Stamp, .d (dsl false false kU8 (rqV (z03a2_3 x) (fOf x.f_F) (madeC (fOf x.f_F) c).f_Pre).f_Op)]), .live (.box 51 [dI z_api_Message.f_Kind, dI z_api_Message.f_View, dI z_api_Message.f_Seq, dI z_api_Message.f_Client, dI z_api_Message.f_Stamp, dS z_api_Message.f_Digest, .d (dsl false false kU8 z_api_Message.f_Data), dI z_api_Message.f_Result.f_Code, dI z_api_Message.f_Result.f_Stage, .d (dsl false false (k_api_Envelope false) z_api_Message.f_Batch), .d (dsl false false (k_api_Envelope false) z_api_Message.f_Pres), .d (dsl false false (k_api_Cert false) z_api_Message.f_Certs)])]⟩) (fun _ _ hG => Gs.norm (by kernel_rfl) hG) ?_
  by_cases hq2 : (ceE (checkE (fOf x.f_F) (cOf x.f_Clients) ([] : List (authn_pair × Bool))) (fOf x.f_F) (madeC (fOf x.f_F) c) 3 (2 * (fOf x.f_F))) ≠ 0
  ·by_cases hq3 : (ceE (checkE (fOf x.f_F) (cOf x.f_Clients) ([] : List (authn_pair × Bool))) (fOf x.f_F) (madeC (fOf x.f_F) c) 4 (2 * (fOf x.f_F) + 1)) ≠ 0
   ·by_cases hq4 : (stE (checkE (fOf x.f_F) (cOf x.f_Clients) ([] : List (authn_pair × Bool))) (fOf x.f_F) c.f_Seq (madeC (fOf x.f_F) c).f_Votes) ≠ 0
    ·by_cases hq5 : (rqE (checkE (fOf x.f_F) (cOf x.f_Clients) ([] : List (authn_pair × Bool))) (fOf x.f_F) (madeC (fOf x.f_F) c).f_Pre) ≠ 0
     ·refine sR [hY 3 (decide_eq_true hq2),
        hY 4 (decide_eq_true hq2),
        hP 5 (decide_eq_true hq2),
        hY 7 (decide_eq_true hq3),
        hY 8 (decide_eq_true hq3),
        hP 9 (decide_eq_true hq3),
        hY 11 (decide_eq_true hq4),
        hY 12 (decide_eq_true hq4),
        hP 13 (decide_eq_true hq4),
        hY 15 (decide_eq_true hq5),
        hY 16 (decide_eq_true hq5),
        hP 17 (decide_eq_true hq5),
        hS 19 (oY (b := true) rfl rfl rfl rfl (lt_of rfl) rfl (rCa (law_awake  ) Try.func14 [] [] 0 0)),
        hP 20 (b := true) (w := true) rfl] ?_
      refine T.ret ?_
      exact eRt 4 (.one (dB true)) [] rfl trivial
     exact absurd (none_rq (none_check _ _) _) hq5
    exact absurd (none_st (none_check _ _) (by omega) _) hq4
   exact absurd (none_ce (none_check _ _) _ _ _) hq3
  exact absurd (none_ce (none_check _ _) _ _ _) hq2
 refine cT (congrArg Bool.not (decide_eq_false hq1)) ?_
 refine sR [hR 0 rfl rfl (rCa (law_awake  ) Try.func14 [] [] 0 0)] ?_
 refine T.ret (rT ?_)
 exact eRt 4 (.one (dB true)) [] rfl trivial
end Go.Proofs.Ytalapplihdmenaa.Q
