import Derived.Test.YtalapplihdmenaaC13n30
namespace Go.Proofs.Ytalapplihdmenaa.Q
open Go Go.RowKit
set_option linter.unusedVariables false
set_option linter.unusedSimpArgs false
set_option maxRecDepth 100000
set_option maxHeartbeats 4000000
theorem authn_N_nil : Holds Try.prog 52 ⟨[dv (.pointer none)], [], vI 0, []⟩ := by
 refine Holds.of Try.func52 rfl (N := 9) Try.ntmps52 rfl fun w0 B0 S0 U0 => ?_
 show T _ (mkBase 9 0 w0 S0 U0 B0) ⟨[dv (.pointer none)], []⟩ _ _
 refine sR [] ?_
 refine T.seq ?_
 refine sR [] ?_
 refine cT (b := true) rfl ?_
 refine sR [] ?_
 refine T.ret (rT ?_)
 exact eRt 2 (.one (dI 0)) [] rfl trivial
theorem authn_F_nil : Holds Try.prog 46 ⟨[dv (.pointer none)], [], vI 0, []⟩ := by
 refine Holds.of Try.func46 rfl (N := 6) Try.ntmps46 rfl fun w0 B0 S0 U0 => ?_
 show T _ (mkBase 6 0 w0 S0 U0 B0) ⟨[dv (.pointer none)], []⟩ _ _
 refine sR [] ?_
 refine sR [hR 1 rfl rfl (rCa (authn_N_nil  ) Try.func52 [] [(.tmp 3, dv (.pointer none))] 0 0),
   hR 2 rfl rfl (r_bin (u1 := .int .i64 0) (u2 := .int .i64 3) (v := .int .i64 (0 / 3)) (b_quoP (by omega) (by omega) (by rw [IntKind.wrap_i64]; omega)) (lt_of rfl) ⟨rfl, trivial⟩)] ?_
 refine T.ret ?_
 exact eRt 2 (.one (dI (0 / 3))) [] (congrArg (fun (q1 : Int) => (vI q1 : AV)) (by rfl)) trivial
theorem authn_Clients_nil : Holds Try.prog 105 ⟨[dv (.pointer none)], [], vI 0, []⟩ := by
 refine Holds.of Try.func105 rfl (N := 9) Try.ntmps105 rfl fun w0 B0 S0 U0 => ?_
 show T _ (mkBase 9 0 w0 S0 U0 B0) ⟨[dv (.pointer none)], []⟩ _ _
 refine sR [] ?_
 refine T.seq ?_
 refine sR [] ?_
 refine cT (b := true) rfl ?_
 refine sR [] ?_
 refine T.ret (rT ?_)
 exact eRt 2 (.one (dI 0)) [] rfl trivial
theorem authn_Replica_nil (s : Int) (hs : -9223372036854775808 ≤ s ∧ s ≤ 9223372036854775807) : Holds Try.prog 30 ⟨[dv (.pointer none), vI s], [], vB false, []⟩ := by
 refine Holds.of Try.func30 rfl (N := 13) Try.ntmps30 rfl fun w0 B0 S0 U0 => ?_
 show T _ (mkBase 13 0 w0 S0 U0 B0) ⟨[dv (.pointer none), vI s], []⟩ _ _
 refine sR [] ?_
 by_cases hq1 : s ≥ 0
 ·refine sR [hY 3 (decide_eq_true hq1),
    hY 4 (decide_eq_true hq1),
    hS 5 (oY rfl rfl rfl rfl (lt_of rfl) (decide_eq_true hq1) (rCa (authn_N_nil  ) Try.func52 [] [(.tmp 9, dv (.pointer none))] 0 0)),
    hY 6 (decide_eq_true hq1),
    hP 7 (decide_eq_true hq1)] ?_
  refine T.ret ?_
  exact eRt 4 (.one (dB (decide (s < 0)))) [] (congrArg (fun (q1 : Bool) => (vB q1 : AV)) (by exact (decide_eq_false (by omega)).symm)) trivial
 refine sR [hN 3 true (decide_eq_false hq1),
   hN 4 true (decide_eq_false hq1),
   hN 5 true (decide_eq_false hq1),
   hN 6 true (decide_eq_false hq1),
   hP 7 (decide_eq_false hq1)] ?_
 refine T.ret ?_
 exact eRt 4 (.one (dB false)) [] rfl trivial
theorem authn_client_nil (s : Int) (hs : -9223372036854775808 ≤ s ∧ s ≤ 9223372036854775807) : Holds Try.prog 89 ⟨[dv (.pointer none), vI s], [], vB false, []⟩ := by
 refine Holds.of Try.func89 rfl (N := 14) Try.ntmps89 rfl fun w0 B0 S0 U0 => ?_
 show T _ (mkBase 14 0 w0 S0 U0 B0) ⟨[dv (.pointer none), vI s], []⟩ _ _
 refine sR [] ?_
 by_cases hq1 : s ≥ 1000
 ·refine sR [hY 3 (decide_eq_true hq1),
    hS 4 (oY rfl rfl rfl rfl (lt_of rfl) (decide_eq_true hq1) (r_bin (u1 := .int .i64 s) (u2 := .int .i64 1000) (v := .int .i64 (s - 1000)) (b_sub (by rw [IntKind.wrap_i64]; omega)) (lt_of rfl) ⟨rfl, trivial⟩)),
    hY 5 (decide_eq_true hq1),
    hS 6 (oY rfl rfl rfl rfl (lt_of rfl) (decide_eq_true hq1) (rCa (authn_Clients_nil  ) Try.func105 [] [(.tmp 10, dv (.pointer none))] 0 0)),
    hY 7 (decide_eq_true hq1),
    hP 8 (decide_eq_true hq1)] ?_
  refine T.ret ?_
  exact eRt 4 (.one (dB (decide ((s - 1000) < 0)))) [] (congrArg (fun (q1 : Bool) => (vB q1 : AV)) (by exact (decide_eq_false (by omega)).symm)) trivial
 refine sR [hN 3 true (decide_eq_false hq1),
   hN 4 true (decide_eq_false hq1),
   hN 5 true (decide_eq_false hq1),
   hN 6 true (decide_eq_false hq1),
   hN 7 true (decide_eq_false hq1),
   hP 8 (decide_eq_false hq1)] ?_
 refine T.ret ?_
 exact eRt 4 (.one (dB false)) [] rfl trivial
theorem authn_Known_nil (s : Int) (hs : -9223372036854775808 ≤ s ∧ s ≤ 9223372036854775807) : Holds Try.prog 66 ⟨[dv (.pointer none), vI s], [], vB false, []⟩ := by
 refine Holds.of Try.func66 rfl (N := 13) Try.ntmps66 rfl fun w0 B0 S0 U0 => ?_
 show T _ (mkBase 13 0 w0 S0 U0 B0) ⟨[dv (.pointer none), vI s], []⟩ _ _
 refine sR [] ?_
 refine sR [hR 2 rfl rfl (rCa (authn_Replica_nil s (by assumption)) Try.func30 [] [(.tmp 5, dv (.pointer none)), (.tmp 6, vI s)] 0 0),
   hY 4 (b := false) (w := false) rfl,
   hY 5 (b := false) (w := false) rfl,
   hS 6 (oY (b := false) rfl rfl rfl rfl (lt_of rfl) rfl (rCa (authn_client_nil s (by assumption)) Try.func89 [] [(.tmp 9, dv (.pointer none)), (.tmp 10, vI s)] 0 0)),
   hP 7 (b := false) (w := false) rfl] ?_
 refine T.ret ?_
 exact eRt 4 (.one (dB false)) [] rfl trivial
theorem authn_Check_nil (te : Bool) (e : api_Envelope) (hs : -9223372036854775808 ≤ e.f_Signer ∧ e.f_Signer ≤ 9223372036854775807) : Holds Try.prog 50 ⟨[dv (.pointer none), .tv (.agg [dI e.f_Signer, .d (dsl te false kU8 e.f_Body)])], [], vI 30, []⟩ := by
 refine Holds.of Try.func50 rfl (N := 28) Try.ntmps50 rfl fun w0 B0 S0 U0 => ?_
 show T _ (mkBase 28 0 w0 S0 U0 B0) ⟨[dv (.pointer none), .tv (.agg [dI e.f_Signer, .d (dsl te false kU8 e.f_Body)])], []⟩ _ _
 refine sR [] ?_
 refine T.seq ?_
 refine sR [hR 3 rfl rfl (rCa (authn_Known_nil e.f_Signer (by assumption)) Try.func66 [] [(.tmp 7, dv (.pointer none)), (.tmp 9, vI e.f_Signer)] 0 0)] ?_
 refine cT (b := (!false)) rfl ?_
 refine sR [] ?_
 refine T.ret (rT ?_)
 exact eRt 4 (.one (dI 30)) [] rfl trivial
section
variable (te : Bool) (e : api_Envelope) (k : Int)
abbrev ze4f7_0 : List SV := [dI e.f_Signer, .d (dsl te false kU8 e.f_Body)]
abbrev ze4f7_1 : List AV := [dv (.pointer none), .tv (.agg (ze4f7_0 te e)), vI k, aa, pv 0 0, aa, pv 1 0, vI 30, vI 30, aa, aa, aa, aa, aa, aa, vB true]
abbrev ze4f7_2 : SV := .d (.val (.slice none 0 0))
abbrev ze4f7_3 : St := ⟨(ze4f7_1 te e k), [.live (.box 40 (ze4f7_0 te e)), .live (.box 51 [dI 0, dI 0, dI 0, dI 0, dI 0, dS [], ze4f7_2, dI 0, dI 0, ze4f7_2, ze4f7_2, ze4f7_2])]⟩
abbrev ze4f7_4 : SV := .d (dsl false false (k_api_Envelope false) ([] : List api_Envelope))
abbrev ze4f7_5 : List SV := [dI 0, dI 0, dI 0, dI 0, dI 0, dS [], .d (dsl false false kU8 ([] : List UInt8)), dI 0, dI 0, ze4f7_4, ze4f7_4, .d (dsl false false (k_api_Cert false) ([] : List api_Cert))]
end
theorem cert_open_nil (te : Bool) (e : api_Envelope) (k : Int) (hs : -9223372036854775808 ≤ e.f_Signer ∧ e.f_Signer ≤ 9223372036854775807) : Holds Try.prog 29 ⟨[dv (.pointer none), .tv (.agg [dI e.f_Signer, .d (dsl te false kU8 e.f_Body)]), vI k], [], .tup [.agg [dI z_api_Message.f_Kind, dI z_api_Message.f_View, dI z_api_Message.f_Seq, dI z_api_Message.f_Client, dI z_api_Message.f_Stamp, dS z_api_Message.f_Digest, .d (dsl false false kU8 z_api_Message.f_Data), dI z_api_Message.f_Result.f_Code, dI z_api_Message.f_Result.f_Stage, .d (dsl false false (k_api_Envelope false) z_api_Message.f_Batch), .d (dsl false false (k_api_Envelope false) z_api_Message.f_Pres), .d (dsl false false (k_api_Cert false) z_api_Message.f_Certs)], .one (dI 30)], []⟩ := by
 refine Holds.of Try.func29 rfl (N := 34) Try.ntmps29 rfl fun w0 B0 S0 U0 => ?_
 show T _ (mkBase 34 0 w0 S0 U0 B0) ⟨[dv (.pointer none), .tv (.agg (ze4f7_0 te e)), vI k], []⟩ _ _
 refine sR [] ?_
 refine T.seq ?_
 refine sR [hR 2 rfl rfl (rCa (authn_Check_nil te e (by assumption)) Try.func50 [] [(.tmp 11, dv (.pointer none)), (.tmp 12, .tv (.agg (ze4f7_0 te e)))] 0 0)] ?_
 refine sR [] ?_
 refine cT (b := true) rfl ?_
 refine sR [] ?_
 refine T.ret (rT ?_)
 refine Ends.turn (s' := (ze4f7_3 te e k)) (fun _ _ hG => Gs.norm (by kernel_rfl) hG) ?_
 refine Ends.turn (s' := ⟨(ze4f7_1 te e k), [.live (.box 40 (ze4f7_0 te e)), .live (.box 51 ze4f7_5)]⟩) (fun _ _ hG => Gs.less (s := (ze4f7_3 te e k)) (kk16 trivial) ⟨.inl rfl, ⟨(.inr ⟨rfl, (kk2 (kk4 ⟨(.inr ⟨rfl, rfl, rfl⟩), (kk2 ⟨(.inr ⟨rfl, rfl, rfl⟩), ⟨(.inr ⟨rfl, rfl, rfl⟩), ⟨(.inr ⟨rfl, rfl, rfl⟩), trivial⟩⟩⟩)⟩))⟩), trivial⟩⟩ hG) ?_
 exact tE (.inl rfl) [.c 6 1 51 0 51 [dI 0, dI 0, dI 0, dI 0, dI 0, dS [], .d (dsl false false kU8 ([] : List UInt8)), dI 0, dI 0, ze4f7_4, ze4f7_4, .d (dsl false false (k_api_Cert false) ([] : List api_Cert))] (.agg ze4f7_5), .t 7 (.one (dI 30))] ⟨⟨rfl, rfl, by kernel_rfl, by kernel_rfl, .inl ⟨12, wide_51, rfl, Nat.le_of_ble_eq_true rfl⟩⟩, ⟨⟨rfl, by kernel_rfl⟩, trivial⟩⟩ [] (cg12 (fun (q1 : Int) (q2 : Int) (q3 : Int) (q4 : Int) (q5 : Int) (q6 : List UInt8) (q7 : List UInt8) (q8 : Int) (q9 : Int) (q10 : List api_Envelope) (q11 : List api_Envelope) (q12 : List api_Cert) => (.tup [.agg [dI q1, dI q2, dI q3, dI q4, dI q5, dS q6, .d (dsl false false kU8 q7), dI q8, dI q9, .d (dsl false false (k_api_Envelope false) q10), .d (dsl false false (k_api_Envelope false) q11), .d (dsl false false (k_api_Cert false) q12)], .one (dI 30)] : AV)) (by rfl) (by rfl) (by rfl) (by rfl) (by rfl) (by rfl) (by rfl) (by rfl) (by rfl) (by rfl) (by rfl) (by rfl)) rfl rfl rfl rfl rfl trivial
section
variable (te : Bool) (e : api_Envelope)
abbrev z7783_0 : List SV := [dI e.f_Signer, .d (dsl te false kU8 e.f_Body)]
abbrev z7783_1 : List AV := [dv (.pointer none), .tv (.agg (z7783_0 te e)), aa, pv 0 0, pv 1 0, vI 30, pv 2 0, vI 30, aa, aa, aa, aa, aa, aa, aa, aa, aa, aa, vB true, aa, aa, aa, aa, aa, aa, aa, aa, aa, aa, aa, aa, aa, aa, aa, aa, aa, aa, vB true]
abbrev z7783_2 : SV := .d (.val (.slice none 0 0))
abbrev z7783_3 : HS := .live (.box 51 [dI 0, dI 0, dI 0, dI 0, dI 0, dS [], z7783_2, dI 0, dI 0, z7783_2, z7783_2, z7783_2])
abbrev z7783_4 : HS := .live (.box 51 [dI z_api_Message.f_Kind, dI z_api_Message.f_View, dI z_api_Message.f_Seq, dI z_api_Message.f_Client, dI z_api_Message.f_Stamp, dS z_api_Message.f_Digest, .d (dsl false false kU8 z_api_Message.f_Data), dI z_api_Message.f_Result.f_Code, dI z_api_Message.f_Result.f_Stage, .d (dsl false false (k_api_Envelope false) z_api_Message.f_Batch), .d (dsl false false (k_api_Envelope false) z_api_Message.f_Pres), .d (dsl false false (k_api_Cert false) z_api_Message.f_Certs)])
abbrev z7783_5 : SV := .d (dsl false false (k_api_Envelope false) ([] : List api_Envelope))
abbrev z7783_6 : List SV := [dI 0, dI 0, dI 0, dI 0, dI 0, dS [], .d (dsl false false kU8 ([] : List UInt8)), dI 0, dI 0, z7783_5, z7783_5, .d (dsl false false (k_api_Cert false) ([] : List api_Cert))]
end
theorem cert_PrePrepare_nil (te : Bool) (e : api_Envelope) (hs : -9223372036854775808 ≤ e.f_Signer ∧ e.f_Signer ≤ 9223372036854775807) : Holds Try.prog 16 ⟨[dv (.pointer none), .tv (.agg [dI e.f_Signer, .d (dsl te false kU8 e.f_Body)])], [], .tup [.agg [dI z_api_Message.f_Kind, dI z_api_Message.f_View, dI z_api_Message.f_Seq, dI z_api_Message.f_Client, dI z_api_Message.f_Stamp, dS z_api_Message.f_Digest, .d (dsl false false kU8 z_api_Message.f_Data), dI z_api_Message.f_Result.f_Code, dI z_api_Message.f_Result.f_Stage, .d (dsl false false (k_api_Envelope false) z_api_Message.f_Batch), .d (dsl false false (k_api_Envelope false) z_api_Message.f_Pres), .d (dsl false false (k_api_Cert false) z_api_Message.f_Certs)], .one (dI 30)], []⟩ := by
 refine Holds.of Try.func16 rfl (N := 41) Try.ntmps16 rfl fun w0 B0 S0 U0 => ?_
 show T _ (mkBase 41 0 w0 S0 U0 B0) ⟨[dv (.pointer none), .tv (.agg (z7783_0 te e))], []⟩ _ _
 refine sR [] ?_
 refine sR [hR 2 rfl rfl (rCa (cert_open_nil te e 2 (by assumption)) Try.func29 [] [(.tmp 9, dv (.pointer none)), (.tmp 10, .tv (.agg (z7783_0 te e))), (.const (.int .i64 2), vI 2)] 0 0)] ?_
 refine T.seq ?_
 refine T.block ?_
 refine sR [] ?_
 refine cT (b := true) rfl ?_
 refine T.skip ?_
 refine nB ?_
 refine nT (T.seq ?_)
 refine sR [] ?_
 refine cT (b := true) rfl ?_
 refine sR [] ?_
 refine T.ret (rT ?_)
 refine Ends.turn (s' := ⟨(z7783_1 te e), [.live (.box 40 (z7783_0 te e)), z7783_3, z7783_4]⟩) (fun _ _ hG => Gs.norm (by kernel_rfl) hG) ?_
 refine Ends.turn (s' := ⟨(z7783_1 te e), [.live (.box 40 (z7783_0 te e)), .live (.box 51 z7783_6), z7783_4]⟩) (fun _ _ hG => Gs.less (s := ⟨(z7783_1 te e), [.live (.box 40 (z7783_0 te e)), z7783_3, z7783_4]⟩) (kk2 (kk4 (kk32 trivial))) ⟨.inl rfl, ⟨(.inr ⟨rfl, (kk2 (kk4 ⟨(.inr ⟨rfl, rfl, rfl⟩), (kk2 ⟨(.inr ⟨rfl, rfl, rfl⟩), ⟨(.inr ⟨rfl, rfl, rfl⟩), ⟨(.inr ⟨rfl, rfl, rfl⟩), trivial⟩⟩⟩)⟩))⟩), ⟨.inl rfl, trivial⟩⟩⟩ hG) ?_
 exact tE (.inl rfl) [.c 4 1 51 0 51 [dI 0, dI 0, dI 0, dI 0, dI 0, dS [], .d (dsl false false kU8 ([] : List UInt8)), dI 0, dI 0, z7783_5, z7783_5, .d (dsl false false (k_api_Cert false) ([] : List api_Cert))] (.agg z7783_6), .t 5 (.one (dI 30))] ⟨⟨rfl, rfl, by kernel_rfl, by kernel_rfl, .inl ⟨12, wide_51, rfl, Nat.le_of_ble_eq_true rfl⟩⟩, ⟨⟨rfl, by kernel_rfl⟩, trivial⟩⟩ [] (cg12 (fun (q1 : Int) (q2 : Int) (q3 : Int) (q4 : Int) (q5 : Int) (q6 : List UInt8) (q7 : List UInt8) (q8 : Int) (q9 : Int) (q10 : List api_Envelope) (q11 : List api_Envelope) (q12 : List api_Cert) => (.tup [.agg [dI q1, dI q2, dI q3, dI q4, dI q5, dS q6, .d (dsl false false kU8 q7), dI q8, dI q9, .d (dsl false false (k_api_Envelope false) q10), .d (dsl false false (k_api_Envelope false) q11), .d (dsl false false (k_api_Cert false) q12)], .one (dI 30)] : AV)) (by rfl) (by rfl) (by rfl) (by rfl) (by rfl) (by rfl) (by rfl) (by rfl) (by rfl) (by rfl) (by rfl) (by rfl)) rfl rfl rfl rfl rfl trivial
section
variable (tc : Bool) (c : api_Cert) (kind : Int) (need : Int)
abbrev z3d43_0 : List SV := [dI c.f_Pre.f_Signer, .d (dsl tc false kU8 c.f_Pre.f_Body), .d (dsl tc false (k_api_Envelope tc) c.f_Votes)]
abbrev z3d43_1 : List AV := [dv (.pointer none), .tv (.agg (z3d43_0 tc c)), vI kind, vI need, aa, pv 0 0, pv 1 0, aa, pv 2 0, vI 30, pv 3 0, vI 30, aa, aa, aa, aa, aa, aa, aa, aa, vB true]
abbrev z3d43_2 : SV := .d (.val (.slice none 0 0))
abbrev z3d43_3 : HS := .live (.box 51 [dI 0, dI 0, dI 0, dI 0, dI 0, dS [], z3d43_2, dI 0, dI 0, z3d43_2, z3d43_2, z3d43_2])
abbrev z3d43_4 : HS := .live (.box 51 [dI z_api_Message.f_Kind, dI z_api_Message.f_View, dI z_api_Message.f_Seq, dI z_api_Message.f_Client, dI z_api_Message.f_Stamp, dS z_api_Message.f_Digest, .d (dsl false false kU8 z_api_Message.f_Data), dI z_api_Message.f_Result.f_Code, dI z_api_Message.f_Result.f_Stage, .d (dsl false false (k_api_Envelope false) z_api_Message.f_Batch), .d (dsl false false (k_api_Envelope false) z_api_Message.f_Pres), .d (dsl false false (k_api_Cert false) z_api_Message.f_Certs)])
abbrev z3d43_5 : SV := .d (dsl false false (k_api_Envelope false) ([] : List api_Envelope))
abbrev z3d43_6 : List SV := [dI 0, dI 0, dI 0, dI 0, dI 0, dS [], .d (dsl false false kU8 ([] : List UInt8)), dI 0, dI 0, z3d43_5, z3d43_5, .d (dsl false false (k_api_Cert false) ([] : List api_Cert))]
end
theorem cert_certified_nil (tc : Bool) (c : api_Cert) (kind : Int) (need : Int) (hs : -9223372036854775808 ≤ c.f_Pre.f_Signer ∧ c.f_Pre.f_Signer ≤ 9223372036854775807) : Holds Try.prog 45 ⟨[dv (.pointer none), .tv (.agg [dI c.f_Pre.f_Signer, .d (dsl tc false kU8 c.f_Pre.f_Body), .d (dsl tc false (k_api_Envelope tc) c.f_Votes)]), vI kind, vI need], [], .tup [.agg [dI z_api_Message.f_Kind, dI z_api_Message.f_View, dI z_api_Message.f_Seq, dI z_api_Message.f_Client, dI z_api_Message.f_Stamp, dS z_api_Message.f_Digest, .d (dsl false false kU8 z_api_Message.f_Data), dI z_api_Message.f_Result.f_Code, dI z_api_Message.f_Result.f_Stage, .d (dsl false false (k_api_Envelope false) z_api_Message.f_Batch), .d (dsl false false (k_api_Envelope false) z_api_Message.f_Pres), .d (dsl false false (k_api_Cert false) z_api_Message.f_Certs)], .one (dI 30)], []⟩ := by
 refine Holds.of Try.func45 rfl (N := 35) Try.ntmps45 rfl fun w0 B0 S0 U0 => ?_
 show T _ (mkBase 35 0 w0 S0 U0 B0) ⟨[dv (.pointer none), .tv (.agg (z3d43_0 tc c)), vI kind, vI need], []⟩ _ _
 refine sR [] ?_
 refine sR [hR 3 rfl rfl (rCa (cert_PrePrepare_nil tc c.f_Pre (by assumption)) Try.func16 [] [(.tmp 13, dv (.pointer none)), (.tmp 15, .tv (.agg [dI c.f_Pre.f_Signer, .d (dsl tc false kU8 c.f_Pre.f_Body)]))] 0 0)] ?_
 refine T.seq ?_
 refine sR [] ?_
 refine cT (b := true) rfl ?_
 refine sR [] ?_
 refine T.ret (rT ?_)
 refine Ends.turn (s' := ⟨(z3d43_1 tc c kind need), [.live (.box 63 (z3d43_0 tc c)), .live (.box 3 [dI kind]), z3d43_3, z3d43_4]⟩) (fun _ _ hG => Gs.norm (by kernel_rfl) hG) ?_
 refine Ends.turn (s' := ⟨(z3d43_1 tc c kind need), [.live (.box 63 (z3d43_0 tc c)), .live (.box 3 [dI kind]), .live (.box 51 z3d43_6), z3d43_4]⟩) (fun _ _ hG => Gs.less (s := ⟨(z3d43_1 tc c kind need), [.live (.box 63 (z3d43_0 tc c)), .live (.box 3 [dI kind]), z3d43_3, z3d43_4]⟩) ⟨.inl rfl, (kk4 (kk16 trivial))⟩ (kk2 ⟨(.inr ⟨rfl, (kk2 (kk4 ⟨(.inr ⟨rfl, rfl, rfl⟩), (kk2 ⟨(.inr ⟨rfl, rfl, rfl⟩), ⟨(.inr ⟨rfl, rfl, rfl⟩), ⟨(.inr ⟨rfl, rfl, rfl⟩), trivial⟩⟩⟩)⟩))⟩), ⟨.inl rfl, trivial⟩⟩) hG) ?_
 exact tE (.inl rfl) [.c 8 2 51 0 51 [dI 0, dI 0, dI 0, dI 0, dI 0, dS [], .d (dsl false false kU8 ([] : List UInt8)), dI 0, dI 0, z3d43_5, z3d43_5, .d (dsl false false (k_api_Cert false) ([] : List api_Cert))] (.agg z3d43_6), .t 9 (.one (dI 30))] ⟨⟨rfl, rfl, by kernel_rfl, by kernel_rfl, .inl ⟨12, wide_51, rfl, Nat.le_of_ble_eq_true rfl⟩⟩, ⟨⟨rfl, by kernel_rfl⟩, trivial⟩⟩ [] (cg12 (fun (q1 : Int) (q2 : Int) (q3 : Int) (q4 : Int) (q5 : Int) (q6 : List UInt8) (q7 : List UInt8) (q8 : Int) (q9 : Int) (q10 : List api_Envelope) (q11 : List api_Envelope) (q12 : List api_Cert) => (.tup [.agg [dI q1, dI q2, dI q3, dI q4, dI q5, dS q6, .d (dsl false false kU8 q7), dI q8, dI q9, .d (dsl false false (k_api_Envelope false) q10), .d (dsl false false (k_api_Envelope false) q11), .d (dsl false false (k_api_Cert false) q12)], .one (dI 30)] : AV)) (by rfl) (by rfl) (by rfl) (by rfl) (by rfl) (by rfl) (by rfl) (by rfl) (by rfl) (by rfl) (by rfl) (by rfl)) rfl rfl rfl rfl rfl trivial
abbrev z729d_0 (tc : Bool) (c : api_Cert) : AV := .tv (.agg [dI c.f_Pre.f_Signer, .d (dsl tc false kU8 c.f_Pre.f_Body), .d (dsl tc false (k_api_Envelope tc) c.f_Votes)])
theorem cert_Prepared_nil (tc : Bool) (c : api_Cert) (hs : -9223372036854775808 ≤ c.f_Pre.f_Signer ∧ c.f_Pre.f_Signer ≤ 9223372036854775807) : Holds Try.prog 25 ⟨[dv (.pointer none), .tv (.agg [dI c.f_Pre.f_Signer, .d (dsl tc false kU8 c.f_Pre.f_Body), .d (dsl tc false (k_api_Envelope tc) c.f_Votes)])], [], .tup [.agg [dI z_api_Message.f_Kind, dI z_api_Message.f_View, dI z_api_Message.f_Seq, dI z_api_Message.f_Client, dI z_api_Message.f_Stamp, dS z_api_Message.f_Digest, .d (dsl false false kU8 z_api_Message.f_Data), dI z_api_Message.f_Result.f_Code, dI z_api_Message.f_Result.f_Stage, .d (dsl false false (k_api_Envelope false) z_api_Message.f_Batch), .d (dsl false false (k_api_Envelope false) z_api_Message.f_Pres), .d (dsl false false (k_api_Cert false) z_api_Message.f_Certs)], .one (dI 30)], []⟩ := by
 refine Holds.of Try.func25 rfl (N := 14) Try.ntmps25 rfl fun w0 B0 S0 U0 => ?_
 show T _ (mkBase 14 0 w0 S0 U0 B0) ⟨[dv (.pointer none), (z729d_0 tc c)], []⟩ _ _
 refine sR [] ?_
 refine sD [[], [], [], [2], [2, 3], [0, 1, 2, 3, 4], [0, 1, 2, 3, 4, 5], [0, 1, 2, 3, 4, 5], [0, 1, 2, 3, 4, 5, 6, 7], [0, 1, 2, 3, 4, 5, 6, 7, 8]] [hR 3 rfl rfl (rCa (authn_F_nil  ) Try.func46 [] [(.tmp 8, dv (.pointer none))] 0 0),
   hR 4 rfl rfl (r_bin (u1 := .int .i64 2) (u2 := .int .i64 0) (v := .int .i64 0) (b_mul (by rw [IntKind.wrap_i64]; omega)) (lt_of rfl) ⟨rfl, trivial⟩),
   hR 5 rfl rfl (rCa (cert_certified_nil tc c 3 0 (by assumption)) Try.func45 [] [(.tmp 6, dv (.pointer none)), (.tmp 7, (z729d_0 tc c)), (.const (.int .i64 3), vI 3), (.tmp 10, vI 0)] 0 0)] ?_
 refine T.ret ?_
 exact tE (.inl rfl) [.c 4 1 51 0 51 [dI z_api_Message.f_Kind, dI z_api_Message.f_View, dI z_api_Message.f_Seq, dI z_api_Message.f_Client, dI z_api_Message.f_Stamp, dS z_api_Message.f_Digest, .d (dsl false false kU8 z_api_Message.f_Data), dI z_api_Message.f_Result.f_Code, dI z_api_Message.f_Result.f_Stage, .d (dsl false false (k_api_Envelope false) z_api_Message.f_Batch), .d (dsl false false (k_api_Envelope false) z_api_Message.f_Pres), .d (dsl false false (k_api_Cert false) z_api_Message.f_Certs)] (.agg [dI z_api_Message.f_Kind, dI z_api_Message.f_View, dI z_api_Message.f_Seq, dI z_api_Message.f_Client, dI z_api_Message.f_Stamp, dS z_api_Message.f_Digest, .d (dsl false false kU8 z_api_Message.f_Data), dI z_api_Message.f_Result.f_Code, dI z_api_Message.f_Result.f_Stage, .d (dsl false false (k_api_Envelope false) z_api_Message.f_Batch), .d (dsl false false (k_api_Envelope false) z_api_Message.f_Pres), .d (dsl false false (k_api_Cert false) z_api_Message.f_Certs)]), .t 5 (.one (dI 30))] ⟨⟨rfl, rfl, by kernel_rfl, by kernel_rfl, .inl ⟨12, wide_51, rfl, Nat.le_of_ble_eq_true rfl⟩⟩, ⟨⟨rfl, by kernel_rfl⟩, trivial⟩⟩ [] rfl rfl rfl rfl rfl rfl trivial
end Go.Proofs.Ytalapplihdmenaa.Q
