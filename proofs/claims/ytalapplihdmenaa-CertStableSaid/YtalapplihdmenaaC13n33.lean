import Derived.Test.YtalapplihdmenaaC13n32
namespace Go.Proofs.Ytalapplihdmenaa.Q
open Go Go.RowKit
set_option linter.unusedVariables false
set_option linter.unusedSimpArgs false
set_option maxRecDepth 100000
set_option maxHeartbeats 4000000
section
variable (x : quaestorlaw03_Size) (c : quaestorlaw13_Case) (seq : Int)
abbrev Zjz : AV := .tv (.agg [dI x.f_F, dI x.f_Clients])
abbrev Zk0 : List SV := [dI c.f_View, dI c.f_Seq, dI c.f_Primary, .d (dsl false false (k_quaestorlaw13_Vote false) c.f_Votes)]
abbrev Zk1 : AV := vB (!(decide (bndC c)))
abbrev Zk2 : AV := vB (decide (seq > 0))
abbrev Zk3 : List AV := [(Zjz x), .tv (.agg (Zk0 c)), vI (seqC c seq), pv 0 0, pv 1 0, aa, vB false, pv 6 0, pv 8 0, aa, aa, aa, aa, aa, aa, (Zk1 c), aa, aa, aa, aa, aa, aa, aa, (Zk2 seq)]
abbrev Zk4 := (madeL (fOf x.f_F) (cOf x.f_Clients) ([] : List aE) c c.f_Votes.length)
abbrev Zk5 : List HS := [.live (.box 23 [dI x.f_F, dI x.f_Clients]), .live (.box 61 (Zk0 c)), .live (.box 94 [dI (3 * (fOf x.f_F) + 1), dI (cOf x.f_Clients), .mref 3]), .live (mpK f_authn_pair kBool (tabM (Zk4 x c))), .live (.box 83 [dB true, dI (fOf x.f_F), dI (cOf x.f_Clients), .own 7 (kE false).sz 0 (Zk4 x c).length]), .dead, .live (.box 29 [.ptr 2 0, .ptr 4 0]), .live (arrK 40 (kE false) (Zk4 x c)), .live (.box 63 [dI (madeC (fOf x.f_F) c).f_Pre.f_Signer, dU (madeC (fOf x.f_F) c).f_Pre.f_Body, .d (dsl false false (kE false) (madeC (fOf x.f_F) c).f_Votes)])]
abbrev Zk6 : List AV := [(Zjz x), .tv (.agg (Zk0 c)), vI (c.f_Seq + (Int.tmod seq 3)), pv 0 0, pv 1 0, aa, vB false, pv 6 0, pv 8 0, aa, aa, aa, aa, aa, aa, (Zk1 c), aa, aa, aa, aa, aa, aa, aa, (Zk2 seq)]
abbrev Zk7 : List AV := [(Zjz x), .tv (.agg (Zk0 c)), vI seq, pv 0 0, pv 1 0, aa, vB false, pv 6 0, pv 8 0, aa, aa, aa, aa, aa, aa, (Zk1 c), aa, aa, aa, aa, aa, aa, aa, (Zk2 seq)]
end
theorem law_CertStable (x : quaestorlaw03_Size) (c : quaestorlaw13_Case) (seq : Int) (hr : rngC c) : Holds Try.prog 5 ⟨[.tv (.agg [dI x.f_F, dI x.f_Clients]), .tv (.agg [dI c.f_View, dI c.f_Seq, dI c.f_Primary, .d (dsl false false (k_quaestorlaw13_Vote false) c.f_Votes)]), vI seq], [], vB true, []⟩ := by
 refine Holds.of Try.func5 rfl (N := 58) Try.ntmps5 rfl fun w0 B0 S0 U0 => ?_
 show T _ (mkBase 58 0 w0 S0 U0 B0) ⟨[(Zjz x), .tv (.agg (Zk0 c)), vI seq], []⟩ _ _
 have hfx := fOf_ok x.f_F
 have hux := cOf_ok x.f_Clients
 have ht3 := tmod3 seq
 have hml := made_len (fOf x.f_F) (cOf x.f_Clients) [] c c.f_Votes.length
 simp only [List.length_nil] at hml
 refine sR [] ?_
 refine T.seq ?_
 refine sR [hR 1 rfl rfl (rCa (law_bounds c ) Try.func20 [] [(.tmp 13, .tv (.agg (Zk0 c)))] 0 0)] ?_
 by_cases hq1 : bndC c
 ·have hbd := hq1; have hve : okEs (madeC (fOf x.f_F) c).f_Votes := made_okE hr hbd; have hpi : -9223372036854775808 ≤ (madeC (fOf x.f_F) c).f_Pre.f_Signer ∧ (madeC (fOf x.f_F) c).f_Pre.f_Signer ≤ 9223372036854775807 := pri_ok hfx hr hbd; have hpb := made_body (fOf x.f_F) c; obtain ⟨hb1, hb2, hb3, hb4, hb5⟩ := hbd
  refine cF (cn (dT hq1)) ?_
  refine T.skip (nT ?_)
  refine sR [hR 1 rfl rfl (rCa (law_begun x ) Try.func8 [2, 3, 4, 5] [(.tmp 17, (Zjz x))] 0 4)] ?_
  refine sR [hR 2 rfl rfl (rCa (law_made (fOf x.f_F) (cOf x.f_Clients) ([] : List (authn_pair × Bool)) ([] : List aE) c ‹_› ‹_› (by rfl) (by (simp [maxLen, -List.getD_eq_getElem?_getD] <;> omega)) ‹_› ‹_›) Try.func21 [2, 3, 4, 5, 7] [(.tmp 19, .tv (.agg [.ptr 2 0, .ptr 4 0])), (.tmp 20, .tv (.agg (Zk0 c)))] 4 5)] ?_
  refine T.join ⟨(Zk3 x c seq), (Zk5 x c)⟩ ?_ ?_
  ·refine sR [] ?_
   by_cases hq2 : seq > 0
   ·refine cT (dT hq2) ?_
    refine xR [hR 3 rfl rfl (r_bin (u1 := .int .i64 seq) (u2 := .int .i64 3) (v := .int .i64 (Int.tmod seq 3)) (b_rem (by omega) rfl) (lt_of rfl) ⟨rfl, trivial⟩),
      hR 4 rfl rfl (r_bin (u1 := .int .i64 c.f_Seq) (u2 := .int .i64 (Int.tmod seq 3)) (v := .int .i64 (c.f_Seq + (Int.tmod seq 3))) (b_add (by rw [IntKind.wrap_i64]; omega)) (lt_of rfl) trivial)] (by kernel_rfl) (by kernel_rfl) ?_
    refine eN ⟨(Zk6 x c seq), (Zk5 x c)⟩ ?_
    refine Ends.turn (s' := ⟨(Zk3 x c seq), (Zk5 x c)⟩) (fun _ _ hG => Gs.i2 [0, 1, 2, 3, 4, 15, 6, 7, 8] (bm 24 8421855) (t1 := (Zk3 x c seq)) (t2 := (Zk6 x c seq)) (h1 := (Zk5 x c)) (congrArg (fun (q1 : Int) => ([(Zjz x), .tv (.agg (Zk0 c)), vI q1, pv 0 0, pv 1 0, aa, vB false, pv 6 0, pv 8 0, aa, aa, aa, aa, aa, aa, (Zk1 c), aa, aa, aa, aa, aa, aa, aa, (Zk2 seq)] : List AV)) (by exact if_pos ‹_›)) rfl hG) ?_
    exact nJ
   refine cF (dF hq2) ?_
   refine T.skip ?_
   refine eN ⟨(Zk7 x c seq), (Zk5 x c)⟩ ?_
   refine Ends.turn (s' := ⟨(Zk3 x c seq), (Zk5 x c)⟩) (fun _ _ hG => Gs.i2 [0, 1, 2, 3, 4, 15, 6, 7, 8] (bm 24 8421855) (t1 := (Zk3 x c seq)) (t2 := (Zk7 x c seq)) (h1 := (Zk5 x c)) (congrArg (fun (q1 : Int) => ([(Zjz x), .tv (.agg (Zk0 c)), vI q1, pv 0 0, pv 1 0, aa, vB false, pv 6 0, pv 8 0, aa, aa, aa, aa, aa, aa, (Zk1 c), aa, aa, aa, aa, aa, aa, aa, (Zk2 seq)] : List AV)) (by exact if_neg ‹_›)) rfl hG) ?_
   exact nJ
  refine sR [hR 5 rfl rfl (rCa (cert_Stable (fOf x.f_F) (cOf x.f_Clients) (tabM (madeL (fOf x.f_F) (cOf x.f_Clients) ([] : List aE) c c.f_Votes.length)) (seqC c seq) false false false (madeC (fOf x.f_F) c).f_Votes ‹_› ‹_› ‹_›) Try.func22 [2, 3] [(.tmp 31, pv 2 0), (.tmp 32, vI (seqC c seq)), (.tmp 34, slV false false (kE false) (madeC (fOf x.f_F) c).f_Votes)] 2 2)] ?_
  refine sR [hR 5 rfl rfl (rCa (ref13_Stable (fOf x.f_F) (cOf x.f_Clients) (madeL (fOf x.f_F) (cOf x.f_Clients) ([] : List aE) c c.f_Votes.length) (seqC c seq) (madeC (fOf x.f_F) c).f_Votes ‹_› ‹_› (by omega) ‹_›) Try.func23 [4, 7] [(.tmp 40, pv 4 0), (.tmp 41, vI (seqC c seq)), (.tmp 43, slV false false (kE false) (madeC (fOf x.f_F) c).f_Votes)] 2 2)] ?_
  by_cases hq3 : (stD (checkE (fOf x.f_F) (cOf x.f_Clients) (tabM (madeL (fOf x.f_F) (cOf x.f_Clients) ([] : List aE) c c.f_Votes.length))) (fOf x.f_F) (seqC c seq) (madeC (fOf x.f_F) c).f_Votes) = (stD (checkL (fOf x.f_F) (cOf x.f_Clients) (madeL (fOf x.f_F) (cOf x.f_Clients) ([] : List aE) c c.f_Votes.length)) (fOf x.f_F) (seqC c seq) (madeC (fOf x.f_F) c).f_Votes)
  ·by_cases hq4 : (stE (checkE (fOf x.f_F) (cOf x.f_Clients) (tabM (madeL (fOf x.f_F) (cOf x.f_Clients) ([] : List aE) c c.f_Votes.length))) (fOf x.f_F) (seqC c seq) (madeC (fOf x.f_F) c).f_Votes) = (stE (checkL (fOf x.f_F) (cOf x.f_Clients) (madeL (fOf x.f_F) (cOf x.f_Clients) ([] : List aE) c c.f_Votes.length)) (fOf x.f_F) (seqC c seq) (madeC (fOf x.f_F) c).f_Votes)
   ·refine sR [hY 4 (dT hq3),
      hY 5 (dT hq3),
      hY 6 (dT hq3),
      hP 7 (dT hq3),
      hS 9 (oY rfl rfl rfl rfl (lt_of rfl) (dT hq4) (rCa (law_awake  ) Try.func14 [] [] 0 0)),
      hP 10 (dT hq4)] ?_
    refine T.ret ?_
    exact eRt 6 (.one (dB true)) [] rfl trivial
   exact absurd (by rw [check_fun]) hq4
  exact absurd (by rw [check_fun]) hq3
 refine cT (cn (dF hq1)) ?_
 refine sR [hR 0 rfl rfl (rCa (law_awake  ) Try.func14 [] [] 0 0)] ?_
 refine T.ret (rT ?_)
 exact eRt 6 (.one (dB true)) [] rfl trivial
end Go.Proofs.Ytalapplihdmenaa.Q
