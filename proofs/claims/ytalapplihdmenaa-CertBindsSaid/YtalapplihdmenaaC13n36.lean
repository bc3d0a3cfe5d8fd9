import Derived.Test.YtalapplihdmenaaC13n35
namespace Go.Proofs.Ytalapplihdmenaa.Q
open Go Go.RowKit
set_option linter.unusedVariables false
set_option linter.unusedSimpArgs false
set_option maxRecDepth 100000
set_option maxHeartbeats 4000000
section
variable (x : quaestorlaw03_Size) (l : List quaestorlaw13_Word) (m : List quaestorlaw13_Word)
abbrev z1871_0 : List SV := [dI x.f_F, dI x.f_Clients]
abbrev z1871_1 : AV := slV false false (k_quaestorlaw13_Word false) l
abbrev z1871_2 : AV := slV false false (k_quaestorlaw13_Word false) m
abbrev z1871_3 : TV := .one (dB true)
abbrev z1871_4 : AV := .tv (.agg [.ptr 1 0, .ptr 3 0])
abbrev z1871_5 : List AV := [.tv (.agg (z1871_0 x)), (z1871_1 l), (z1871_2 m), pv 0 0, aa, aa, vB false, pv 5 0, pv 7 0, pv 9 0, aa, aa, aa, aa, aa, aa, aa, aa, aa, aa, aa, aa, aa, aa, aa, aa, aa, aa, aa, aa, aa, vB (decide (((m.length : Nat) : Int) > 4))]
abbrev z1871_6 : HS := .live (.box 23 (z1871_0 x))
abbrev z1871_7 : HS := .live (.box 94 [dI (3 * (fOf x.f_F) + 1), dI (cOf x.f_Clients), .mref 2])
abbrev z1871_8 := (sayL (fOf x.f_F) (cOf x.f_Clients) (sayL (fOf x.f_F) (cOf x.f_Clients) ([] : List api_Envelope) l l.length) m m.length)
abbrev z1871_9 : HS := .live (mpK f_authn_pair kBool (tabM (z1871_8 x l m)))
abbrev z1871_a : HS := .live (.box 83 [dB true, dI (fOf x.f_F), dI (cOf x.f_Clients), .own 8 (k_api_Envelope false).sz 0 (z1871_8 x l m).length])
abbrev z1871_b : HS := .live (.box 29 [.ptr 1 0, .ptr 3 0])
abbrev z1871_c : SV := .d (.val (.slice none 0 0))
abbrev z1871_d : HS := .live (arrK 40 (k_api_Envelope false) (z1871_8 x l m))
abbrev z1871_e : HS := .live (.box 51 [dI 2, dI 1, dI 2, dI 0, dI 0, dS (bchB (m.map saidE)), z1871_c, dI 0, dI 0, .d (dsl false false (k_api_Envelope false) (m.map saidE)), z1871_c, z1871_c])
abbrev z1871_f : St := ⟨(z1871_5 x l m), [(z1871_6 x), (z1871_7 x), (z1871_9 x l m), (z1871_a x l m), .dead, z1871_b, .dead, .live (.box 51 [dI 2, dI 0, dI 1, dI 0, dI 0, dS (bchB (l.map saidE)), z1871_c, dI 0, dI 0, .d (dsl false false (k_api_Envelope false) (l.map saidE)), z1871_c, z1871_c]), (z1871_d x l m), (z1871_e m)]⟩
abbrev z1871_g : List HS := [(z1871_6 x), (z1871_7 x), (z1871_9 x l m), (z1871_a x l m), .dead, z1871_b, .dead, .live (.box 51 [dI 2, dI 0, dI 1, dI 0, dI 0, dS (bchB (l.map saidE)), .d (dsl false false kU8 ([] : List UInt8)), dI 0, dI 0, .d (dsl false false (k_api_Envelope false) (l.map saidE)), .d (dsl false false (k_api_Envelope false) ([] : List api_Envelope)), .d (dsl false false (k_api_Cert false) ([] : List api_Cert))]), (z1871_d x l m), (z1871_e m)]
abbrev z1871_h := (binM 0 1 (l.map saidE))
abbrev z1871_i : List SV := [dI (z1871_h l).f_Kind, dI (z1871_h l).f_View, dI (z1871_h l).f_Seq, dI (z1871_h l).f_Client, dI (z1871_h l).f_Stamp, dS (z1871_h l).f_Digest, .d (dsl false false kU8 (z1871_h l).f_Data), dI (z1871_h l).f_Result.f_Code, dI (z1871_h l).f_Result.f_Stage, .d (dsl false false (k_api_Envelope false) (z1871_h l).f_Batch), .d (dsl false false (k_api_Envelope false) (z1871_h l).f_Pres), .d (dsl false false (k_api_Cert false) (z1871_h l).f_Certs)]
abbrev z1871_j : List HS := [(z1871_6 x), (z1871_7 x), (z1871_9 x l m), (z1871_a x l m), .dead, z1871_b, .dead, .live (.box 51 (z1871_i l)), (z1871_d x l m), (z1871_e m)]
abbrev z1871_k : List HS := [(z1871_6 x), (z1871_7 x), (z1871_9 x l m), (z1871_a x l m), .dead, z1871_b, .dead, .live (.box 51 (z1871_i l)), (z1871_d x l m), .live (.box 51 [dI 2, dI 1, dI 2, dI 0, dI 0, dS (bchB (m.map saidE)), .d (dsl false false kU8 ([] : List UInt8)), dI 0, dI 0, .d (dsl false false (k_api_Envelope false) (m.map saidE)), .d (dsl false false (k_api_Envelope false) ([] : List api_Envelope)), .d (dsl false false (k_api_Cert false) ([] : List api_Cert))])]
abbrev z1871_l := (binM 1 2 (m.map saidE))
abbrev z1871_m : List SV := [dI (z1871_l m).f_Kind, dI (z1871_l m).f_View, dI (z1871_l m).f_Seq, dI (z1871_l m).f_Client, dI (z1871_l m).f_Stamp, dS (z1871_l m).f_Digest, .d (dsl false false kU8 (z1871_l m).f_Data), dI (z1871_l m).f_Result.f_Code, dI (z1871_l m).f_Result.f_Stage, .d (dsl false false (k_api_Envelope false) (z1871_l m).f_Batch), .d (dsl false false (k_api_Envelope false) (z1871_l m).f_Pres), .d (dsl false false (k_api_Cert false) (z1871_l m).f_Certs)]
abbrev z1871_n : List HS := [(z1871_6 x), (z1871_7 x), (z1871_9 x l m), (z1871_a x l m), .dead, z1871_b, .dead, .live (.box 51 (z1871_i l)), (z1871_d x l m), .live (.box 51 (z1871_m m))]
abbrev z1871_o := (quaestorlaw13_Word.mk (primaryA (fOf x.f_F) 0) true (z1871_h l))
abbrev z1871_p := (saidL (fOf x.f_F) (cOf x.f_Clients) (z1871_8 x l m) (z1871_o x l))
abbrev z1871_q := (ppV (checkE (fOf x.f_F) (cOf x.f_Clients) (tabM (z1871_p x l m))) (fOf x.f_F) (saidE (z1871_o x l)))
abbrev z1871_r := (quaestorlaw13_Word.mk (primaryA (fOf x.f_F) 1) true (z1871_l m))
end
theorem law_CertBinds (x : quaestorlaw03_Size) (l : List quaestorlaw13_Word) (m : List quaestorlaw13_Word) (hll : l.length ≤ 9223372036854775807) (hrl : ∀ w, w ∈ l → i64R w.f_Signer) (hml : ∀ w, w ∈ l → w.f_M.f_Batch.length ≤ 1000000000000000 ∧ w.f_M.f_Pres.length ≤ 1000000000000000) (hlm : m.length ≤ 9223372036854775807) (hrm : ∀ w, w ∈ m → i64R w.f_Signer) (hmm : ∀ w, w ∈ m → w.f_M.f_Batch.length ≤ 1000000000000000 ∧ w.f_M.f_Pres.length ≤ 1000000000000000) : Holds Try.prog 4 ⟨[.tv (.agg [dI x.f_F, dI x.f_Clients]), slV false false (k_quaestorlaw13_Word false) l, slV false false (k_quaestorlaw13_Word false) m], [], vB true, []⟩ := by
 refine Holds.of Try.func4 rfl (N := 103) Try.ntmps4 rfl fun w0 B0 S0 U0 => ?_
 show T _ (mkBase 103 0 w0 S0 U0 B0) ⟨[.tv (.agg (z1871_0 x)), (z1871_1 l), (z1871_2 m)], []⟩ _ _
 have hfx := fOf_ok x.f_F
 have hux := cOf_ok x.f_Clients
 refine sR [] ?_
 refine T.seq ?_
 by_cases hq1 : fewS l
 ·have hfl := hq1
  by_cases hq2 : fewS m
  ·have hfm := hq2
   by_cases hq3 : ((l.length : Nat) : Int) > 4
   ·refine sR [hR 1 rfl rfl (rCa (law_few l (by assumption) (by assumption)) Try.func7 [] [(.tmp 14, (z1871_1 l))] 0 0),
      hY 4 (congrArg Bool.not (decide_eq_true hq1)),
      hS 5 (oY rfl rfl rfl rfl (lt_of rfl) (congrArg Bool.not (decide_eq_true hq1)) (rCa (law_few m (by assumption) (by assumption)) Try.func7 [] [(.tmp 18, (z1871_2 m))] 0 0)),
      hY 6 (congrArg Bool.not (decide_eq_true hq1)),
      hP 7 (congrArg Bool.not (decide_eq_true hq1)),
      hY 9 (congrArg Bool.not (decide_eq_true hq2)),
      hY 10 (congrArg Bool.not (decide_eq_true hq2)),
      hY 11 (congrArg Bool.not (decide_eq_true hq2)),
      hP 12 (congrArg Bool.not (decide_eq_true hq2)),
      hN 14 false (decide_eq_true hq3),
      hN 15 false (decide_eq_true hq3),
      hN 16 false (decide_eq_true hq3),
      hP 17 (decide_eq_true hq3)] ?_
    refine cT (b := true) rfl ?_
    refine sR [hR 0 rfl rfl (rCa (law_awake  ) Try.func14 [] [] 0 0)] ?_
    refine T.ret (rT ?_)
    exact eRt 6 (z1871_3) [] rfl trivial
   refine sR [hR 1 rfl rfl (rCa (law_few l (by assumption) (by assumption)) Try.func7 [] [(.tmp 14, (z1871_1 l))] 0 0),
     hY 4 (congrArg Bool.not (decide_eq_true hq1)),
     hS 5 (oY rfl rfl rfl rfl (lt_of rfl) (congrArg Bool.not (decide_eq_true hq1)) (rCa (law_few m (by assumption) (by assumption)) Try.func7 [] [(.tmp 18, (z1871_2 m))] 0 0)),
     hY 6 (congrArg Bool.not (decide_eq_true hq1)),
     hP 7 (congrArg Bool.not (decide_eq_true hq1)),
     hY 9 (congrArg Bool.not (decide_eq_true hq2)),
     hY 10 (congrArg Bool.not (decide_eq_true hq2)),
     hY 11 (congrArg Bool.not (decide_eq_true hq2)),
     hP 12 (congrArg Bool.not (decide_eq_true hq2)),
     hY 14 (decide_eq_false hq3),
     hY 15 (decide_eq_false hq3),
     hY 16 (decide_eq_false hq3),
     hP 17 (decide_eq_false hq3)] ?_
   by_cases hq4 : ((m.length : Nat) : Int) > 4
   ·refine cT (decide_eq_true hq4) ?_
    refine sR [hR 0 rfl rfl (rCa (law_awake  ) Try.func14 [] [] 0 0)] ?_
    refine T.ret (rT ?_)
    exact eRt 6 (z1871_3) [] rfl trivial
   have hgl := few_good hfl hrl; have hgm := few_good hfm hrm; have hil : (l.map saidE).length ≤ 4 ∧ _ := ⟨(by rw [List.length_map]; omega), said_ok hfl hrl⟩; have him : (m.map saidE).length ≤ 4 ∧ _ := ⟨(by rw [List.length_map]; omega), said_ok hfm hrm⟩; have hbl1 := (bin_len (v := 0) (s := 1) hil).2; have hbl2 := (bin_len (v := 1) (s := 2) him).2; have hev1 : (envsB (l.map saidE)).length ≤ 1000000000 := (by have h9 := envs_le fun e he => (hil.2 e he).2; have h8 := hil.1; have h7 := Nat.mul_le_mul_right (12 + 30000) h8; omega); have hev2 : (envsB (m.map saidE)).length ≤ 1000000000 := (by have h9 := envs_le fun e he => (him.2 e he).2; have h8 := him.1; have h7 := Nat.mul_le_mul_right (12 + 30000) h8; omega); have hsl1 := say_len (fOf x.f_F) (cOf x.f_Clients) [] l l.length; have hsl2 := say_len (fOf x.f_F) (cOf x.f_Clients) (sayL (fOf x.f_F) (cOf x.f_Clients) [] l l.length) m m.length; simp only [List.length_nil] at hsl1; have hsb1 := enc_fit hbl1; have hsb2 := enc_fit hbl2
   refine cF (decide_eq_false hq4) ?_
   refine T.skip (nT ?_)
   refine sR [hR 1 rfl rfl (rCa (law_begun x ) Try.func8 [1, 2, 3, 4] [(.tmp 33, .tv (.agg (z1871_0 x)))] 0 4)] ?_
   refine sR [hR 2 rfl rfl (rCa (law_all (fOf x.f_F) (cOf x.f_Clients) ([] : List (authn_pair × Bool)) ([] : List api_Envelope) l (by assumption) (by assumption) (by rfl) (by (simp [maxLen, -List.getD_eq_getElem?_getD] <;> omega)) (by omega) (by assumption)) Try.func9 [1, 2, 3, 4, 6] [(.tmp 35, z1871_4), (.tmp 36, (z1871_1 l))] 4 5)] ?_
   refine sR [hR 2 rfl rfl (rCa (law_all (fOf x.f_F) (cOf x.f_Clients) (tabM (sayL (fOf x.f_F) (cOf x.f_Clients) ([] : List api_Envelope) l l.length)) (sayL (fOf x.f_F) (cOf x.f_Clients) ([] : List api_Envelope) l l.length) m (by assumption) (by assumption) (by rfl) (by omega) (by omega) (by assumption)) Try.func9 [1, 2, 3, 6, 8] [(.tmp 39, z1871_4), (.tmp 40, (z1871_2 m))] 4 5)] ?_
   refine sR [hR 2 rfl rfl (rCa (ref12_Batch false false false (l.map saidE) (by assumption)) Try.func15 [] [(.tmp 44, slV false false (k_api_Envelope false) (l.map saidE))] 0 0)] ?_
   refine sR [hR 2 rfl rfl (rCa (ref12_Batch false false false (m.map saidE) (by assumption)) Try.func15 [] [(.tmp 48, slV false false (k_api_Envelope false) (m.map saidE))] 0 0)] ?_
   refine T.turn (s' := (z1871_f x l m)) (fun _ _ hG => Gs.norm (by kernel_rfl) hG) ?_
   refine T.turn (s' := ⟨(z1871_5 x l m), (z1871_g x l m)⟩) (fun _ _ hG => Gs.less (s := (z1871_f x l m)) (kk32 trivial) ⟨.inl rfl, (kk2 (kk4 ⟨(.inr ⟨rfl, (kk2 (kk4 ⟨(.inr ⟨rfl, rfl, rfl⟩), ⟨.inl rfl, (kk2 ⟨(.inr ⟨rfl, rfl, rfl⟩), ⟨(.inr ⟨rfl, rfl, rfl⟩), trivial⟩⟩)⟩⟩))⟩), (kk2 trivial)⟩))⟩ hG) ?_
   refine T.turn (s' := ⟨(z1871_5 x l m), (z1871_j x l m)⟩) (fun _ _ hG => Gs.i2 [0, 1, 2, 3, 15, 5, 22, 7, 8, 9] (bm 32 2147484623) (h1 := (z1871_j x l m)) (h2 := (z1871_g x l m)) (t1 := (z1871_5 x l m)) rfl (cg12 (fun (q1 : Int) (q2 : Int) (q3 : Int) (q4 : Int) (q5 : Int) (q6 : List UInt8) (q7 : List UInt8) (q8 : Int) (q9 : Int) (q10 : List api_Envelope) (q11 : List api_Envelope) (q12 : List api_Cert) => ([(z1871_6 x), (z1871_7 x), (z1871_9 x l m), (z1871_a x l m), .dead, z1871_b, .dead, .live (.box 51 [dI q1, dI q2, dI q3, dI q4, dI q5, dS q6, .d (dsl false false kU8 q7), dI q8, dI q9, .d (dsl false false (k_api_Envelope false) q10), .d (dsl false false (k_api_Envelope false) q11), .d (dsl false false (k_api_Cert false) q12)]), (z1871_d x l m), (z1871_e m)] : List HS)) (by rfl) (by rfl) (by rfl) (by rfl) (by rfl) (by rfl) (by rfl) (by rfl) (by rfl) (by rfl) (by rfl) (by rfl)) hG) ?_
   refine T.turn (s' := ⟨(z1871_5 x l m), (z1871_k x l m)⟩) (fun _ _ hG => Gs.less (s := ⟨(z1871_5 x l m), (z1871_j x l m)⟩) (kk32 trivial) ⟨.inl rfl, (kk8 ⟨(.inr ⟨rfl, (kk2 (kk4 ⟨(.inr ⟨rfl, rfl, rfl⟩), ⟨.inl rfl, (kk2 ⟨(.inr ⟨rfl, rfl, rfl⟩), ⟨(.inr ⟨rfl, rfl, rfl⟩), trivial⟩⟩)⟩⟩))⟩), trivial⟩)⟩ hG) ?_
   refine T.turn (s' := ⟨(z1871_5 x l m), (z1871_n x l m)⟩) (fun _ _ hG => Gs.i2 [0, 1, 2, 3, 15, 5, 22, 7, 8, 9] (bm 32 2147484623) (h1 := (z1871_n x l m)) (h2 := (z1871_k x l m)) (t1 := (z1871_5 x l m)) rfl (cg12 (fun (q1 : Int) (q2 : Int) (q3 : Int) (q4 : Int) (q5 : Int) (q6 : List UInt8) (q7 : List UInt8) (q8 : Int) (q9 : Int) (q10 : List api_Envelope) (q11 : List api_Envelope) (q12 : List api_Cert) => ([(z1871_6 x), (z1871_7 x), (z1871_9 x l m), (z1871_a x l m), .dead, z1871_b, .dead, .live (.box 51 (z1871_i l)), (z1871_d x l m), .live (.box 51 [dI q1, dI q2, dI q3, dI q4, dI q5, dS q6, .d (dsl false false kU8 q7), dI q8, dI q9, .d (dsl false false (k_api_Envelope false) q10), .d (dsl false false (k_api_Envelope false) q11), .d (dsl false false (k_api_Cert false) q12)])] : List HS)) (by rfl) (by rfl) (by rfl) (by rfl) (by rfl) (by rfl) (by rfl) (by rfl) (by rfl) (by rfl) (by rfl) (by rfl)) hG) ?_
   have hok := bin_okM (v := 0) (s := 1) hil; have hpr := pri_rng (f := (fOf x.f_F)) hfx 0; have hsl3 := said_len (fOf x.f_F) (cOf x.f_Clients) (sayL (fOf x.f_F) (cOf x.f_Clients) (sayL (fOf x.f_F) (cOf x.f_Clients) [] l l.length) m m.length) (quaestorlaw13_Word.mk (primaryA (fOf x.f_F) 0) true (binM 0 1 (l.map saidE)))
   refine sD [[], [0], [], [], [3], [3, 4], [], [2, 3, 4, 5, 6], [0, 1, 2, 3, 4, 5, 6, 7], [0, 1, 2, 3, 4, 5, 6, 7, 8], [0, 1, 2, 3, 4, 5, 6, 7, 8, 9], [0, 1, 2, 3, 4, 5, 6, 7, 8, 9], [], [0, 1, 2, 3, 4, 5, 6, 7, 8, 9, 10, 12], [0, 1, 2, 3, 4, 5, 6, 7, 8, 9, 10, 11, 12, 13]] [hR 5 rfl rfl (rCa (ref03_Primary (fOf x.f_F) (cOf x.f_Clients) (sayL (fOf x.f_F) (cOf x.f_Clients) (sayL (fOf x.f_F) (cOf x.f_Clients) ([] : List api_Envelope) l l.length) m m.length) 0 (by assumption) (by assumption)) Try.func18 [3, 8] [(.tmp 56, pv 3 0), (.const (.int .i64 0), vI 0)] 2 2),
     hR 7 rfl rfl (rCa (law_sign (fOf x.f_F) (cOf x.f_Clients) (tabM (sayL (fOf x.f_F) (cOf x.f_Clients) (sayL (fOf x.f_F) (cOf x.f_Clients) ([] : List api_Envelope) l l.length) m m.length)) (sayL (fOf x.f_F) (cOf x.f_Clients) (sayL (fOf x.f_F) (cOf x.f_Clients) ([] : List api_Envelope) l l.length) m m.length) (primaryA (fOf x.f_F) 0) false (binM 0 1 (l.map saidE)) (by assumption) (by assumption) (by rfl) (by omega) (by assumption) (by assumption)) Try.func17 [1, 2, 3, 8, 10] [(.tmp 54, z1871_4), (.tmp 57, vI (primaryA (fOf x.f_F) 0)), (.tmp 58, .tv (.agg (z1871_i l)))] 4 5),
     hR 8 rfl rfl (rCa (cert_PrePrepare (fOf x.f_F) (cOf x.f_Clients) (tabM (saidL (fOf x.f_F) (cOf x.f_Clients) (sayL (fOf x.f_F) (cOf x.f_Clients) (sayL (fOf x.f_F) (cOf x.f_Clients) ([] : List api_Envelope) l l.length) m m.length) (quaestorlaw13_Word.mk (primaryA (fOf x.f_F) 0) true (binM 0 1 (l.map saidE))))) false (saidE (quaestorlaw13_Word.mk (primaryA (fOf x.f_F) 0) true (binM 0 1 (l.map saidE)))) (by assumption) (by assumption) (by assumption) (by assumption)) Try.func16 [1, 2] [(.tmp 53, pv 1 0), (.tmp 59, .tv (.agg [dI (saidE (z1871_o x l)).f_Signer, .d (dsl false false kU8 (saidE (z1871_o x l)).f_Body)]))] 2 2)] ?_
   refine T.turn (s' := ⟨[.tv (.agg (z1871_0 x)), (z1871_1 l), (z1871_2 m), pv 0 0, aa, aa, vB false, pv 5 0, pv 7 0, pv 9 0, pv 11 0, vI (ppE (checkE (fOf x.f_F) (cOf x.f_Clients) (tabM (z1871_p x l m))) (fOf x.f_F) (saidE (z1871_o x l))), aa, aa, aa, aa, aa, aa, aa, aa, aa, aa, aa, aa, aa, aa, aa, aa, aa, aa, aa, vB (decide (((m.length : Nat) : Int) > 4))], [(z1871_6 x), (z1871_7 x), .live (mpK f_authn_pair kBool (tabM (z1871_p x l m))), .live (.box 83 [dB true, dI (fOf x.f_F), dI (cOf x.f_Clients), .own 10 (k_api_Envelope false).sz 0 (z1871_p x l m).length]), .dead, z1871_b, .dead, .live (.box 51 (z1871_i l)), .dead, .live (.box 51 (z1871_m m)), .live (arrK 40 (k_api_Envelope false) (z1871_p x l m)), .live (.box 51 [dI (z1871_q x l m).f_Kind, dI (z1871_q x l m).f_View, dI (z1871_q x l m).f_Seq, dI (z1871_q x l m).f_Client, dI (z1871_q x l m).f_Stamp, dS (z1871_q x l m).f_Digest, .d (dsl false false kU8 (z1871_q x l m).f_Data), dI (z1871_q x l m).f_Result.f_Code, dI (z1871_q x l m).f_Result.f_Stage, .d (dsl false false (k_api_Envelope false) (z1871_q x l m).f_Batch), .d (dsl false false (k_api_Envelope false) (z1871_q x l m).f_Pres), .d (dsl false false (k_api_Cert false) (z1871_q x l m).f_Certs)])]⟩) (fun _ _ hG => Gs.norm (by kernel_rfl) hG) ?_
   replace hok := bin_okM (v := 1) (s := 2) him; replace hpr := pri_rng (f := (fOf x.f_F)) hfx 1
   refine sD [[], [0], [], [], [3], [3, 4], [], [2, 3, 4, 5, 6], [0, 1, 2, 3, 4, 5, 6, 7], [0, 1, 2, 3, 4, 5, 6, 7, 8], [0, 1, 2, 3, 4, 5, 6, 7, 8, 9], [0, 1, 2, 3, 4, 5, 6, 7, 8, 9], [], [0, 1, 2, 3, 4, 5, 6, 7, 8, 9, 10, 12], [0, 1, 2, 3, 4, 5, 6, 7, 8, 9, 10, 11, 12, 13]] [hR 5 rfl rfl (rCa (ref03_Primary (fOf x.f_F) (cOf x.f_Clients) (saidL (fOf x.f_F) (cOf x.f_Clients) (sayL (fOf x.f_F) (cOf x.f_Clients) (sayL (fOf x.f_F) (cOf x.f_Clients) ([] : List api_Envelope) l l.length) m m.length) (quaestorlaw13_Word.mk (primaryA (fOf x.f_F) 0) true (binM 0 1 (l.map saidE)))) 1 (by assumption) (by assumption)) Try.func18 [3, 10] [(.tmp 68, pv 3 0), (.const (.int .i64 1), vI 1)] 2 2),
     hR 7 rfl rfl (rCa (law_sign (fOf x.f_F) (cOf x.f_Clients) (tabM (saidL (fOf x.f_F) (cOf x.f_Clients) (sayL (fOf x.f_F) (cOf x.f_Clients) (sayL (fOf x.f_F) (cOf x.f_Clients) ([] : List api_Envelope) l l.length) m m.length) (quaestorlaw13_Word.mk (primaryA (fOf x.f_F) 0) true (binM 0 1 (l.map saidE))))) (saidL (fOf x.f_F) (cOf x.f_Clients) (sayL (fOf x.f_F) (cOf x.f_Clients) (sayL (fOf x.f_F) (cOf x.f_Clients) ([] : List api_Envelope) l l.length) m m.length) (quaestorlaw13_Word.mk (primaryA (fOf x.f_F) 0) true (binM 0 1 (l.map saidE)))) (primaryA (fOf x.f_F) 1) false (binM 1 2 (m.map saidE)) (by assumption) (by assumption) (by rfl) (by omega) (by assumption) (by assumption)) Try.func17 [1, 2, 3, 10, 12] [(.tmp 66, z1871_4), (.tmp 69, vI (primaryA (fOf x.f_F) 1)), (.tmp 70, .tv (.agg (z1871_m m)))] 4 5),
     hR 8 rfl rfl (rCa (cert_PrePrepare (fOf x.f_F) (cOf x.f_Clients) (tabM (saidL (fOf x.f_F) (cOf x.f_Clients) (saidL (fOf x.f_F) (cOf x.f_Clients) (sayL (fOf x.f_F) (cOf x.f_Clients) (sayL (fOf x.f_F) (cOf x.f_Clients) ([] : List api_Envelope) l l.length) m m.length) (quaestorlaw13_Word.mk (primaryA (fOf x.f_F) 0) true (binM 0 1 (l.map saidE)))) (quaestorlaw13_Word.mk (primaryA (fOf x.f_F) 1) true (binM 1 2 (m.map saidE))))) false (saidE (quaestorlaw13_Word.mk (primaryA (fOf x.f_F) 1) true (binM 1 2 (m.map saidE)))) (by assumption) (by assumption) (by assumption) (by assumption)) Try.func16 [1, 2] [(.tmp 65, pv 1 0), (.tmp 71, .tv (.agg [dI (saidE (z1871_r x m)).f_Signer, .d (dsl false false kU8 (saidE (z1871_r x m)).f_Body)]))] 2 2)] ?_
   refine T.seq ?_
   by_cases hq5 : (ppE (checkE (fOf x.f_F) (cOf x.f_Clients) (tabM (saidL (fOf x.f_F) (cOf x.f_Clients) (sayL (fOf x.f_F) (cOf x.f_Clients) (sayL (fOf x.f_F) (cOf x.f_Clients) ([] : List api_Envelope) l l.length) m m.length) (quaestorlaw13_Word.mk (primaryA (fOf x.f_F) 0) true (binM 0 1 (l.map saidE)))))) (fOf x.f_F) (saidE (quaestorlaw13_Word.mk (primaryA (fOf x.f_F) 0) true (binM 0 1 (l.map saidE))))) ≠ 0
   ·refine sR [hN 3 false (decide_eq_true hq5),
      hN 4 false (decide_eq_true hq5),
      hP 5 (decide_eq_true hq5)] ?_
    refine cT (b := true) rfl ?_
    refine sR [hR 0 rfl rfl (rCa (law_awake  ) Try.func14 [] [] 0 0)] ?_
    refine T.ret (rT ?_)
    exact eRt 6 (z1871_3) [] rfl trivial
   have hpp1 := hq5; have hpf1 := bin_few hil hq5
   refine sR [hY 3 (decide_eq_false hq5),
     hY 4 (decide_eq_false hq5),
     hP 5 (decide_eq_false hq5)] ?_
   by_cases hq6 : (ppE (checkE (fOf x.f_F) (cOf x.f_Clients) (tabM (saidL (fOf x.f_F) (cOf x.f_Clients) (saidL (fOf x.f_F) (cOf x.f_Clients) (sayL (fOf x.f_F) (cOf x.f_Clients) (sayL (fOf x.f_F) (cOf x.f_Clients) ([] : List api_Envelope) l l.length) m m.length) (quaestorlaw13_Word.mk (primaryA (fOf x.f_F) 0) true (binM 0 1 (l.map saidE)))) (quaestorlaw13_Word.mk (primaryA (fOf x.f_F) 1) true (binM 1 2 (m.map saidE)))))) (fOf x.f_F) (saidE (quaestorlaw13_Word.mk (primaryA (fOf x.f_F) 1) true (binM 1 2 (m.map saidE))))) ≠ 0
   ·refine cT (decide_eq_true hq6) ?_
    refine sR [hR 0 rfl rfl (rCa (law_awake  ) Try.func14 [] [] 0 0)] ?_
    refine T.ret (rT ?_)
    exact eRt 6 (z1871_3) [] rfl trivial
   have hpp2 := hq6; have hpf2 := bin_few him hq6
   refine cF (decide_eq_false hq6) ?_
   refine T.skip (nT ?_)
   by_cases hq7 : (decide ((ppV (checkE (fOf x.f_F) (cOf x.f_Clients) (tabM (saidL (fOf x.f_F) (cOf x.f_Clients) (sayL (fOf x.f_F) (cOf x.f_Clients) (sayL (fOf x.f_F) (cOf x.f_Clients) ([] : List api_Envelope) l l.length) m m.length) (quaestorlaw13_Word.mk (primaryA (fOf x.f_F) 0) true (binM 0 1 (l.map saidE)))))) (fOf x.f_F) (saidE (quaestorlaw13_Word.mk (primaryA (fOf x.f_F) 0) true (binM 0 1 (l.map saidE))))).f_Digest = (ppV (checkE (fOf x.f_F) (cOf x.f_Clients) (tabM (saidL (fOf x.f_F) (cOf x.f_Clients) (saidL (fOf x.f_F) (cOf x.f_Clients) (sayL (fOf x.f_F) (cOf x.f_Clients) (sayL (fOf x.f_F) (cOf x.f_Clients) ([] : List api_Envelope) l l.length) m m.length) (quaestorlaw13_Word.mk (primaryA (fOf x.f_F) 0) true (binM 0 1 (l.map saidE)))) (quaestorlaw13_Word.mk (primaryA (fOf x.f_F) 1) true (binM 1 2 (m.map saidE)))))) (fOf x.f_F) (saidE (quaestorlaw13_Word.mk (primaryA (fOf x.f_F) 1) true (binM 1 2 (m.map saidE))))).f_Digest)) = (decide ((ppV (checkE (fOf x.f_F) (cOf x.f_Clients) (tabM (saidL (fOf x.f_F) (cOf x.f_Clients) (sayL (fOf x.f_F) (cOf x.f_Clients) (sayL (fOf x.f_F) (cOf x.f_Clients) ([] : List api_Envelope) l l.length) m m.length) (quaestorlaw13_Word.mk (primaryA (fOf x.f_F) 0) true (binM 0 1 (l.map saidE)))))) (fOf x.f_F) (saidE (quaestorlaw13_Word.mk (primaryA (fOf x.f_F) 0) true (binM 0 1 (l.map saidE))))).f_Batch = (ppV (checkE (fOf x.f_F) (cOf x.f_Clients) (tabM (saidL (fOf x.f_F) (cOf x.f_Clients) (saidL (fOf x.f_F) (cOf x.f_Clients) (sayL (fOf x.f_F) (cOf x.f_Clients) (sayL (fOf x.f_F) (cOf x.f_Clients) ([] : List api_Envelope) l l.length) m m.length) (quaestorlaw13_Word.mk (primaryA (fOf x.f_F) 0) true (binM 0 1 (l.map saidE)))) (quaestorlaw13_Word.mk (primaryA (fOf x.f_F) 1) true (binM 1 2 (m.map saidE)))))) (fOf x.f_F) (saidE (quaestorlaw13_Word.mk (primaryA (fOf x.f_F) 1) true (binM 1 2 (m.map saidE))))).f_Batch))
   ·by_cases hq8 : (ppV (checkE (fOf x.f_F) (cOf x.f_Clients) (tabM (saidL (fOf x.f_F) (cOf x.f_Clients) (sayL (fOf x.f_F) (cOf x.f_Clients) (sayL (fOf x.f_F) (cOf x.f_Clients) ([] : List api_Envelope) l l.length) m m.length) (quaestorlaw13_Word.mk (primaryA (fOf x.f_F) 0) true (binM 0 1 (l.map saidE)))))) (fOf x.f_F) (saidE (quaestorlaw13_Word.mk (primaryA (fOf x.f_F) 0) true (binM 0 1 (l.map saidE))))).f_Batch = (binM 0 1 (l.map saidE)).f_Batch
    ·refine sD [[], [0], [], [2], [0, 1, 2, 3], [], [5], [], [7], [5, 6, 7, 8], [0, 1, 2, 3, 4, 5, 6, 7, 8, 9], [0, 1, 2, 3, 4, 5, 6, 7, 8, 9, 10], [0, 1, 2, 3, 4, 5, 6, 7, 8, 9, 10, 11], [0, 1, 2, 3, 4, 5, 6, 7, 8, 9, 10, 11, 12], [0, 1, 2, 3, 4, 5, 6, 7, 8, 9, 10, 11], [0, 1, 2, 3, 4, 5, 6, 7, 8, 9, 10, 11, 14], [0, 1, 2, 3, 4, 5, 6, 7, 8, 9, 10, 11, 12, 13, 14, 15], [0, 1, 2, 3, 4, 5, 6, 7, 8, 9, 10, 11, 12, 13, 14, 15, 16], [0, 1, 2, 3, 4, 5, 6, 7, 8, 9, 10, 11, 12, 13, 14, 15, 16, 17], [0, 1, 2, 3, 4, 5, 6, 7, 8, 9, 10, 11, 12, 13, 14, 15, 16, 17, 18], [0, 1, 2, 3, 4, 5, 6, 7, 8, 9, 10, 11, 12, 13, 14, 15, 16, 17, 18, 19], [0, 1, 2, 3, 4, 5, 6, 7, 8, 9, 10, 11, 12, 13, 14, 15, 16, 17, 18, 19, 20]] [hR 9 rfl rfl (rCa (ref03_All false false false false false false (ppV (checkE (fOf x.f_F) (cOf x.f_Clients) (tabM (saidL (fOf x.f_F) (cOf x.f_Clients) (sayL (fOf x.f_F) (cOf x.f_Clients) (sayL (fOf x.f_F) (cOf x.f_Clients) ([] : List api_Envelope) l l.length) m m.length) (quaestorlaw13_Word.mk (primaryA (fOf x.f_F) 0) true (binM 0 1 (l.map saidE)))))) (fOf x.f_F) (saidE (quaestorlaw13_Word.mk (primaryA (fOf x.f_F) 0) true (binM 0 1 (l.map saidE))))).f_Batch (ppV (checkE (fOf x.f_F) (cOf x.f_Clients) (tabM (saidL (fOf x.f_F) (cOf x.f_Clients) (saidL (fOf x.f_F) (cOf x.f_Clients) (sayL (fOf x.f_F) (cOf x.f_Clients) (sayL (fOf x.f_F) (cOf x.f_Clients) ([] : List api_Envelope) l l.length) m m.length) (quaestorlaw13_Word.mk (primaryA (fOf x.f_F) 0) true (binM 0 1 (l.map saidE)))) (quaestorlaw13_Word.mk (primaryA (fOf x.f_F) 1) true (binM 1 2 (m.map saidE)))))) (fOf x.f_F) (saidE (quaestorlaw13_Word.mk (primaryA (fOf x.f_F) 1) true (binM 1 2 (m.map saidE))))).f_Batch (by assumption)) Try.func19 [] [(.tmp 88, slV false false (k_api_Envelope false) (z1871_q x l m).f_Batch), (.tmp 90, slV false false (k_api_Envelope false) (ppV (checkE (fOf x.f_F) (cOf x.f_Clients) (tabM (saidL (fOf x.f_F) (cOf x.f_Clients) (z1871_p x l m) (z1871_r x m)))) (fOf x.f_F) (saidE (z1871_r x m))).f_Batch)] 0 0),
       hY 12 (decide_eq_true hq7),
       hY 13 (decide_eq_true hq7),
       hY 14 (decide_eq_true hq7),
       hY 15 (decide_eq_true hq7),
       hS 16 (oY rfl rfl rfl rfl (lt_of rfl) (decide_eq_true hq7) (rCa (ref03_All false false false false false false (ppV (checkE (fOf x.f_F) (cOf x.f_Clients) (tabM (saidL (fOf x.f_F) (cOf x.f_Clients) (sayL (fOf x.f_F) (cOf x.f_Clients) (sayL (fOf x.f_F) (cOf x.f_Clients) ([] : List api_Envelope) l l.length) m m.length) (quaestorlaw13_Word.mk (primaryA (fOf x.f_F) 0) true (binM 0 1 (l.map saidE)))))) (fOf x.f_F) (saidE (quaestorlaw13_Word.mk (primaryA (fOf x.f_F) 0) true (binM 0 1 (l.map saidE))))).f_Batch (binM 0 1 (l.map saidE)).f_Batch (by assumption)) Try.func19 [] [(.tmp 95, slV false false (k_api_Envelope false) (z1871_q x l m).f_Batch), (.tmp 97, slV false false (k_api_Envelope false) (z1871_h l).f_Batch)] 0 0)),
       hP 17 (decide_eq_true hq7),
       hS 19 (oY rfl rfl rfl rfl (lt_of rfl) (decide_eq_true hq8) (rCa (law_awake  ) Try.func14 [] [] 0 0)),
       hP 20 (decide_eq_true hq8)] ?_
     refine T.ret ?_
     exact eRt 6 (z1871_3) [] rfl trivial
    exact absurd (binds hil him hpp1 hpp2).2 hq8
   exact absurd (binds hil him hpp1 hpp2).1 hq7
  refine sR [hR 1 rfl rfl (rCa (law_few l (by assumption) (by assumption)) Try.func7 [] [(.tmp 14, (z1871_1 l))] 0 0),
    hY 4 (congrArg Bool.not (decide_eq_true hq1)),
    hS 5 (oY rfl rfl rfl rfl (lt_of rfl) (congrArg Bool.not (decide_eq_true hq1)) (rCa (law_few m (by assumption) (by assumption)) Try.func7 [] [(.tmp 18, (z1871_2 m))] 0 0)),
    hY 6 (congrArg Bool.not (decide_eq_true hq1)),
    hP 7 (congrArg Bool.not (decide_eq_true hq1)),
    hN 9 false (congrArg Bool.not (decide_eq_false hq2)),
    hN 10 false (congrArg Bool.not (decide_eq_false hq2)),
    hN 11 false (congrArg Bool.not (decide_eq_false hq2)),
    hP 12 (congrArg Bool.not (decide_eq_false hq2)),
    hN 14 (b := true) false rfl,
    hN 15 (b := true) false rfl,
    hN 16 (b := true) false rfl,
    hP 17 (b := true) (w := true) rfl] ?_
  refine cT (b := true) rfl ?_
  refine sR [hR 0 rfl rfl (rCa (law_awake  ) Try.func14 [] [] 0 0)] ?_
  refine T.ret (rT ?_)
  exact eRt 6 (z1871_3) [] rfl trivial
 refine sR [hR 1 rfl rfl (rCa (law_few l (by assumption) (by assumption)) Try.func7 [] [(.tmp 14, (z1871_1 l))] 0 0),
   hN 4 false (congrArg Bool.not (decide_eq_false hq1)),
   hN 5 false (congrArg Bool.not (decide_eq_false hq1)),
   hN 6 false (congrArg Bool.not (decide_eq_false hq1)),
   hP 7 (congrArg Bool.not (decide_eq_false hq1)),
   hN 9 (b := true) false rfl,
   hN 10 (b := true) false rfl,
   hN 11 (b := true) false rfl,
   hP 12 (b := true) (w := true) rfl,
   hN 14 (b := true) false rfl,
   hN 15 (b := true) false rfl,
   hN 16 (b := true) false rfl,
   hP 17 (b := true) (w := true) rfl] ?_
 refine cT (b := true) rfl ?_
 refine sR [hR 0 rfl rfl (rCa (law_awake  ) Try.func14 [] [] 0 0)] ?_
 refine T.ret (rT ?_)
 exact eRt 6 (z1871_3) [] rfl trivial
end Go.Proofs.Ytalapplihdmenaa.Q
