import Derived.Test.YtalapplihdmenaaC13n8
namespace Go.Proofs.Ytalapplihdmenaa.Q
open Go Go.RowKit
set_option linter.unusedVariables false
set_option linter.unusedSimpArgs false
set_option maxRecDepth 100000
set_option maxHeartbeats 4000000
section
variable (tm : Bool) (m : api_Message) (h : quaestorref12_Has) (k : Nat)
abbrev z6efe_0 : List SV := [dI m.f_Kind, dI m.f_View, dI m.f_Seq, dI m.f_Client, dI m.f_Stamp, dS m.f_Digest, .d (dsl tm false kU8 m.f_Data), dI m.f_Result.f_Code, dI m.f_Result.f_Stage, .d (dsl tm false (k_api_Envelope tm) m.f_Batch), .d (dsl tm false (k_api_Envelope tm) m.f_Pres), .d (dsl tm false (k_api_Cert tm) m.f_Certs)]
abbrev z6efe_1 : AV := .tv (.agg (z6efe_0 tm m))
abbrev z6efe_2 : List SV := [dB h.f_View, dB h.f_Seq, dB h.f_Client, dB h.f_Digest, dB h.f_Data, dB h.f_Result, dB h.f_Batch, dB h.f_Pres, dB h.f_Certs]
abbrev z6efe_3 : AV := .tv (.agg (z6efe_2 h))
abbrev z6efe_4 : List AV := [(z6efe_1 tm m), (z6efe_3 h), pv 0 0, pv 1 0, vB false, vI (if h.f_Batch = true then 7 else 0), aa, aa, aa, vB h.f_Batch]
abbrev z6efe_5 : List HS := [.live (.box 51 (z6efe_0 tm m)), .live (.box 109 (z6efe_2 h))]
abbrev z6efe_6 : List AV := [(z6efe_1 tm m), (z6efe_3 h), pv 0 0, pv 1 0, vB false, vI 7, aa, aa, aa, vB h.f_Batch]
abbrev z6efe_7 : List AV := [(z6efe_1 tm m), (z6efe_3 h), pv 0 0, pv 1 0, vB false, vI 0, aa, aa, aa, vB h.f_Batch]
abbrev z6efe_8 : AV := vI (maxB m.f_Kind h)
abbrev z6efe_9 : AV := vB (decide (m.f_Kind = 2))
abbrev z6efe_a : List AV := [(z6efe_1 tm m), (z6efe_3 h), pv 0 0, pv 1 0, vB false, (z6efe_8 m h), aa, aa, aa, vB h.f_Batch, aa, aa, (z6efe_9 m)]
abbrev z6efe_b : List AV := [(z6efe_1 tm m), (z6efe_3 h), pv 0 0, pv 1 0, vB false, vI 4, aa, aa, aa, vB h.f_Batch, aa, aa, (z6efe_9 m)]
abbrev z6efe_c : List AV := [(z6efe_1 tm m), (z6efe_3 h), pv 0 0, pv 1 0, vB false, vI (if h.f_Batch = true then 7 else 0), aa, aa, aa, vB h.f_Batch, aa, aa, (z6efe_9 m)]
abbrev z6efe_d : List AV := [(z6efe_1 tm m), (z6efe_3 h), pv 0 0, pv 1 0, vB false, (z6efe_8 m h), vI (maxP h), aa, aa, vB h.f_Batch, aa, aa, (z6efe_9 m), aa, vB h.f_Pres]
abbrev z6efe_e : List AV := [(z6efe_1 tm m), (z6efe_3 h), pv 0 0, pv 1 0, vB false, (z6efe_8 m h), vI 8, aa, aa, vB h.f_Batch, aa, aa, (z6efe_9 m), aa, vB h.f_Pres]
abbrev z6efe_f : List AV := [(z6efe_1 tm m), (z6efe_3 h), pv 0 0, pv 1 0, vB false, (z6efe_8 m h), vI 0, aa, aa, vB h.f_Batch, aa, aa, (z6efe_9 m), aa, vB h.f_Pres]
abbrev z6efe_g : TV := .one (dB false)
abbrev z6efe_h : AV := vB (decide (((m.f_Pres.length : Nat) : Int) > (maxP h)))
abbrev z6efe_i : AV := vB (decide (((m.f_Certs.length : Nat) : Int) > 8))
abbrev z6efe_j : St := ⟨[(z6efe_1 tm m), (z6efe_3 h), pv 0 0, pv 1 0, vB false, (z6efe_8 m h), vI (maxP h), vI ((k : Nat) : Int), aa, vB h.f_Batch, aa, aa, (z6efe_9 m), aa, vB h.f_Pres, aa, aa, aa, aa, aa, aa, aa, aa, aa, aa, aa, (z6efe_h m h), aa, aa, aa, aa, aa, aa, aa, aa, aa, aa, aa, aa, aa, aa, aa, aa, aa, aa, aa, aa, aa, aa, aa, aa, aa, (z6efe_i m)], (z6efe_5 tm m h)⟩
abbrev z6efe_m : TV := .one (dB true)
abbrev z6efe_n : AV := vB (decide (((m.f_Certs.length : Nat) : Int) > 0))
end
theorem ref12_counts (tm : Bool) (m : api_Message) (h : quaestorref12_Has) (hq : m.f_Batch.length ≤ 9223372036854775807) (hr : m.f_Pres.length ≤ 9223372036854775807) (hc : m.f_Certs.length ≤ 9223372036854775807) : Holds Try.prog 88 ⟨[.tv (.agg [dI m.f_Kind, dI m.f_View, dI m.f_Seq, dI m.f_Client, dI m.f_Stamp, dS m.f_Digest, .d (dsl tm false kU8 m.f_Data), dI m.f_Result.f_Code, dI m.f_Result.f_Stage, .d (dsl tm false (k_api_Envelope tm) m.f_Batch), .d (dsl tm false (k_api_Envelope tm) m.f_Pres), .d (dsl tm false (k_api_Cert tm) m.f_Certs)]), .tv (.agg [dB h.f_View, dB h.f_Seq, dB h.f_Client, dB h.f_Digest, dB h.f_Data, dB h.f_Result, dB h.f_Batch, dB h.f_Pres, dB h.f_Certs])], [], vB (decide (cntM m h)), []⟩ := by
 refine Holds.of Try.func88 rfl (N := 68) Try.ntmps88 rfl fun w0 B0 S0 U0 => ?_
 show T _ (mkBase 68 0 w0 S0 U0 B0) ⟨[(z6efe_1 tm m), (z6efe_3 h)], []⟩ _ _
 refine sR [] ?_
 refine sR [] ?_
 refine T.join ⟨(z6efe_4 tm m h), (z6efe_5 tm m h)⟩ ?_ ?_
 ·refine sR [] ?_
  by_cases hq1 : h.f_Batch = true
  ·refine cT hq1 ?_
   refine xR [] (by kernel_rfl) (by kernel_rfl) ?_
   refine Ends.turn (s' := ⟨(z6efe_6 tm m h), (z6efe_5 tm m h)⟩) (fun _ _ hG => Gs.norm (by kernel_rfl) hG) ?_
   refine Ends.turn (s' := ⟨(z6efe_4 tm m h), (z6efe_5 tm m h)⟩) (fun _ _ hG => Gs.iI [0, 1] (bm 10 575) (t2 := (z6efe_6 tm m h)) (congrArg (fun (q1 : Int) => ([(z6efe_1 tm m), (z6efe_3 h), pv 0 0, pv 1 0, vB false, vI q1, aa, aa, aa, vB h.f_Batch] : List AV)) (by exact if_pos (by assumption))) rfl hG) ?_
   exact nJ
  replace hq1 := Bool.eq_false_iff.2 hq1
  refine cF hq1 ?_
  refine T.skip ?_
  refine Ends.turn (s' := ⟨(z6efe_7 tm m h), (z6efe_5 tm m h)⟩) (fun _ _ hG => Gs.norm (by kernel_rfl) hG) ?_
  refine Ends.turn (s' := ⟨(z6efe_4 tm m h), (z6efe_5 tm m h)⟩) (fun _ _ hG => Gs.iI [0, 1] (bm 10 575) (t2 := (z6efe_7 tm m h)) (congrArg (fun (q1 : Int) => ([(z6efe_1 tm m), (z6efe_3 h), pv 0 0, pv 1 0, vB false, vI q1, aa, aa, aa, vB h.f_Batch] : List AV)) (by exact if_neg (nbB (by assumption)))) rfl hG) ?_
  exact nJ
 refine T.join ⟨(z6efe_a tm m h), (z6efe_5 tm m h)⟩ ?_ ?_
 ·refine sR [] ?_
  by_cases hq2 : m.f_Kind = 2
  ·refine cT (decide_eq_true hq2) ?_
   refine xR [] (by kernel_rfl) (by kernel_rfl) ?_
   refine Ends.turn (s' := ⟨(z6efe_b tm m h), (z6efe_5 tm m h)⟩) (fun _ _ hG => Gs.norm (by kernel_rfl) hG) ?_
   refine Ends.turn (s' := ⟨(z6efe_a tm m h), (z6efe_5 tm m h)⟩) (fun _ _ hG => Gs.iI [0, 1] (bm 13 4671) (t2 := (z6efe_b tm m h)) (congrArg (fun (q1 : Int) => ([(z6efe_1 tm m), (z6efe_3 h), pv 0 0, pv 1 0, vB false, vI q1, aa, aa, aa, vB h.f_Batch, aa, aa, (z6efe_9 m)] : List AV)) (by exact if_pos (by assumption))) rfl hG) ?_
   exact nJ
  refine cF (decide_eq_false hq2) ?_
  refine T.skip ?_
  refine Ends.turn (s' := ⟨(z6efe_c tm m h), (z6efe_5 tm m h)⟩) (fun _ _ hG => Gs.norm (by kernel_rfl) hG) ?_
  refine Ends.turn (s' := ⟨(z6efe_a tm m h), (z6efe_5 tm m h)⟩) (fun _ _ hG => Gs.iI [0, 1] (bm 13 4671) (t2 := (z6efe_c tm m h)) (congrArg (fun (q1 : Int) => ([(z6efe_1 tm m), (z6efe_3 h), pv 0 0, pv 1 0, vB false, vI q1, aa, aa, aa, vB h.f_Batch, aa, aa, (z6efe_9 m)] : List AV)) (by exact if_neg (by assumption))) rfl hG) ?_
  exact nJ
 refine sR [] ?_
 refine T.join ⟨(z6efe_d tm m h), (z6efe_5 tm m h)⟩ ?_ ?_
 ·refine sR [] ?_
  by_cases hq3 : h.f_Pres = true
  ·refine cT hq3 ?_
   refine xR [] (by kernel_rfl) (by kernel_rfl) ?_
   refine Ends.turn (s' := ⟨(z6efe_e tm m h), (z6efe_5 tm m h)⟩) (fun _ _ hG => Gs.norm (by kernel_rfl) hG) ?_
   refine Ends.turn (s' := ⟨(z6efe_d tm m h), (z6efe_5 tm m h)⟩) (fun _ _ hG => Gs.iI [0, 1] (bm 15 21119) (t2 := (z6efe_e tm m h)) (congrArg (fun (q1 : Int) => ([(z6efe_1 tm m), (z6efe_3 h), pv 0 0, pv 1 0, vB false, (z6efe_8 m h), vI q1, aa, aa, vB h.f_Batch, aa, aa, (z6efe_9 m), aa, vB h.f_Pres] : List AV)) (by exact if_pos (by assumption))) rfl hG) ?_
   exact nJ
  replace hq3 := Bool.eq_false_iff.2 hq3
  refine cF hq3 ?_
  refine T.skip ?_
  refine Ends.turn (s' := ⟨(z6efe_f tm m h), (z6efe_5 tm m h)⟩) (fun _ _ hG => Gs.norm (by kernel_rfl) hG) ?_
  refine Ends.turn (s' := ⟨(z6efe_d tm m h), (z6efe_5 tm m h)⟩) (fun _ _ hG => Gs.iI [0, 1] (bm 15 21119) (t2 := (z6efe_f tm m h)) (congrArg (fun (q1 : Int) => ([(z6efe_1 tm m), (z6efe_3 h), pv 0 0, pv 1 0, vB false, (z6efe_8 m h), vI q1, aa, aa, vB h.f_Batch, aa, aa, (z6efe_9 m), aa, vB h.f_Pres] : List AV)) (by exact if_neg (nbB (by assumption)))) rfl hG) ?_
  exact nJ
 refine T.seq ?_
 by_cases hq4 : ((m.f_Batch.length : Nat) : Int) > (maxB m.f_Kind h)
 ·refine sR [hN 6 false (decide_eq_true hq4),
    hN 7 false (decide_eq_true hq4),
    hN 8 false (decide_eq_true hq4),
    hN 9 false (decide_eq_true hq4),
    hN 10 false (decide_eq_true hq4),
    hP 11 (decide_eq_true hq4)] ?_
  refine cT (b := true) rfl ?_
  refine sR [] ?_
  refine T.ret (rT ?_)
  exact eRt 4 (z6efe_g) [] (congrArg (fun (q1 : Bool) => (vB q1 : AV)) (by (refine decide_eq_false (fun h9 => ?_); exact absurd h9.1 (by omega)))) trivial
 refine sR [hY 6 (decide_eq_false hq4),
   hY 7 (decide_eq_false hq4),
   hY 8 (decide_eq_false hq4),
   hY 9 (decide_eq_false hq4),
   hY 10 (decide_eq_false hq4),
   hP 11 (decide_eq_false hq4)] ?_
 by_cases hq5 : ((m.f_Pres.length : Nat) : Int) > (maxP h)
 ·refine cT (decide_eq_true hq5) ?_
  refine sR [] ?_
  refine T.ret (rT ?_)
  exact eRt 4 (z6efe_g) [] (congrArg (fun (q1 : Bool) => (vB q1 : AV)) (by (refine decide_eq_false (fun h9 => ?_); exact absurd h9.2.1 (by omega)))) trivial
 refine cF (decide_eq_false hq5) ?_
 refine T.skip (nT (T.seq ?_))
 by_cases hq6 : m.f_Kind = 10
 ·by_cases hq7 : ((m.f_Certs.length : Nat) : Int) ≠ 1
  ·refine sR [hY 4 (decide_eq_true hq6),
     hY 5 (decide_eq_true hq6),
     hY 6 (decide_eq_true hq6),
     hY 7 (decide_eq_true hq6),
     hP 8 (decide_eq_true hq6),
     hN 10 false (decide_eq_true hq7),
     hN 11 false (decide_eq_true hq7),
     hN 12 false (decide_eq_true hq7),
     hN 13 false (decide_eq_true hq7),
     hU 14,
     hU 15,
     hU 16,
     hU 17,
     hN 18 false (decide_eq_true hq7),
     hP 19 (decide_eq_true hq7),
     hN 21 (b := true) false rfl,
     hN 22 (b := true) false rfl,
     hN 23 (b := true) false rfl,
     hN 24 (b := true) false rfl,
     hP 25 (b := true) (w := true) rfl] ?_
   refine cT (b := true) rfl ?_
   refine sR [] ?_
   refine T.ret (rT ?_)
   exact eRt 4 (z6efe_g) [] (congrArg (fun (q1 : Bool) => (vB q1 : AV)) (by (refine decide_eq_false (fun h9 => ?_); exact h9.2.2.1 ⟨by assumption, by assumption⟩))) trivial
  by_cases hq8 : h.f_Certs = true
  ·refine sR [hY 4 (decide_eq_true hq6),
     hY 5 (decide_eq_true hq6),
     hY 6 (decide_eq_true hq6),
     hY 7 (decide_eq_true hq6),
     hP 8 (decide_eq_true hq6),
     hY 10 (decide_eq_false hq7),
     hY 11 (decide_eq_false hq7),
     hY 12 (decide_eq_false hq7),
     hY 13 (decide_eq_false hq7),
     hN 14 true (congrArg Bool.not hq8),
     hN 15 true (congrArg Bool.not hq8),
     hN 16 true (congrArg Bool.not hq8),
     hN 17 true (congrArg Bool.not hq8),
     hS 18 (oY rfl rfl rfl rfl (lt_of rfl) (decide_eq_false hq7) (r_pickF (b := (!h.f_Certs)) (av := vB false) (lt_of rfl) ⟨rfl, trivial⟩ (congrArg Bool.not hq8))),
     hP 19 (decide_eq_false hq7),
     hY 21 (b := false) (w := false) rfl,
     hY 22 (b := false) (w := false) rfl,
     hY 23 (b := false) (w := false) rfl,
     hY 24 (b := false) (w := false) rfl,
     hP 25 (b := false) (w := false) rfl] ?_
   by_cases hq9 : ((m.f_Certs.length : Nat) : Int) > 8
   ·refine cT (decide_eq_true hq9) ?_
    refine sR [] ?_
    refine T.ret (rT ?_)
    exact eRt 4 (z6efe_g) [] (congrArg (fun (q1 : Bool) => (vB q1 : AV)) (by (refine decide_eq_false (fun h9 => ?_); exact absurd h9.2.2.2.2.1 (by omega)))) trivial
   refine cF (decide_eq_false hq9) ?_
   refine T.skip (nT (T.seq ?_))
   refine sR [] ?_
   refine T.block ?_
   refine T.loop (ι := Nat) (fun (k : Nat) => (z6efe_j tm m h k)) (fun (k : Nat) => (k ≤ m.f_Certs.length) ∧ (∀ j, j < k → (m.f_Certs.getD j z_api_Cert).f_Votes.length ≤ 7)) (fun (k : Nat) => m.f_Certs.length - k) (0) ⟨(Nat.zero_le _), (fun j hj => absurd hj (Nat.not_lt_zero _))⟩ (fun _ _ hG => Gs.iI [0, 1] (bm 53 4503599694500607) rfl rfl hG) ?_
   rintro k ⟨hk, hb⟩
   show T _ _ (z6efe_j tm m h k) _ _
   replace hk : k ≤ m.f_Certs.length := hk
   replace hb : ∀ j, j < k → (m.f_Certs.getD j z_api_Cert).f_Votes.length ≤ 7 := hb
   refine T.seq ?_
   refine sR [] ?_
   by_cases hq10 : ((k : Nat) : Int) < ((m.f_Certs.length : Nat) : Int)
   ·refine cT (decide_eq_true hq10) ?_
    refine T.skip (nT (T.seq ?_))
    refine T.block ?_
    refine sR [hR 3 rfl rfl (q_index tm false (k_api_Cert tm) m.f_Certs k (k := .i64) (i := ((k : Nat) : Int)) Try.underlying49 iat_63 rfl rfl (by omega) (lt_of rfl) trivial)] ?_
    by_cases hq11 : (((m.f_Certs.getD k z_api_Cert).f_Votes.length : Nat) : Int) > 7
    ·refine cT (decide_eq_true hq11) ?_
     refine sR [] ?_
     refine T.ret (rB (rT (rT (rB (rT ?_)))))
     exact eRt 4 (z6efe_g) [] (congrArg (fun (q1 : Bool) => (vB q1 : AV)) (by (refine decide_eq_false (fun h9 => ?_); exact absurd (h9.2.2.2.2.2 _ (getD_mem (z := z_api_Cert) (k := k) (by omega))) (by omega)))) trivial
    refine cF (decide_eq_false hq11) ?_
    refine T.skip ?_
    refine nB ?_
    refine nT ?_
    refine xR [hR 1 rfl rfl (r_bin (u1 := .int .i64 ((k : Nat) : Int)) (u2 := .int .i64 1) (v := .int .i64 ((k + 1 : Nat) : Int)) (b_add (by rw [IntKind.wrap_i64]; omega)) (lt_of rfl) ⟨rfl, trivial⟩)] (by kernel_rfl) (by kernel_rfl) ?_
    refine nL (k + 1) ⟨(show (k + 1) ≤ m.f_Certs.length from (by omega)), (show ∀ j, j < (k + 1) → (m.f_Certs.getD j z_api_Cert).f_Votes.length ≤ 7 from (all_succ hb (by omega)))⟩ (show (m.f_Certs.length - (k + 1) : Nat) < m.f_Certs.length - k from (by omega)) (fun _ _ hG => Gs.iI [0, 1] (bm 53 4503599694500607) rfl rfl hG)
   refine cF (decide_eq_false hq10) ?_
   refine T.exit ?_
   refine xT ?_
   refine xT ?_
   refine xH ?_
   refine nT ?_
   refine sR [] ?_
   refine T.ret ?_
   exact eRt 4 (z6efe_m) [] (congrArg (fun (q1 : Bool) => (vB q1 : AV)) (by (refine decide_eq_true ⟨by omega, by omega, (fun h8 => by exact absurd h8.2 (by assumption)), (fun h8 => by exact absurd (by assumption) h8.1), by omega, fewV_all hb (by omega)⟩))) trivial
  replace hq8 := Bool.eq_false_iff.2 hq8
  by_cases hq12 : ((m.f_Certs.length : Nat) : Int) > 0
  ·refine sR [hY 4 (decide_eq_true hq6),
     hY 5 (decide_eq_true hq6),
     hY 6 (decide_eq_true hq6),
     hY 7 (decide_eq_true hq6),
     hP 8 (decide_eq_true hq6),
     hY 10 (decide_eq_false hq7),
     hY 11 (decide_eq_false hq7),
     hY 12 (decide_eq_false hq7),
     hY 13 (decide_eq_false hq7),
     hY 14 (congrArg Bool.not hq8),
     hY 15 (congrArg Bool.not hq8),
     hY 16 (congrArg Bool.not hq8),
     hY 17 (congrArg Bool.not hq8),
     hS 18 (oY rfl rfl rfl rfl (lt_of rfl) (decide_eq_false hq7) (r_pickT (b := (!h.f_Certs)) (av := (z6efe_n m)) (lt_of rfl) trivial (congrArg Bool.not hq8))),
     hP 19 (decide_eq_false hq7),
     hN 21 false (decide_eq_true hq12),
     hN 22 false (decide_eq_true hq12),
     hN 23 false (decide_eq_true hq12),
     hN 24 false (decide_eq_true hq12),
     hP 25 (decide_eq_true hq12)] ?_
   refine cT (b := true) rfl ?_
   refine sR [] ?_
   refine T.ret (rT ?_)
   exact eRt 4 (z6efe_g) [] (congrArg (fun (q1 : Bool) => (vB q1 : AV)) (by (refine decide_eq_false (fun h9 => ?_); exact h9.2.2.2.1 ⟨(by exact nbB (by assumption)), by assumption⟩))) trivial
  refine sR [hY 4 (decide_eq_true hq6),
    hY 5 (decide_eq_true hq6),
    hY 6 (decide_eq_true hq6),
    hY 7 (decide_eq_true hq6),
    hP 8 (decide_eq_true hq6),
    hY 10 (decide_eq_false hq7),
    hY 11 (decide_eq_false hq7),
    hY 12 (decide_eq_false hq7),
    hY 13 (decide_eq_false hq7),
    hY 14 (congrArg Bool.not hq8),
    hY 15 (congrArg Bool.not hq8),
    hY 16 (congrArg Bool.not hq8),
    hY 17 (congrArg Bool.not hq8),
    hS 18 (oY rfl rfl rfl rfl (lt_of rfl) (decide_eq_false hq7) (r_pickT (b := (!h.f_Certs)) (av := (z6efe_n m)) (lt_of rfl) trivial (congrArg Bool.not hq8))),
    hP 19 (decide_eq_false hq7),
    hY 21 (decide_eq_false hq12),
    hY 22 (decide_eq_false hq12),
    hY 23 (decide_eq_false hq12),
    hY 24 (decide_eq_false hq12),
    hP 25 (decide_eq_false hq12)] ?_
  by_cases hq13 : ((m.f_Certs.length : Nat) : Int) > 8
  ·refine cT (decide_eq_true hq13) ?_
   refine sR [] ?_
   refine T.ret (rT ?_)
   exact eRt 4 (z6efe_g) [] (congrArg (fun (q1 : Bool) => (vB q1 : AV)) (by (refine decide_eq_false (fun h9 => ?_); exact absurd h9.2.2.2.2.1 (by omega)))) trivial
  refine cF (decide_eq_false hq13) ?_
  refine T.skip (nT (T.seq ?_))
  refine sR [] ?_
  refine T.block ?_
  refine T.loop (ι := Nat) (fun (k : Nat) => (z6efe_j tm m h k)) (fun (k : Nat) => (k ≤ m.f_Certs.length) ∧ (∀ j, j < k → (m.f_Certs.getD j z_api_Cert).f_Votes.length ≤ 7)) (fun (k : Nat) => m.f_Certs.length - k) (0) ⟨(Nat.zero_le _), (fun j hj => absurd hj (Nat.not_lt_zero _))⟩ (fun _ _ hG => Gs.iI [0, 1] (bm 53 4503599694500607) rfl rfl hG) ?_
  rintro k ⟨hk, hb⟩
  show T _ _ (z6efe_j tm m h k) _ _
  replace hk : k ≤ m.f_Certs.length := hk
  replace hb : ∀ j, j < k → (m.f_Certs.getD j z_api_Cert).f_Votes.length ≤ 7 := hb
  refine T.seq ?_
  refine sR [] ?_
  by_cases hq14 : ((k : Nat) : Int) < ((m.f_Certs.length : Nat) : Int)
  ·refine cT (decide_eq_true hq14) ?_
   refine T.skip (nT (T.seq ?_))
   refine T.block ?_
   refine sR [hR 3 rfl rfl (q_index tm false (k_api_Cert tm) m.f_Certs k (k := .i64) (i := ((k : Nat) : Int)) Try.underlying49 iat_63 rfl rfl (by omega) (lt_of rfl) trivial)] ?_
   by_cases hq15 : (((m.f_Certs.getD k z_api_Cert).f_Votes.length : Nat) : Int) > 7
   ·refine cT (decide_eq_true hq15) ?_
    refine sR [] ?_
    refine T.ret (rB (rT (rT (rB (rT ?_)))))
    exact eRt 4 (z6efe_g) [] (congrArg (fun (q1 : Bool) => (vB q1 : AV)) (by (refine decide_eq_false (fun h9 => ?_); exact absurd h9.2.2.2.2.1 (by omega)))) trivial
   refine cF (decide_eq_false hq15) ?_
   refine T.skip ?_
   refine nB ?_
   refine nT ?_
   refine xR [hR 1 rfl rfl (r_bin (u1 := .int .i64 ((k : Nat) : Int)) (u2 := .int .i64 1) (v := .int .i64 ((k + 1 : Nat) : Int)) (b_add (by rw [IntKind.wrap_i64]; omega)) (lt_of rfl) ⟨rfl, trivial⟩)] (by kernel_rfl) (by kernel_rfl) ?_
   refine nL (k + 1) ⟨(show (k + 1) ≤ m.f_Certs.length from (by omega)), (show ∀ j, j < (k + 1) → (m.f_Certs.getD j z_api_Cert).f_Votes.length ≤ 7 from (all_succ hb (by omega)))⟩ (show (m.f_Certs.length - (k + 1) : Nat) < m.f_Certs.length - k from (by omega)) (fun _ _ hG => Gs.iI [0, 1] (bm 53 4503599694500607) rfl rfl hG)
  refine cF (decide_eq_false hq14) ?_
  refine T.exit ?_
  refine xT ?_
  refine xT ?_
  refine xH ?_
  refine nT ?_
  refine sR [] ?_
  refine T.ret ?_
  exact eRt 4 (z6efe_m) [] (congrArg (fun (q1 : Bool) => (vB q1 : AV)) (by (refine decide_eq_true ⟨by omega, by omega, (fun h8 => by exact absurd h8.2 (by assumption)), (fun h8 => by exact absurd h8.2 (by assumption)), by omega, fewV_all hb (by omega)⟩))) trivial
 by_cases hq16 : h.f_Certs = true
 ·refine sR [hN 4 true (decide_eq_false hq6),
    hN 5 true (decide_eq_false hq6),
    hN 6 true (decide_eq_false hq6),
    hN 7 true (decide_eq_false hq6),
    hP 8 (decide_eq_false hq6),
    hY 10 (b := false) (w := false) rfl,
    hY 11 (b := false) (w := false) rfl,
    hY 12 (b := false) (w := false) rfl,
    hY 13 (b := false) (w := false) rfl,
    hN 14 true (congrArg Bool.not hq16),
    hN 15 true (congrArg Bool.not hq16),
    hN 16 true (congrArg Bool.not hq16),
    hN 17 true (congrArg Bool.not hq16),
    hS 18 (oY (b := false) rfl rfl rfl rfl (lt_of rfl) rfl (r_pickF (b := (!h.f_Certs)) (av := vB false) (lt_of rfl) ⟨rfl, trivial⟩ (congrArg Bool.not hq16))),
    hP 19 (b := false) (w := false) rfl,
    hY 21 (b := false) (w := false) rfl,
    hY 22 (b := false) (w := false) rfl,
    hY 23 (b := false) (w := false) rfl,
    hY 24 (b := false) (w := false) rfl,
    hP 25 (b := false) (w := false) rfl] ?_
  by_cases hq17 : ((m.f_Certs.length : Nat) : Int) > 8
  ·refine cT (decide_eq_true hq17) ?_
   refine sR [] ?_
   refine T.ret (rT ?_)
   exact eRt 4 (z6efe_g) [] (congrArg (fun (q1 : Bool) => (vB q1 : AV)) (by (refine decide_eq_false (fun h9 => ?_); exact absurd h9.2.2.2.2.1 (by omega)))) trivial
  refine cF (decide_eq_false hq17) ?_
  refine T.skip (nT (T.seq ?_))
  refine sR [] ?_
  refine T.block ?_
  refine T.loop (ι := Nat) (fun (k : Nat) => (z6efe_j tm m h k)) (fun (k : Nat) => (k ≤ m.f_Certs.length) ∧ (∀ j, j < k → (m.f_Certs.getD j z_api_Cert).f_Votes.length ≤ 7)) (fun (k : Nat) => m.f_Certs.length - k) (0) ⟨(Nat.zero_le _), (fun j hj => absurd hj (Nat.not_lt_zero _))⟩ (fun _ _ hG => Gs.iI [0, 1] (bm 53 4503599694500607) rfl rfl hG) ?_
  rintro k ⟨hk, hb⟩
  show T _ _ (z6efe_j tm m h k) _ _
  replace hk : k ≤ m.f_Certs.length := hk
  replace hb : ∀ j, j < k → (m.f_Certs.getD j z_api_Cert).f_Votes.length ≤ 7 := hb
  refine T.seq ?_
  refine sR [] ?_
  by_cases hq18 : ((k : Nat) : Int) < ((m.f_Certs.length : Nat) : Int)
  ·refine cT (decide_eq_true hq18) ?_
   refine T.skip (nT (T.seq ?_))
   refine T.block ?_
   refine sR [hR 3 rfl rfl (q_index tm false (k_api_Cert tm) m.f_Certs k (k := .i64) (i := ((k : Nat) : Int)) Try.underlying49 iat_63 rfl rfl (by omega) (lt_of rfl) trivial)] ?_
   by_cases hq19 : (((m.f_Certs.getD k z_api_Cert).f_Votes.length : Nat) : Int) > 7
   ·refine cT (decide_eq_true hq19) ?_
    refine sR [] ?_
    refine T.ret (rB (rT (rT (rB (rT ?_)))))
    exact eRt 4 (z6efe_g) [] (congrArg (fun (q1 : Bool) => (vB q1 : AV)) (by (refine decide_eq_false (fun h9 => ?_); exact absurd (h9.2.2.2.2.2 _ (getD_mem (z := z_api_Cert) (k := k) (by omega))) (by omega)))) trivial
   refine cF (decide_eq_false hq19) ?_
   refine T.skip ?_
   refine nB ?_
   refine nT ?_
   refine xR [hR 1 rfl rfl (r_bin (u1 := .int .i64 ((k : Nat) : Int)) (u2 := .int .i64 1) (v := .int .i64 ((k + 1 : Nat) : Int)) (b_add (by rw [IntKind.wrap_i64]; omega)) (lt_of rfl) ⟨rfl, trivial⟩)] (by kernel_rfl) (by kernel_rfl) ?_
   refine nL (k + 1) ⟨(show (k + 1) ≤ m.f_Certs.length from (by omega)), (show ∀ j, j < (k + 1) → (m.f_Certs.getD j z_api_Cert).f_Votes.length ≤ 7 from (all_succ hb (by omega)))⟩ (show (m.f_Certs.length - (k + 1) : Nat) < m.f_Certs.length - k from (by omega)) (fun _ _ hG => Gs.iI [0, 1] (bm 53 4503599694500607) rfl rfl hG)
  refine cF (decide_eq_false hq18) ?_
  refine T.exit ?_
  refine xT ?_
  refine xT ?_
  refine xH ?_
  refine nT ?_
  refine sR [] ?_
  refine T.ret ?_
  exact eRt 4 (z6efe_m) [] (congrArg (fun (q1 : Bool) => (vB q1 : AV)) (by (refine decide_eq_true ⟨by omega, by omega, (fun h8 => by exact absurd h8.1 (by assumption)), (fun h8 => by exact absurd (by assumption) h8.1), by omega, fewV_all hb (by omega)⟩))) trivial
 replace hq16 := Bool.eq_false_iff.2 hq16
 by_cases hq20 : ((m.f_Certs.length : Nat) : Int) > 0
 ·refine sR [hN 4 true (decide_eq_false hq6),
    hN 5 true (decide_eq_false hq6),
    hN 6 true (decide_eq_false hq6),
    hN 7 true (decide_eq_false hq6),
    hP 8 (decide_eq_false hq6),
    hY 10 (b := false) (w := false) rfl,
    hY 11 (b := false) (w := false) rfl,
    hY 12 (b := false) (w := false) rfl,
    hY 13 (b := false) (w := false) rfl,
    hY 14 (congrArg Bool.not hq16),
    hY 15 (congrArg Bool.not hq16),
    hY 16 (congrArg Bool.not hq16),
    hY 17 (congrArg Bool.not hq16),
    hS 18 (oY (b := false) rfl rfl rfl rfl (lt_of rfl) rfl (r_pickT (b := (!h.f_Certs)) (av := (z6efe_n m)) (lt_of rfl) trivial (congrArg Bool.not hq16))),
    hP 19 (b := false) (w := false) rfl,
    hN 21 false (decide_eq_true hq20),
    hN 22 false (decide_eq_true hq20),
    hN 23 false (decide_eq_true hq20),
    hN 24 false (decide_eq_true hq20),
    hP 25 (decide_eq_true hq20)] ?_
  refine cT (b := true) rfl ?_
  refine sR [] ?_
  refine T.ret (rT ?_)
  exact eRt 4 (z6efe_g) [] (congrArg (fun (q1 : Bool) => (vB q1 : AV)) (by (refine decide_eq_false (fun h9 => ?_); exact h9.2.2.2.1 ⟨(by exact nbB (by assumption)), by assumption⟩))) trivial
 refine sR [hN 4 true (decide_eq_false hq6),
   hN 5 true (decide_eq_false hq6),
   hN 6 true (decide_eq_false hq6),
   hN 7 true (decide_eq_false hq6),
   hP 8 (decide_eq_false hq6),
   hY 10 (b := false) (w := false) rfl,
   hY 11 (b := false) (w := false) rfl,
   hY 12 (b := false) (w := false) rfl,
   hY 13 (b := false) (w := false) rfl,
   hY 14 (congrArg Bool.not hq16),
   hY 15 (congrArg Bool.not hq16),
   hY 16 (congrArg Bool.not hq16),
   hY 17 (congrArg Bool.not hq16),
   hS 18 (oY (b := false) rfl rfl rfl rfl (lt_of rfl) rfl (r_pickT (b := (!h.f_Certs)) (av := (z6efe_n m)) (lt_of rfl) trivial (congrArg Bool.not hq16))),
   hP 19 (b := false) (w := false) rfl,
   hY 21 (decide_eq_false hq20),
   hY 22 (decide_eq_false hq20),
   hY 23 (decide_eq_false hq20),
   hY 24 (decide_eq_false hq20),
   hP 25 (decide_eq_false hq20)] ?_
 by_cases hq21 : ((m.f_Certs.length : Nat) : Int) > 8
 ·refine cT (decide_eq_true hq21) ?_
  refine sR [] ?_
  refine T.ret (rT ?_)
  exact eRt 4 (z6efe_g) [] (congrArg (fun (q1 : Bool) => (vB q1 : AV)) (by (refine decide_eq_false (fun h9 => ?_); exact absurd h9.2.2.2.2.1 (by omega)))) trivial
 refine cF (decide_eq_false hq21) ?_
 refine T.skip (nT (T.seq ?_))
 refine sR [] ?_
 refine T.block ?_
 refine T.loop (ι := Nat) (fun (k : Nat) => (z6efe_j tm m h k)) (fun (k : Nat) => (k ≤ m.f_Certs.length) ∧ (∀ j, j < k → (m.f_Certs.getD j z_api_Cert).f_Votes.length ≤ 7)) (fun (k : Nat) => m.f_Certs.length - k) (0) ⟨(Nat.zero_le _), (fun j hj => absurd hj (Nat.not_lt_zero _))⟩ (fun _ _ hG => Gs.iI [0, 1] (bm 53 4503599694500607) rfl rfl hG) ?_
 rintro k ⟨hk, hb⟩
 show T _ _ (z6efe_j tm m h k) _ _
 replace hk : k ≤ m.f_Certs.length := hk
 replace hb : ∀ j, j < k → (m.f_Certs.getD j z_api_Cert).f_Votes.length ≤ 7 := hb
 refine T.seq ?_
 refine sR [] ?_
 by_cases hq22 : ((k : Nat) : Int) < ((m.f_Certs.length : Nat) : Int)
 ·refine cT (decide_eq_true hq22) ?_
  refine T.skip (nT (T.seq ?_))
  refine T.block ?_
  refine sR [hR 3 rfl rfl (q_index tm false (k_api_Cert tm) m.f_Certs k (k := .i64) (i := ((k : Nat) : Int)) Try.underlying49 iat_63 rfl rfl (by omega) (lt_of rfl) trivial)] ?_
  by_cases hq23 : (((m.f_Certs.getD k z_api_Cert).f_Votes.length : Nat) : Int) > 7
  ·refine cT (decide_eq_true hq23) ?_
   refine sR [] ?_
   refine T.ret (rB (rT (rT (rB (rT ?_)))))
   exact eRt 4 (z6efe_g) [] (congrArg (fun (q1 : Bool) => (vB q1 : AV)) (by (refine decide_eq_false (fun h9 => ?_); exact absurd h9.2.2.2.2.1 (by omega)))) trivial
  refine cF (decide_eq_false hq23) ?_
  refine T.skip ?_
  refine nB ?_
  refine nT ?_
  refine xR [hR 1 rfl rfl (r_bin (u1 := .int .i64 ((k : Nat) : Int)) (u2 := .int .i64 1) (v := .int .i64 ((k + 1 : Nat) : Int)) (b_add (by rw [IntKind.wrap_i64]; omega)) (lt_of rfl) ⟨rfl, trivial⟩)] (by kernel_rfl) (by kernel_rfl) ?_
  refine nL (k + 1) ⟨(show (k + 1) ≤ m.f_Certs.length from (by omega)), (show ∀ j, j < (k + 1) → (m.f_Certs.getD j z_api_Cert).f_Votes.length ≤ 7 from (all_succ hb (by omega)))⟩ (show (m.f_Certs.length - (k + 1) : Nat) < m.f_Certs.length - k from (by omega)) (fun _ _ hG => Gs.iI [0, 1] (bm 53 4503599694500607) rfl rfl hG)
 refine cF (decide_eq_false hq22) ?_
 refine T.exit ?_
 refine xT ?_
 refine xT ?_
 refine xH ?_
 refine nT ?_
 refine sR [] ?_
 refine T.ret ?_
 exact eRt 4 (z6efe_m) [] (congrArg (fun (q1 : Bool) => (vB q1 : AV)) (by (refine decide_eq_true ⟨by omega, by omega, (fun h8 => by exact absurd h8.1 (by assumption)), (fun h8 => by exact absurd h8.2 (by assumption)), by omega, fewV_all hb (by omega)⟩))) trivial
end Go.Proofs.Ytalapplihdmenaa.Q
