import Derived.Test.YtalapplihdmenaaGreatC13n10
namespace Go.Proofs.YtalapplihdmenaaGreat.Q
open Go Go.RowKit
set_option linter.unusedVariables false
set_option linter.unusedSimpArgs false
set_option maxRecDepth 100000
set_option maxHeartbeats 4000000
section
variable (tm : Bool) (m : aM) (h : aH) (k : Nat)
abbrev Z3b : List SV := [dI m.f_Kind, dI m.f_View, dI m.f_Seq, dI m.f_Client, dI m.f_Stamp, dS m.f_Digest, .d (dsl tm false kU8 m.f_Data), dI m.f_Result.f_Code, dI m.f_Result.f_Stage, .d (dsl tm false (kE tm) m.f_Batch), .d (dsl tm false (kE tm) m.f_Pres), .d (dsl tm false (kC tm) m.f_Certs)]
abbrev Z3c : AV := .tv (.agg (Z3b tm m))
abbrev Z3d : List SV := [dB h.f_View, dB h.f_Seq, dB h.f_Client, dB h.f_Digest, dB h.f_Data, dB h.f_Result, dB h.f_Batch, dB h.f_Pres, dB h.f_Certs]
abbrev Z3e : AV := .tv (.agg (Z3d h))
abbrev Z3f : List AV := [(Z3c tm m), (Z3e h), pv 0 0, pv 1 0, vB false, vI (if h.f_Batch = true then 7 else 0), aa, aa, aa, vB h.f_Batch]
abbrev Z3g : List HS := [.live (.box 46 (Z3b tm m)), .live (.box 88 (Z3d h))]
abbrev Z3h : List AV := [(Z3c tm m), (Z3e h), pv 0 0, pv 1 0, vB false, vI 7, aa, aa, aa, vB h.f_Batch]
abbrev Z3i : List AV := [(Z3c tm m), (Z3e h), pv 0 0, pv 1 0, vB false, vI 0, aa, aa, aa, vB h.f_Batch]
abbrev Z3j : AV := vI (maxB m.f_Kind h)
abbrev Z3k : AV := vB (decide (m.f_Kind = 2))
abbrev Z3l : List AV := [(Z3c tm m), (Z3e h), pv 0 0, pv 1 0, vB false, (Z3j m h), aa, aa, aa, vB h.f_Batch, aa, aa, (Z3k m)]
abbrev Z3m : List AV := [(Z3c tm m), (Z3e h), pv 0 0, pv 1 0, vB false, vI 4, aa, aa, aa, vB h.f_Batch, aa, aa, (Z3k m)]
abbrev Z3n : List AV := [(Z3c tm m), (Z3e h), pv 0 0, pv 1 0, vB false, vI (if h.f_Batch = true then 7 else 0), aa, aa, aa, vB h.f_Batch, aa, aa, (Z3k m)]
abbrev Z3o : List AV := [(Z3c tm m), (Z3e h), pv 0 0, pv 1 0, vB false, (Z3j m h), vI (maxP h), aa, aa, vB h.f_Batch, aa, aa, (Z3k m), aa, vB h.f_Pres]
abbrev Z3p : List AV := [(Z3c tm m), (Z3e h), pv 0 0, pv 1 0, vB false, (Z3j m h), vI 8, aa, aa, vB h.f_Batch, aa, aa, (Z3k m), aa, vB h.f_Pres]
abbrev Z3q : List AV := [(Z3c tm m), (Z3e h), pv 0 0, pv 1 0, vB false, (Z3j m h), vI 0, aa, aa, vB h.f_Batch, aa, aa, (Z3k m), aa, vB h.f_Pres]
abbrev Z3r : TV := .one (dB false)
abbrev Z3s : AV := vB (decide (((m.f_Pres.length : Nat) : Int) > (maxP h)))
abbrev Z3t : AV := vB (decide (((m.f_Certs.length : Nat) : Int) > 8))
abbrev Z3u : St := ⟨[(Z3c tm m), (Z3e h), pv 0 0, pv 1 0, vB false, (Z3j m h), vI (maxP h), vI ((k : Nat) : Int), aa, vB h.f_Batch, aa, aa, (Z3k m), aa, vB h.f_Pres, aa, aa, aa, aa, aa, aa, aa, aa, aa, aa, aa, (Z3s m h), aa, aa, aa, aa, aa, aa, aa, aa, aa, aa, aa, aa, aa, aa, aa, aa, aa, aa, aa, aa, aa, aa, aa, aa, aa, (Z3t m)], (Z3g tm m h)⟩
abbrev Z3x : TV := .one (dB true)
abbrev Z3y : AV := vB (decide (((m.f_Certs.length : Nat) : Int) > 0))
end
theorem ref12_counts (tm : Bool) (m : aM) (h : aH) (hq : m.f_Batch.length ≤ 9223372036854775807) (hr : m.f_Pres.length ≤ 9223372036854775807) (hc : m.f_Certs.length ≤ 9223372036854775807) : Holds Tryz.prog 65 ⟨[.tv (.agg [dI m.f_Kind, dI m.f_View, dI m.f_Seq, dI m.f_Client, dI m.f_Stamp, dS m.f_Digest, .d (dsl tm false kU8 m.f_Data), dI m.f_Result.f_Code, dI m.f_Result.f_Stage, .d (dsl tm false (kE tm) m.f_Batch), .d (dsl tm false (kE tm) m.f_Pres), .d (dsl tm false (kC tm) m.f_Certs)]), .tv (.agg [dB h.f_View, dB h.f_Seq, dB h.f_Client, dB h.f_Digest, dB h.f_Data, dB h.f_Result, dB h.f_Batch, dB h.f_Pres, dB h.f_Certs])], [], vB (decide (cntM m h)), []⟩ := by
 refine Holds.of Tryz.func65 rfl (N := 68) Tryz.ntmps65 rfl fun w0 B0 S0 U0 => ?_
 show T _ (mkBase 68 0 w0 S0 U0 B0) ⟨[(Z3c tm m), (Z3e h)], []⟩ _ _
 refine sR [] ?_
 refine sR [] ?_
 refine T.join ⟨(Z3f tm m h), (Z3g tm m h)⟩ ?_ ?_
 ·refine sR [] ?_
  by_cases hq1 : h.f_Batch = true
  ·refine cT hq1 ?_
   refine xK [] ?_
   refine eN ⟨(Z3h tm m h), (Z3g tm m h)⟩ ?_
   refine Ends.turn (s' := ⟨(Z3f tm m h), (Z3g tm m h)⟩) (fun _ _ hG => Gs.iI [0, 1] (bm 10 575) (t2 := (Z3h tm m h)) (congrArg (fun (q1 : Int) => ([(Z3c tm m), (Z3e h), pv 0 0, pv 1 0, vB false, vI q1, aa, aa, aa, vB h.f_Batch] : List AV)) (by exact if_pos ‹_›)) rfl hG) ?_
   exact nJ
  replace hq1 := Bool.eq_false_iff.2 hq1
  refine cF hq1 ?_
  refine T.skip ?_
  refine eN ⟨(Z3i tm m h), (Z3g tm m h)⟩ ?_
  refine Ends.turn (s' := ⟨(Z3f tm m h), (Z3g tm m h)⟩) (fun _ _ hG => Gs.iI [0, 1] (bm 10 575) (t2 := (Z3i tm m h)) (congrArg (fun (q1 : Int) => ([(Z3c tm m), (Z3e h), pv 0 0, pv 1 0, vB false, vI q1, aa, aa, aa, vB h.f_Batch] : List AV)) (by exact if_neg (nbB ‹_›))) rfl hG) ?_
  exact nJ
 refine T.join ⟨(Z3l tm m h), (Z3g tm m h)⟩ ?_ ?_
 ·refine sR [] ?_
  by_cases hq2 : m.f_Kind = 2
  ·refine cT (dT hq2) ?_
   refine xK [] ?_
   refine eN ⟨(Z3m tm m h), (Z3g tm m h)⟩ ?_
   refine Ends.turn (s' := ⟨(Z3l tm m h), (Z3g tm m h)⟩) (fun _ _ hG => Gs.iI [0, 1] (bm 13 4671) (t2 := (Z3m tm m h)) (congrArg (fun (q1 : Int) => ([(Z3c tm m), (Z3e h), pv 0 0, pv 1 0, vB false, vI q1, aa, aa, aa, vB h.f_Batch, aa, aa, (Z3k m)] : List AV)) (by exact if_pos ‹_›)) rfl hG) ?_
   exact nJ
  refine cF (dF hq2) ?_
  refine T.skip ?_
  refine eN ⟨(Z3n tm m h), (Z3g tm m h)⟩ ?_
  refine Ends.turn (s' := ⟨(Z3l tm m h), (Z3g tm m h)⟩) (fun _ _ hG => Gs.iI [0, 1] (bm 13 4671) (t2 := (Z3n tm m h)) (congrArg (fun (q1 : Int) => ([(Z3c tm m), (Z3e h), pv 0 0, pv 1 0, vB false, vI q1, aa, aa, aa, vB h.f_Batch, aa, aa, (Z3k m)] : List AV)) (by exact if_neg ‹_›)) rfl hG) ?_
  exact nJ
 refine sR [] ?_
 refine T.join ⟨(Z3o tm m h), (Z3g tm m h)⟩ ?_ ?_
 ·refine sR [] ?_
  by_cases hq3 : h.f_Pres = true
  ·refine cT hq3 ?_
   refine xK [] ?_
   refine eN ⟨(Z3p tm m h), (Z3g tm m h)⟩ ?_
   refine Ends.turn (s' := ⟨(Z3o tm m h), (Z3g tm m h)⟩) (fun _ _ hG => Gs.iI [0, 1] (bm 15 21119) (t2 := (Z3p tm m h)) (congrArg (fun (q1 : Int) => ([(Z3c tm m), (Z3e h), pv 0 0, pv 1 0, vB false, (Z3j m h), vI q1, aa, aa, vB h.f_Batch, aa, aa, (Z3k m), aa, vB h.f_Pres] : List AV)) (by exact if_pos ‹_›)) rfl hG) ?_
   exact nJ
  replace hq3 := Bool.eq_false_iff.2 hq3
  refine cF hq3 ?_
  refine T.skip ?_
  refine eN ⟨(Z3q tm m h), (Z3g tm m h)⟩ ?_
  refine Ends.turn (s' := ⟨(Z3o tm m h), (Z3g tm m h)⟩) (fun _ _ hG => Gs.iI [0, 1] (bm 15 21119) (t2 := (Z3q tm m h)) (congrArg (fun (q1 : Int) => ([(Z3c tm m), (Z3e h), pv 0 0, pv 1 0, vB false, (Z3j m h), vI q1, aa, aa, vB h.f_Batch, aa, aa, (Z3k m), aa, vB h.f_Pres] : List AV)) (by exact if_neg (nbB ‹_›))) rfl hG) ?_
  exact nJ
 refine T.seq ?_
 by_cases hq4 : ((m.f_Batch.length : Nat) : Int) > (maxB m.f_Kind h)
 ·refine sR [hN 6 false (dT hq4),
    hN 7 false (dT hq4),
    hN 8 false (dT hq4),
    hN 9 false (dT hq4),
    hN 10 false (dT hq4),
    hP 11 (dT hq4)] ?_
  refine cT (b := true) rfl ?_
  refine sR [] ?_
  refine T.ret (rT ?_)
  exact eRt 4 (Z3r) [] (cB (by (refine dF (fun h9 => ?_); exact absurd h9.1 (by omega)))) trivial
 refine sR [hY 6 (dF hq4),
   hY 7 (dF hq4),
   hY 8 (dF hq4),
   hY 9 (dF hq4),
   hY 10 (dF hq4),
   hP 11 (dF hq4)] ?_
 by_cases hq5 : ((m.f_Pres.length : Nat) : Int) > (maxP h)
 ·refine cT (dT hq5) ?_
  refine sR [] ?_
  refine T.ret (rT ?_)
  exact eRt 4 (Z3r) [] (cB (by (refine dF (fun h9 => ?_); exact absurd h9.2.1 (by omega)))) trivial
 refine cF (dF hq5) ?_
 refine T.skip (nT (T.seq ?_))
 by_cases hq6 : m.f_Kind = 10
 ·by_cases hq7 : ((m.f_Certs.length : Nat) : Int) ≠ 1
  ·refine sR [hY 4 (dT hq6),
     hY 5 (dT hq6),
     hY 6 (dT hq6),
     hY 7 (dT hq6),
     hP 8 (dT hq6),
     hN 10 false (dT hq7),
     hN 11 false (dT hq7),
     hN 12 false (dT hq7),
     hN 13 false (dT hq7),
     hU 14,
     hU 15,
     hU 16,
     hU 17,
     hN 18 false (dT hq7),
     hP 19 (dT hq7),
     hN0 21,
     hN0 22,
     hN0 23,
     hN0 24,
     hP1 25] ?_
   refine cT (b := true) rfl ?_
   refine sR [] ?_
   refine T.ret (rT ?_)
   exact eRt 4 (Z3r) [] (cB (by (refine dF (fun h9 => ?_); exact h9.2.2.1 ⟨by assumption, by assumption⟩))) trivial
  by_cases hq8 : h.f_Certs = true
  ·refine sR [hY 4 (dT hq6),
     hY 5 (dT hq6),
     hY 6 (dT hq6),
     hY 7 (dT hq6),
     hP 8 (dT hq6),
     hY 10 (dF hq7),
     hY 11 (dF hq7),
     hY 12 (dF hq7),
     hY 13 (dF hq7),
     hN 14 true (cn hq8),
     hN 15 true (cn hq8),
     hN 16 true (cn hq8),
     hN 17 true (cn hq8),
     hS 18 (oY rfl rfl rfl rfl (lt_of rfl) (dF hq7) (r_pickF (b := (!h.f_Certs)) (av := vB false) (lt_of rfl) ⟨rfl, trivial⟩ (cn hq8))),
     hP 19 (dF hq7),
     hY0 21,
     hY0 22,
     hY0 23,
     hY0 24,
     hP0 25] ?_
   by_cases hq9 : ((m.f_Certs.length : Nat) : Int) > 8
   ·refine cT (dT hq9) ?_
    refine sR [] ?_
    refine T.ret (rT ?_)
    exact eRt 4 (Z3r) [] (cB (by (refine dF (fun h9 => ?_); exact absurd h9.2.2.2.2.1 (by omega)))) trivial
   refine cF (dF hq9) ?_
   refine T.skip (nT (T.seq ?_))
   refine sR [] ?_
   refine T.block ?_
   refine T.loop (ι := Nat) (fun (k : Nat) => (Z3u tm m h k)) (fun (k : Nat) => (k ≤ m.f_Certs.length) ∧ (∀ j, j < k → (m.f_Certs.getD j zC).f_Votes.length ≤ 7)) (fun (k : Nat) => m.f_Certs.length - k) (0) ⟨(Nat.zero_le _), (fun j hj => absurd hj (Nat.not_lt_zero _))⟩ (fun _ _ hG => Gs.iI [0, 1] (bm 53 4503599694500607) rfl rfl hG) ?_
   rintro k ⟨hk, hb⟩
   show T _ _ (Z3u tm m h k) _ _
   replace hk : k ≤ m.f_Certs.length := hk
   replace hb : ∀ j, j < k → (m.f_Certs.getD j zC).f_Votes.length ≤ 7 := hb
   refine T.seq ?_
   refine sR [] ?_
   by_cases hq10 : ((k : Nat) : Int) < ((m.f_Certs.length : Nat) : Int)
   ·refine cT (dT hq10) ?_
    refine T.skip (nT (T.seq ?_))
    refine T.block ?_
    refine sR [hR 3 rfl rfl (q_index tm false (kC tm) m.f_Certs k (k := .i64) (i := ((k : Nat) : Int)) Tryz.underlying44 iat_38 rfl rfl (by omega) (lt_of rfl) trivial)] ?_
    by_cases hq11 : (((m.f_Certs.getD k zC).f_Votes.length : Nat) : Int) > 7
    ·refine cT (dT hq11) ?_
     refine sR [] ?_
     refine T.ret (rB (rT (rT (rB (rT ?_)))))
     exact eRt 4 (Z3r) [] (cB (by (refine dF (fun h9 => ?_); exact absurd (h9.2.2.2.2.2 _ (getD_mem (z := zC) (k := k) (by omega))) (by omega)))) trivial
    refine cF (dF hq11) ?_
    refine T.skip ?_
    refine nB ?_
    refine nT ?_
    refine xK [hR 1 rfl rfl (r_bin (u1 := .int .i64 ((k : Nat) : Int)) (u2 := .int .i64 1) (v := .int .i64 ((k + 1 : Nat) : Int)) (b_add (by rw [IntKind.wrap_i64]; omega)) (lt_of rfl) ⟨rfl, trivial⟩)] ?_
    refine nL (k + 1) ⟨(show (k + 1) ≤ m.f_Certs.length from (by omega)), (show ∀ j, j < (k + 1) → (m.f_Certs.getD j zC).f_Votes.length ≤ 7 from (all_succ hb (by omega)))⟩ (show (m.f_Certs.length - (k + 1) : Nat) < m.f_Certs.length - k from (by omega)) (fun _ _ hG => Gs.iI [0, 1] (bm 53 4503599694500607) rfl rfl hG)
   refine cF (dF hq10) ?_
   refine T.exit ?_
   refine xT ?_
   refine xT ?_
   refine xH ?_
   refine nT ?_
   refine sR [] ?_
   refine T.ret ?_
   exact eRt 4 (Z3x) [] (cB (by (refine dT ⟨by omega, by omega, (fun h8 => by exact absurd h8.2 ‹_›), (fun h8 => by exact absurd ‹_› h8.1), by omega, fewV_all hb (by omega)⟩))) trivial
  replace hq8 := Bool.eq_false_iff.2 hq8
  by_cases hq12 : ((m.f_Certs.length : Nat) : Int) > 0
  ·refine sR [hY 4 (dT hq6),
     hY 5 (dT hq6),
     hY 6 (dT hq6),
     hY 7 (dT hq6),
     hP 8 (dT hq6),
     hY 10 (dF hq7),
     hY 11 (dF hq7),
     hY 12 (dF hq7),
     hY 13 (dF hq7),
     hY 14 (cn hq8),
     hY 15 (cn hq8),
     hY 16 (cn hq8),
     hY 17 (cn hq8),
     hS 18 (oY rfl rfl rfl rfl (lt_of rfl) (dF hq7) (r_pickT (b := (!h.f_Certs)) (av := (Z3y m)) (lt_of rfl) trivial (cn hq8))),
     hP 19 (dF hq7),
     hN 21 false (dT hq12),
     hN 22 false (dT hq12),
     hN 23 false (dT hq12),
     hN 24 false (dT hq12),
     hP 25 (dT hq12)] ?_
   refine cT (b := true) rfl ?_
   refine sR [] ?_
   refine T.ret (rT ?_)
   exact eRt 4 (Z3r) [] (cB (by (refine dF (fun h9 => ?_); exact h9.2.2.2.1 ⟨(by exact nbB ‹_›), by assumption⟩))) trivial
  refine sR [hY 4 (dT hq6),
    hY 5 (dT hq6),
    hY 6 (dT hq6),
    hY 7 (dT hq6),
    hP 8 (dT hq6),
    hY 10 (dF hq7),
    hY 11 (dF hq7),
    hY 12 (dF hq7),
    hY 13 (dF hq7),
    hY 14 (cn hq8),
    hY 15 (cn hq8),
    hY 16 (cn hq8),
    hY 17 (cn hq8),
    hS 18 (oY rfl rfl rfl rfl (lt_of rfl) (dF hq7) (r_pickT (b := (!h.f_Certs)) (av := (Z3y m)) (lt_of rfl) trivial (cn hq8))),
    hP 19 (dF hq7),
    hY 21 (dF hq12),
    hY 22 (dF hq12),
    hY 23 (dF hq12),
    hY 24 (dF hq12),
    hP 25 (dF hq12)] ?_
  by_cases hq13 : ((m.f_Certs.length : Nat) : Int) > 8
  ·refine cT (dT hq13) ?_
   refine sR [] ?_
   refine T.ret (rT ?_)
   exact eRt 4 (Z3r) [] (cB (by (refine dF (fun h9 => ?_); exact absurd h9.2.2.2.2.1 (by omega)))) trivial
  refine cF (dF hq13) ?_
  refine T.skip (nT (T.seq ?_))
  refine sR [] ?_
  refine T.block ?_
  refine T.loop (ι := Nat) (fun (k : Nat) => (Z3u tm m h k)) (fun (k : Nat) => (k ≤ m.f_Certs.length) ∧ (∀ j, j < k → (m.f_Certs.getD j zC).f_Votes.length ≤ 7)) (fun (k : Nat) => m.f_Certs.length - k) (0) ⟨(Nat.zero_le _), (fun j hj => absurd hj (Nat.not_lt_zero _))⟩ (fun _ _ hG => Gs.iI [0, 1] (bm 53 4503599694500607) rfl rfl hG) ?_
  rintro k ⟨hk, hb⟩
  show T _ _ (Z3u tm m h k) _ _
  replace hk : k ≤ m.f_Certs.length := hk
  replace hb : ∀ j, j < k → (m.f_Certs.getD j zC).f_Votes.length ≤ 7 := hb
  refine T.seq ?_
  refine sR [] ?_
  by_cases hq14 : ((k : Nat) : Int) < ((m.f_Certs.length : Nat) : Int)
  ·refine cT (dT hq14) ?_
   refine T.skip (nT (T.seq ?_))
   refine T.block ?_
   refine sR [hR 3 rfl rfl (q_index tm false (kC tm) m.f_Certs k (k := .i64) (i := ((k : Nat) : Int)) Tryz.underlying44 iat_38 rfl rfl (by omega) (lt_of rfl) trivial)] ?_
   by_cases hq15 : (((m.f_Certs.getD k zC).f_Votes.length : Nat) : Int) > 7
   ·refine cT (dT hq15) ?_
    refine sR [] ?_
    refine T.ret (rB (rT (rT (rB (rT ?_)))))
    exact eRt 4 (Z3r) [] (cB (by (refine dF (fun h9 => ?_); exact absurd h9.2.2.2.2.1 (by omega)))) trivial
   refine cF (dF hq15) ?_
   refine T.skip ?_
   refine nB ?_
   refine nT ?_
   refine xK [hR 1 rfl rfl (r_bin (u1 := .int .i64 ((k : Nat) : Int)) (u2 := .int .i64 1) (v := .int .i64 ((k + 1 : Nat) : Int)) (b_add (by rw [IntKind.wrap_i64]; omega)) (lt_of rfl) ⟨rfl, trivial⟩)] ?_
   refine nL (k + 1) ⟨(show (k + 1) ≤ m.f_Certs.length from (by omega)), (show ∀ j, j < (k + 1) → (m.f_Certs.getD j zC).f_Votes.length ≤ 7 from (all_succ hb (by omega)))⟩ (show (m.f_Certs.length - (k + 1) : Nat) < m.f_Certs.length - k from (by omega)) (fun _ _ hG => Gs.iI [0, 1] (bm 53 4503599694500607) rfl rfl hG)
  refine cF (dF hq14) ?_
  refine T.exit ?_
  refine xT ?_
  refine xT ?_
  refine xH ?_
  refine nT ?_
  refine sR [] ?_
  refine T.ret ?_
  exact eRt 4 (Z3x) [] (cB (by (refine dT ⟨by omega, by omega, (fun h8 => by exact absurd h8.2 ‹_›), (fun h8 => by exact absurd h8.2 ‹_›), by omega, fewV_all hb (by omega)⟩))) trivial
 by_cases hq16 : h.f_Certs = true
 ·refine sR [hN 4 true (dF hq6),
    hN 5 true (dF hq6),
    hN 6 true (dF hq6),
    hN 7 true (dF hq6),
    hP 8 (dF hq6),
    hY0 10,
    hY0 11,
    hY0 12,
    hY0 13,
    hN 14 true (cn hq16),
    hN 15 true (cn hq16),
    hN 16 true (cn hq16),
    hN 17 true (cn hq16),
    hS 18 (oY (b := false) rfl rfl rfl rfl (lt_of rfl) rfl (r_pickF (b := (!h.f_Certs)) (av := vB false) (lt_of rfl) ⟨rfl, trivial⟩ (cn hq16))),
    hP0 19,
    hY0 21,
    hY0 22,
    hY0 23,
    hY0 24,
    hP0 25] ?_
  by_cases hq17 : ((m.f_Certs.length : Nat) : Int) > 8
  ·refine cT (dT hq17) ?_
   refine sR [] ?_
   refine T.ret (rT ?_)
   exact eRt 4 (Z3r) [] (cB (by (refine dF (fun h9 => ?_); exact absurd h9.2.2.2.2.1 (by omega)))) trivial
  refine cF (dF hq17) ?_
  refine T.skip (nT (T.seq ?_))
  refine sR [] ?_
  refine T.block ?_
  refine T.loop (ι := Nat) (fun (k : Nat) => (Z3u tm m h k)) (fun (k : Nat) => (k ≤ m.f_Certs.length) ∧ (∀ j, j < k → (m.f_Certs.getD j zC).f_Votes.length ≤ 7)) (fun (k : Nat) => m.f_Certs.length - k) (0) ⟨(Nat.zero_le _), (fun j hj => absurd hj (Nat.not_lt_zero _))⟩ (fun _ _ hG => Gs.iI [0, 1] (bm 53 4503599694500607) rfl rfl hG) ?_
  rintro k ⟨hk, hb⟩
  show T _ _ (Z3u tm m h k) _ _
  replace hk : k ≤ m.f_Certs.length := hk
  replace hb : ∀ j, j < k → (m.f_Certs.getD j zC).f_Votes.length ≤ 7 := hb
  refine T.seq ?_
  refine sR [] ?_
  by_cases hq18 : ((k : Nat) : Int) < ((m.f_Certs.length : Nat) : Int)
  ·refine cT (dT hq18) ?_
   refine T.skip (nT (T.seq ?_))
   refine T.block ?_
   refine sR [hR 3 rfl rfl (q_index tm false (kC tm) m.f_Certs k (k := .i64) (i := ((k : Nat) : Int)) Tryz.underlying44 iat_38 rfl rfl (by omega) (lt_of rfl) trivial)] ?_
   by_cases hq19 : (((m.f_Certs.getD k zC).f_Votes.length : Nat) : Int) > 7
   ·refine cT (dT hq19) ?_
    refine sR [] ?_
    refine T.ret (rB (rT (rT (rB (rT ?_)))))
    exact eRt 4 (Z3r) [] (cB (by (refine dF (fun h9 => ?_); exact absurd (h9.2.2.2.2.2 _ (getD_mem (z := zC) (k := k) (by omega))) (by omega)))) trivial
   refine cF (dF hq19) ?_
   refine T.skip ?_
   refine nB ?_
   refine nT ?_
   refine xK [hR 1 rfl rfl (r_bin (u1 := .int .i64 ((k : Nat) : Int)) (u2 := .int .i64 1) (v := .int .i64 ((k + 1 : Nat) : Int)) (b_add (by rw [IntKind.wrap_i64]; omega)) (lt_of rfl) ⟨rfl, trivial⟩)] ?_
   refine nL (k + 1) ⟨(show (k + 1) ≤ m.f_Certs.length from (by omega)), (show ∀ j, j < (k + 1) → (m.f_Certs.getD j zC).f_Votes.length ≤ 7 from (all_succ hb (by omega)))⟩ (show (m.f_Certs.length - (k + 1) : Nat) < m.f_Certs.length - k from (by omega)) (fun _ _ hG => Gs.iI [0, 1] (bm 53 4503599694500607) rfl rfl hG)
  refine cF (dF hq18) ?_
  refine T.exit ?_
  refine xT ?_
  refine xT ?_
  refine xH ?_
  refine nT ?_
  refine sR [] ?_
  refine T.ret ?_
  exact eRt 4 (Z3x) [] (cB (by (refine dT ⟨by omega, by omega, (fun h8 => by exact absurd h8.1 ‹_›), (fun h8 => by exact absurd ‹_› h8.1), by omega, fewV_all hb (by omega)⟩))) trivial
 replace hq16 := Bool.eq_false_iff.2 hq16
 by_cases hq20 : ((m.f_Certs.length : Nat) : Int) > 0
 ·refine sR [hN 4 true (dF hq6),
    hN 5 true (dF hq6),
    hN 6 true (dF hq6),
    hN 7 true (dF hq6),
    hP 8 (dF hq6),
    hY0 10,
    hY0 11,
    hY0 12,
    hY0 13,
    hY 14 (cn hq16),
    hY 15 (cn hq16),
    hY 16 (cn hq16),
    hY 17 (cn hq16),
    hS 18 (oY (b := false) rfl rfl rfl rfl (lt_of rfl) rfl (r_pickT (b := (!h.f_Certs)) (av := (Z3y m)) (lt_of rfl) trivial (cn hq16))),
    hP0 19,
    hN 21 false (dT hq20),
    hN 22 false (dT hq20),
    hN 23 false (dT hq20),
    hN 24 false (dT hq20),
    hP 25 (dT hq20)] ?_
  refine cT (b := true) rfl ?_
  refine sR [] ?_
  refine T.ret (rT ?_)
  exact eRt 4 (Z3r) [] (cB (by (refine dF (fun h9 => ?_); exact h9.2.2.2.1 ⟨(by exact nbB ‹_›), by assumption⟩))) trivial
 refine sR [hN 4 true (dF hq6),
   hN 5 true (dF hq6),
   hN 6 true (dF hq6),
   hN 7 true (dF hq6),
   hP 8 (dF hq6),
   hY0 10,
   hY0 11,
   hY0 12,
   hY0 13,
   hY 14 (cn hq16),
   hY 15 (cn hq16),
   hY 16 (cn hq16),
   hY 17 (cn hq16),
   hS 18 (oY (b := false) rfl rfl rfl rfl (lt_of rfl) rfl (r_pickT (b := (!h.f_Certs)) (av := (Z3y m)) (lt_of rfl) trivial (cn hq16))),
   hP0 19,
   hY 21 (dF hq20),
   hY 22 (dF hq20),
   hY 23 (dF hq20),
   hY 24 (dF hq20),
   hP 25 (dF hq20)] ?_
 by_cases hq21 : ((m.f_Certs.length : Nat) : Int) > 8
 ·refine cT (dT hq21) ?_
  refine sR [] ?_
  refine T.ret (rT ?_)
  exact eRt 4 (Z3r) [] (cB (by (refine dF (fun h9 => ?_); exact absurd h9.2.2.2.2.1 (by omega)))) trivial
 refine cF (dF hq21) ?_
 refine T.skip (nT (T.seq ?_))
 refine sR [] ?_
 refine T.block ?_
 refine T.loop (ι := Nat) (fun (k : Nat) => (Z3u tm m h k)) (fun (k : Nat) => (k ≤ m.f_Certs.length) ∧ (∀ j, j < k → (m.f_Certs.getD j zC).f_Votes.length ≤ 7)) (fun (k : Nat) => m.f_Certs.length - k) (0) ⟨(Nat.zero_le _), (fun j hj => absurd hj (Nat.not_lt_zero _))⟩ (fun _ _ hG => Gs.iI [0, 1] (bm 53 4503599694500607) rfl rfl hG) ?_
 rintro k ⟨hk, hb⟩
 show T _ _ (Z3u tm m h k) _ _
 replace hk : k ≤ m.f_Certs.length := hk
 replace hb : ∀ j, j < k → (m.f_Certs.getD j zC).f_Votes.length ≤ 7 := hb
 refine T.seq ?_
 refine sR [] ?_
 by_cases hq22 : ((k : Nat) : Int) < ((m.f_Certs.length : Nat) : Int)
 ·refine cT (dT hq22) ?_
  refine T.skip (nT (T.seq ?_))
  refine T.block ?_
  refine sR [hR 3 rfl rfl (q_index tm false (kC tm) m.f_Certs k (k := .i64) (i := ((k : Nat) : Int)) Tryz.underlying44 iat_38 rfl rfl (by omega) (lt_of rfl) trivial)] ?_
  by_cases hq23 : (((m.f_Certs.getD k zC).f_Votes.length : Nat) : Int) > 7
  ·refine cT (dT hq23) ?_
   refine sR [] ?_
   refine T.ret (rB (rT (rT (rB (rT ?_)))))
   exact eRt 4 (Z3r) [] (cB (by (refine dF (fun h9 => ?_); exact absurd h9.2.2.2.2.1 (by omega)))) trivial
  refine cF (dF hq23) ?_
  refine T.skip ?_
  refine nB ?_
  refine nT ?_
  refine xK [hR 1 rfl rfl (r_bin (u1 := .int .i64 ((k : Nat) : Int)) (u2 := .int .i64 1) (v := .int .i64 ((k + 1 : Nat) : Int)) (b_add (by rw [IntKind.wrap_i64]; omega)) (lt_of rfl) ⟨rfl, trivial⟩)] ?_
  refine nL (k + 1) ⟨(show (k + 1) ≤ m.f_Certs.length from (by omega)), (show ∀ j, j < (k + 1) → (m.f_Certs.getD j zC).f_Votes.length ≤ 7 from (all_succ hb (by omega)))⟩ (show (m.f_Certs.length - (k + 1) : Nat) < m.f_Certs.length - k from (by omega)) (fun _ _ hG => Gs.iI [0, 1] (bm 53 4503599694500607) rfl rfl hG)
 refine cF (dF hq22) ?_
 refine T.exit ?_
 refine xT ?_
 refine xT ?_
 refine xH ?_
 refine nT ?_
 refine sR [] ?_
 refine T.ret ?_
 exact eRt 4 (Z3x) [] (cB (by (refine dT ⟨by omega, by omega, (fun h8 => by exact absurd h8.1 ‹_›), (fun h8 => by exact absurd h8.2 ‹_›), by omega, fewV_all hb (by omega)⟩))) trivial
end Go.Proofs.YtalapplihdmenaaGreat.Q
