import Derived.Test.YtalapplihdmenaaGreatC13n30
namespace Go.Proofs.YtalapplihdmenaaGreat.Q
open Go Go.RowKit
set_option linter.unusedVariables false
set_option linter.unusedSimpArgs false
set_option maxRecDepth 100000
set_option maxHeartbeats 4000000
section
variable (te : Bool) (e : aE)
end
section
variable (tc : Bool) (c : aC) (kind : Int) (need : Int)
end
abbrev Zk0 (a : List aE) (b : List aE) : AV := vB (decide (((a.length : Nat) : Int) ≠ ((b.length : Nat) : Int)))
theorem ref03_All (ta : Bool) (na : Bool) (sa : Bool) (tb : Bool) (nb : Bool) (sb : Bool) (a : List aE) (b : List aE) (hl : a.length ≤ 9223372036854775807) : Holds Tryz.prog 31 ⟨[slV ta na (kE sa) a, slV tb nb (kE sb) b], [], vB (decide (a = b)), []⟩ := by
 refine Holds.of Tryz.func31 rfl (N := 27) Tryz.ntmps31 rfl fun w0 B0 S0 U0 => ?_
 show T _ (mkBase 27 0 w0 S0 U0 B0) ⟨[slV ta na (kE sa) a, slV tb nb (kE sb) b], []⟩ _ _
 refine sR [] ?_
 refine T.seq ?_
 refine sR [] ?_
 by_cases hq1 : ((a.length : Nat) : Int) ≠ ((b.length : Nat) : Int)
 ·refine cT (dT hq1) ?_
  refine sR [] ?_
  refine T.ret (rT ?_)
  exact eRt 4 (.one (dB false)) [] (by have e1 : ((decide (a = b)) : Bool) = false := (by exact dF (fun e => by have h9 : a.length ≠ b.length := (by omega); exact h9 (by rw [e]))); have hE := cB e1; exact hE) trivial
 refine cF (dF hq1) ?_
 refine T.skip (nT (T.seq ?_))
 refine sR [] ?_
 refine T.block ?_
 refine T.loop (ι := Nat) (fun (k : Nat) => ⟨[slV ta na (kE sa) a, slV tb nb (kE sb) b, aa, aa, vB false, vI ((k : Nat) : Int), aa, aa, aa, aa, (Zk0 a b)], []⟩) (fun (k : Nat) => (k ≤ a.length) ∧ (a.length = b.length) ∧ (∀ j, j < k → a.getD j zE = b.getD j zE)) (fun (k : Nat) => a.length - k) (0) ⟨(Nat.zero_le _), (by omega), (fun j hj => absurd hj (Nat.not_lt_zero _))⟩ (fun _ _ hG => Gs.iI [] (bm 11 1075) rfl rfl hG) ?_
 rintro k ⟨hk, hab, hb⟩
 show T _ _ ⟨[slV ta na (kE sa) a, slV tb nb (kE sb) b, aa, aa, vB false, vI ((k : Nat) : Int), aa, aa, aa, aa, (Zk0 a b)], []⟩ _ _
 replace hk : k ≤ a.length := hk
 replace hab : a.length = b.length := hab
 replace hb : ∀ j, j < k → a.getD j zE = b.getD j zE := hb
 refine T.seq ?_
 refine sR [] ?_
 by_cases hq2 : ((k : Nat) : Int) < ((a.length : Nat) : Int)
 ·refine cT (dT hq2) ?_
  refine T.skip (nT (T.seq ?_))
  refine T.block ?_
  refine sD [[], [], [0, 1], [0, 1, 2], [], [], [4, 5], [4, 5, 6], [0, 1, 2, 3, 4, 5, 6, 7], [0, 1, 2, 3, 4, 5, 6, 7, 8]] [hR 2 rfl rfl (q_index ta na (kE sa) a k (k := .i64) (i := ((k : Nat) : Int)) Tryz.underlying36 iat_35 rfl rfl (by omega) (lt_of rfl) trivial),
    hR 6 rfl rfl (q_index tb nb (kE sb) b k (k := .i64) (i := ((k : Nat) : Int)) Tryz.underlying36 iat_35 rfl rfl (by omega) (lt_of rfl) trivial),
    hR 8 rfl rfl (rCa (ref03_Same sa sb (a.getD k zE) (b.getD k zE) ) Tryz.func59 [] [(.tmp 20, .tv (.agg [dI (a.getD k zE).f_Signer, .d (dsl sa false kU8 (a.getD k zE).f_Body)])), (.tmp 24, .tv (.agg [dI (b.getD k zE).f_Signer, .d (dsl sb false kU8 (b.getD k zE).f_Body)]))] 0 0)] ?_
  by_cases hq3 : (a.getD k zE) = (b.getD k zE)
  ·refine cF (cn (dT hq3)) ?_
   refine T.skip ?_
   refine nB ?_
   refine nT ?_
   refine xK [hR 1 rfl rfl (r_bin (u1 := .int .i64 ((k : Nat) : Int)) (u2 := .int .i64 1) (v := .int .i64 ((k + 1 : Nat) : Int)) (b_add (by rw [IntKind.wrap_i64]; omega)) (lt_of rfl) ⟨rfl, trivial⟩)] ?_
   refine nL (k + 1) ⟨(show (k + 1) ≤ a.length from (by omega)), (show a.length = b.length from hab), (show ∀ j, j < (k + 1) → a.getD j zE = b.getD j zE from (all_succ hb ‹_›))⟩ (show (a.length - (k + 1) : Nat) < a.length - k from (by omega)) (fun _ _ hG => Gs.iI [] (bm 11 1075) rfl rfl hG)
  refine cT (cn (dF hq3)) ?_
  refine sR [] ?_
  refine T.ret (rB (rT (rT (rB (rT ?_)))))
  exact eRt 4 (.one (dB false)) [] (by have e1 : ((decide (a = b)) : Bool) = false := (by exact dF (fun e => by have h9 : a.getD k zE ≠ b.getD k zE := ‹_›; exact h9 (by rw [e]))); have hE := cB e1; exact hE) trivial
 refine cF (dF hq2) ?_
 refine T.exit ?_
 refine xT ?_
 refine xT ?_
 refine xH ?_
 refine nT ?_
 refine sR [] ?_
 refine T.ret ?_
 exact eRt 4 (.one (dB true)) [] (cB (by exact dT (rows_eq (z := zE) (k := k) hab (by omega) hb))) trivial
abbrev Zk1 (c : aC) : SV := dI c.f_Pre.f_Signer
theorem ref12_Certs (ta : Bool) (tb : Bool) (c : aC) (hc : c.f_Votes.length ≤ 1000000) : Holds Tryz.prog 32 ⟨[.tv (.agg [dI c.f_Pre.f_Signer, .d (dsl ta false kU8 c.f_Pre.f_Body), .d (dsl ta false (kE ta) c.f_Votes)]), .tv (.agg [dI c.f_Pre.f_Signer, .d (dsl tb false kU8 c.f_Pre.f_Body), .d (dsl tb false (kE tb) c.f_Votes)])], [], vB true, []⟩ := by
 refine Holds.of Tryz.func32 rfl (N := 17) Tryz.ntmps32 rfl fun w0 B0 S0 U0 => ?_
 show T _ (mkBase 17 0 w0 S0 U0 B0) ⟨[.tv (.agg [(Zk1 c), .d (dsl ta false kU8 c.f_Pre.f_Body), .d (dsl ta false (kE ta) c.f_Votes)]), .tv (.agg [(Zk1 c), .d (dsl tb false kU8 c.f_Pre.f_Body), .d (dsl tb false (kE tb) c.f_Votes)])], []⟩ _ _
 refine sR [] ?_
 refine sR [hR 4 rfl rfl (rCa (ref03_Same ta tb c.f_Pre c.f_Pre ) Tryz.func59 [] [(.tmp 6, .tv (.agg [(Zk1 c), .d (dsl ta false kU8 c.f_Pre.f_Body)])), (.tmp 8, .tv (.agg [(Zk1 c), .d (dsl tb false kU8 c.f_Pre.f_Body)]))] 0 0),
   hY 6 (show decide (c.f_Pre = c.f_Pre) = true from dT (Eq.refl _)),
   hY 7 (show decide (c.f_Pre = c.f_Pre) = true from dT (Eq.refl _)),
   hY 8 (show decide (c.f_Pre = c.f_Pre) = true from dT (Eq.refl _)),
   hY 9 (show decide (c.f_Pre = c.f_Pre) = true from dT (Eq.refl _)),
   hS 10 (oY rfl rfl rfl rfl (lt_of rfl) (show decide (c.f_Pre = c.f_Pre) = true from dT (Eq.refl _)) (rCa (ref03_All ta false ta tb false tb c.f_Votes c.f_Votes (by omega)) Tryz.func31 [] [(.tmp 12, slV ta false (kE ta) c.f_Votes), (.tmp 14, slV tb false (kE tb) c.f_Votes)] 0 0)),
   hP 11 (show decide (c.f_Pre = c.f_Pre) = true from dT (Eq.refl _))] ?_
 refine T.ret ?_
 exact eRt 4 (.one (dB (decide (c.f_Votes = c.f_Votes)))) [] (by have e1 : (true : Bool) = (decide (c.f_Votes = c.f_Votes)) := (by (simp; done)); have hE := cB e1; exact hE) trivial
section
variable (ta : Bool) (tb : Bool) (m : aM) (k : Nat)
abbrev Zk2 : SV := dI m.f_Result.f_Code
abbrev Zk3 : SV := dI m.f_Result.f_Stage
abbrev Zk4 : List SV := [dI m.f_Kind, dI m.f_View, dI m.f_Seq, dI m.f_Client, dI m.f_Stamp, dS m.f_Digest, .d (dsl ta false kU8 m.f_Data), (Zk2 m), (Zk3 m), .d (dsl ta false (kE ta) m.f_Batch), .d (dsl ta false (kE ta) m.f_Pres), .d (dsl ta false (kC ta) m.f_Certs)]
abbrev Zk5 : List SV := [dI m.f_Kind, dI m.f_View, dI m.f_Seq, dI m.f_Client, dI m.f_Stamp, dS m.f_Digest, .d (dsl tb false kU8 m.f_Data), (Zk2 m), (Zk3 m), .d (dsl tb false (kE tb) m.f_Batch), .d (dsl tb false (kE tb) m.f_Pres), .d (dsl tb false (kC tb) m.f_Certs)]
abbrev Zk6 : AV := vB (decide (m.f_Result ≠ m.f_Result))
abbrev Zk7 : AV := vB (decide (((m.f_Certs.length : Nat) : Int) ≠ ((m.f_Certs.length : Nat) : Int)))
abbrev Zk8 : List HS := [.live (.box 46 (Zk4 ta m)), .live (.box 46 (Zk5 tb m))]
abbrev Zk9 : St := ⟨[.tv (.agg (Zk4 ta m)), .tv (.agg (Zk5 tb m)), pv 0 0, pv 1 0, vB false, vI ((k : Nat) : Int), aa, aa, aa, aa, aa, aa, aa, aa, aa, aa, aa, aa, aa, aa, aa, aa, aa, aa, aa, aa, aa, aa, aa, aa, aa, aa, aa, aa, aa, aa, aa, aa, aa, aa, aa, aa, aa, aa, aa, aa, aa, aa, aa, aa, aa, aa, aa, aa, aa, aa, aa, aa, aa, aa, (Zk6 m), aa, aa, aa, aa, aa, aa, aa, aa, aa, aa, aa, aa, aa, aa, aa, aa, aa, aa, aa, aa, aa, aa, (Zk7 m)], (Zk8 ta tb m)⟩
end
theorem ref12_Same (ta : Bool) (tb : Bool) (m : aM) (hs : smM m) : Holds Tryz.prog 14 ⟨[.tv (.agg [dI m.f_Kind, dI m.f_View, dI m.f_Seq, dI m.f_Client, dI m.f_Stamp, dS m.f_Digest, .d (dsl ta false kU8 m.f_Data), dI m.f_Result.f_Code, dI m.f_Result.f_Stage, .d (dsl ta false (kE ta) m.f_Batch), .d (dsl ta false (kE ta) m.f_Pres), .d (dsl ta false (kC ta) m.f_Certs)]), .tv (.agg [dI m.f_Kind, dI m.f_View, dI m.f_Seq, dI m.f_Client, dI m.f_Stamp, dS m.f_Digest, .d (dsl tb false kU8 m.f_Data), dI m.f_Result.f_Code, dI m.f_Result.f_Stage, .d (dsl tb false (kE tb) m.f_Batch), .d (dsl tb false (kE tb) m.f_Pres), .d (dsl tb false (kC tb) m.f_Certs)])], [], vB true, []⟩ := by
 refine Holds.of Tryz.func14 rfl (N := 103) Tryz.ntmps14 rfl fun w0 B0 S0 U0 => ?_
 show T _ (mkBase 103 0 w0 S0 U0 B0) ⟨[.tv (.agg (Zk4 ta m)), .tv (.agg (Zk5 tb m))], []⟩ _ _
 obtain ⟨hs1, hs2, hs3, hs4⟩ := hs
 refine sR [] ?_
 refine T.seq ?_
 refine sR [hY 6 (show decide (m.f_Kind ≠ m.f_Kind) = false from dF (fun h => h rfl)),
   hY 7 (show decide (m.f_Kind ≠ m.f_Kind) = false from dF (fun h => h rfl)),
   hY 8 (show decide (m.f_Kind ≠ m.f_Kind) = false from dF (fun h => h rfl)),
   hY 9 (show decide (m.f_Kind ≠ m.f_Kind) = false from dF (fun h => h rfl)),
   hY 10 (show decide (m.f_Kind ≠ m.f_Kind) = false from dF (fun h => h rfl)),
   hP 11 (show decide (m.f_Kind ≠ m.f_Kind) = false from dF (fun h => h rfl)),
   hY 13 (show decide (m.f_View ≠ m.f_View) = false from dF (fun h => h rfl)),
   hY 14 (show decide (m.f_View ≠ m.f_View) = false from dF (fun h => h rfl)),
   hY 15 (show decide (m.f_View ≠ m.f_View) = false from dF (fun h => h rfl)),
   hY 16 (show decide (m.f_View ≠ m.f_View) = false from dF (fun h => h rfl)),
   hY 17 (show decide (m.f_View ≠ m.f_View) = false from dF (fun h => h rfl)),
   hP 18 (show decide (m.f_View ≠ m.f_View) = false from dF (fun h => h rfl)),
   hY 20 (show decide (m.f_Seq ≠ m.f_Seq) = false from dF (fun h => h rfl)),
   hY 21 (show decide (m.f_Seq ≠ m.f_Seq) = false from dF (fun h => h rfl)),
   hY 22 (show decide (m.f_Seq ≠ m.f_Seq) = false from dF (fun h => h rfl)),
   hY 23 (show decide (m.f_Seq ≠ m.f_Seq) = false from dF (fun h => h rfl)),
   hY 24 (show decide (m.f_Seq ≠ m.f_Seq) = false from dF (fun h => h rfl)),
   hP 25 (show decide (m.f_Seq ≠ m.f_Seq) = false from dF (fun h => h rfl)),
   hY 27 (show decide (m.f_Client ≠ m.f_Client) = false from dF (fun h => h rfl)),
   hY 28 (show decide (m.f_Client ≠ m.f_Client) = false from dF (fun h => h rfl)),
   hY 29 (show decide (m.f_Client ≠ m.f_Client) = false from dF (fun h => h rfl)),
   hY 30 (show decide (m.f_Client ≠ m.f_Client) = false from dF (fun h => h rfl)),
   hY 31 (show decide (m.f_Client ≠ m.f_Client) = false from dF (fun h => h rfl)),
   hP 32 (show decide (m.f_Client ≠ m.f_Client) = false from dF (fun h => h rfl)),
   hY 34 (show decide (m.f_Stamp ≠ m.f_Stamp) = false from dF (fun h => h rfl)),
   hY 35 (show decide (m.f_Stamp ≠ m.f_Stamp) = false from dF (fun h => h rfl)),
   hY 36 (show decide (m.f_Stamp ≠ m.f_Stamp) = false from dF (fun h => h rfl)),
   hY 37 (show decide (m.f_Stamp ≠ m.f_Stamp) = false from dF (fun h => h rfl)),
   hY 38 (show decide (m.f_Stamp ≠ m.f_Stamp) = false from dF (fun h => h rfl)),
   hP 39 (show decide (m.f_Stamp ≠ m.f_Stamp) = false from dF (fun h => h rfl)),
   hY 41 (show decide (m.f_Digest ≠ m.f_Digest) = false from dF (fun h => h rfl)),
   hY 42 (show decide (m.f_Digest ≠ m.f_Digest) = false from dF (fun h => h rfl)),
   hY 43 (show decide (m.f_Digest ≠ m.f_Digest) = false from dF (fun h => h rfl)),
   hY 44 (show decide (m.f_Digest ≠ m.f_Digest) = false from dF (fun h => h rfl)),
   hS 45 (oY rfl rfl rfl rfl (lt_of rfl) (show decide (m.f_Digest ≠ m.f_Digest) = false from dF (fun h => h rfl)) (rCa (ref01_Same ta false tb false m.f_Data m.f_Data ) Tryz.func30 [] [(.tmp 48, slV ta false kU8 m.f_Data), (.tmp 50, slV tb false kU8 m.f_Data)] 0 0)),
   hY 46 (show decide (m.f_Digest ≠ m.f_Digest) = false from dF (fun h => h rfl)),
   hP 47 (show decide (m.f_Digest ≠ m.f_Digest) = false from dF (fun h => h rfl)),
   hY 49 (cn (show decide (m.f_Data = m.f_Data) = true from dT (Eq.refl _))),
   hY 50 (cn (show decide (m.f_Data = m.f_Data) = true from dT (Eq.refl _))),
   hY 51 (cn (show decide (m.f_Data = m.f_Data) = true from dT (Eq.refl _))),
   hY 52 (cn (show decide (m.f_Data = m.f_Data) = true from dT (Eq.refl _))),
   hS 53 (oY rfl rfl rfl rfl (lt_of rfl) (cn (show decide (m.f_Data = m.f_Data) = true from dT (Eq.refl _))) (r_neSt (ax := .tv (.agg [(Zk2 m), (Zk3 m)])) (ay := .tv (.agg [(Zk2 m), (Zk3 m)])) (a := m.f_Result) (b := m.f_Result) seq_43 ⟨[.int .i64 m.f_Result.f_Code, .int .i64 m.f_Result.f_Stage], rfl, rfl⟩ ⟨[.int .i64 m.f_Result.f_Code, .int .i64 m.f_Result.f_Stage], rfl, rfl⟩ (lt_of rfl) (by exact trivial))),
   hP 54 (cn (show decide (m.f_Data = m.f_Data) = true from dT (Eq.refl _)))] ?_
 refine cF (show decide (m.f_Result ≠ m.f_Result) = false from dF (fun h => h rfl)) ?_
 refine T.skip (nT (T.seq ?_))
 refine sR [hR 4 rfl rfl (rCa (ref03_All ta false ta tb false tb m.f_Batch m.f_Batch (by omega)) Tryz.func31 [] [(.tmp 62, slV ta false (kE ta) m.f_Batch), (.tmp 64, slV tb false (kE tb) m.f_Batch)] 0 0),
   hY 7 (cn (show decide (m.f_Batch = m.f_Batch) = true from dT (Eq.refl _))),
   hY 8 (cn (show decide (m.f_Batch = m.f_Batch) = true from dT (Eq.refl _))),
   hY 9 (cn (show decide (m.f_Batch = m.f_Batch) = true from dT (Eq.refl _))),
   hY 10 (cn (show decide (m.f_Batch = m.f_Batch) = true from dT (Eq.refl _))),
   hS 11 (oY rfl rfl rfl rfl (lt_of rfl) (cn (show decide (m.f_Batch = m.f_Batch) = true from dT (Eq.refl _))) (rCa (ref03_All ta false ta tb false tb m.f_Pres m.f_Pres (by omega)) Tryz.func31 [] [(.tmp 69, slV ta false (kE ta) m.f_Pres), (.tmp 71, slV tb false (kE tb) m.f_Pres)] 0 0)),
   hY 12 (cn (show decide (m.f_Batch = m.f_Batch) = true from dT (Eq.refl _))),
   hP 13 (cn (show decide (m.f_Batch = m.f_Batch) = true from dT (Eq.refl _))),
   hY 15 (cn (show decide (m.f_Pres = m.f_Pres) = true from dT (Eq.refl _))),
   hY 16 (cn (show decide (m.f_Pres = m.f_Pres) = true from dT (Eq.refl _))),
   hY 17 (cn (show decide (m.f_Pres = m.f_Pres) = true from dT (Eq.refl _))),
   hY 18 (cn (show decide (m.f_Pres = m.f_Pres) = true from dT (Eq.refl _))),
   hY 19 (cn (show decide (m.f_Pres = m.f_Pres) = true from dT (Eq.refl _))),
   hY 20 (cn (show decide (m.f_Pres = m.f_Pres) = true from dT (Eq.refl _))),
   hY 21 (cn (show decide (m.f_Pres = m.f_Pres) = true from dT (Eq.refl _))),
   hP 22 (cn (show decide (m.f_Pres = m.f_Pres) = true from dT (Eq.refl _)))] ?_
 refine cF (show decide (((m.f_Certs.length : Nat) : Int) ≠ ((m.f_Certs.length : Nat) : Int)) = false from dF (fun h => h rfl)) ?_
 refine T.skip (nT (T.seq ?_))
 refine sR [] ?_
 refine T.block ?_
 refine T.loop (ι := Nat) (fun (k : Nat) => (Zk9 ta tb m k)) (fun (k : Nat) => (k ≤ m.f_Certs.length)) (fun (k : Nat) => m.f_Certs.length - k) (0) (Nat.zero_le _) (fun _ _ hG => Gs.iI [0, 1] (bm 84 9671407709838538004496447) rfl rfl hG) ?_
 rintro k hk
 show T _ _ (Zk9 ta tb m k) _ _
 replace hk : k ≤ m.f_Certs.length := hk
 refine T.seq ?_
 refine sR [] ?_
 by_cases hq1 : ((k : Nat) : Int) < ((m.f_Certs.length : Nat) : Int)
 ·have hsk := hs4 _ (getD_mem (z := zC) (show k < m.f_Certs.length by omega))
  refine cT (dT hq1) ?_
  refine T.skip (nT (T.seq ?_))
  refine T.block ?_
  refine sD [[], [0], [], [0, 1, 2], [0, 1, 2, 3], [], [5], [], [5, 6, 7], [5, 6, 7, 8], [0, 1, 2, 3, 4, 5, 6, 7, 8, 9], [0, 1, 2, 3, 4, 5, 6, 7, 8, 9, 10]] [hR 3 rfl rfl (q_index ta false (kC ta) m.f_Certs k (k := .i64) (i := ((k : Nat) : Int)) Tryz.underlying44 iat_38 rfl rfl (by omega) (lt_of rfl) trivial),
    hR 8 rfl rfl (q_index tb false (kC tb) m.f_Certs k (k := .i64) (i := ((k : Nat) : Int)) Tryz.underlying44 iat_38 rfl rfl (by omega) (lt_of rfl) trivial),
    hR 10 rfl rfl (rCa (ref12_Certs ta tb (m.f_Certs.getD k zC) ‹_›) Tryz.func32 [] [(.tmp 95, .tv (.agg [dI (m.f_Certs.getD k zC).f_Pre.f_Signer, .d (dsl ta false kU8 (m.f_Certs.getD k zC).f_Pre.f_Body), .d (dsl ta false (kE ta) (m.f_Certs.getD k zC).f_Votes)])), (.tmp 100, .tv (.agg [dI (m.f_Certs.getD k zC).f_Pre.f_Signer, .d (dsl tb false kU8 (m.f_Certs.getD k zC).f_Pre.f_Body), .d (dsl tb false (kE tb) (m.f_Certs.getD k zC).f_Votes)]))] 0 0)] ?_
  refine cF (b := (!true)) rfl ?_
  refine T.skip ?_
  refine nB ?_
  refine nT ?_
  refine xK [hR 1 rfl rfl (r_bin (u1 := .int .i64 ((k : Nat) : Int)) (u2 := .int .i64 1) (v := .int .i64 ((k + 1 : Nat) : Int)) (b_add (by rw [IntKind.wrap_i64]; omega)) (lt_of rfl) ⟨rfl, trivial⟩)] ?_
  refine nL (k + 1) (show (k + 1) ≤ m.f_Certs.length from (by omega)) (show (m.f_Certs.length - (k + 1) : Nat) < m.f_Certs.length - k from (by omega)) (fun _ _ hG => Gs.iI [0, 1] (bm 84 9671407709838538004496447) rfl rfl hG)
 refine cF (dF hq1) ?_
 refine T.exit ?_
 refine xT ?_
 refine xT ?_
 refine xH ?_
 refine nT ?_
 refine sR [] ?_
 refine T.ret ?_
 exact eRt 4 (.one (dB true)) [] rfl trivial
end Go.Proofs.YtalapplihdmenaaGreat.Q
