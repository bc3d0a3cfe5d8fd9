import Derived.Test.YtalapplihdmenaaC13n32
namespace Go.Proofs.Ytalapplihdmenaa.Q
open Go Go.RowKit
set_option linter.unusedVariables false
set_option linter.unusedSimpArgs false
set_option maxRecDepth 100000
set_option maxHeartbeats 4000000
abbrev zbd04_0 (a : List api_Envelope) (b : List api_Envelope) : AV := vB (decide (((a.length : Nat) : Int) ≠ ((b.length : Nat) : Int)))
theorem ref03_All (ta : Bool) (na : Bool) (sa : Bool) (tb : Bool) (nb : Bool) (sb : Bool) (a : List api_Envelope) (b : List api_Envelope) (hl : a.length ≤ 9223372036854775807) : Holds Try.prog 19 ⟨[slV ta na (k_api_Envelope sa) a, slV tb nb (k_api_Envelope sb) b], [], vB (decide (a = b)), []⟩ := by
 refine Holds.of Try.func19 rfl (N := 27) Try.ntmps19 rfl fun w0 B0 S0 U0 => ?_
 show T _ (mkBase 27 0 w0 S0 U0 B0) ⟨[slV ta na (k_api_Envelope sa) a, slV tb nb (k_api_Envelope sb) b], []⟩ _ _
 refine sR [] ?_
 refine T.seq ?_
 refine sR [] ?_
 by_cases hq1 : ((a.length : Nat) : Int) ≠ ((b.length : Nat) : Int)
 ·refine cT (decide_eq_true hq1) ?_
  refine sR [] ?_
  refine T.ret (rT ?_)
  exact eRt 4 (.one (dB false)) [] (by have e1 : ((decide (a = b)) : Bool) = false := (by exact decide_eq_false (fun e => by have h9 : a.length ≠ b.length := (by omega); exact h9 (by rw [e]))); have hE := congrArg (fun (q1 : Bool) => (vB q1 : AV)) e1; exact hE) trivial
 refine cF (decide_eq_false hq1) ?_
 refine T.skip (nT (T.seq ?_))
 refine sR [] ?_
 refine T.block ?_
 refine T.loop (ι := Nat) (fun (k : Nat) => ⟨[slV ta na (k_api_Envelope sa) a, slV tb nb (k_api_Envelope sb) b, aa, aa, vB false, vI ((k : Nat) : Int), aa, aa, aa, aa, (zbd04_0 a b)], []⟩) (fun (k : Nat) => (k ≤ a.length) ∧ (a.length = b.length) ∧ (∀ j, j < k → a.getD j z_api_Envelope = b.getD j z_api_Envelope)) (fun (k : Nat) => a.length - k) (0) ⟨(Nat.zero_le _), (by omega), (fun j hj => absurd hj (Nat.not_lt_zero _))⟩ (fun _ _ hG => Gs.iI [] (bm 11 1075) rfl rfl hG) ?_
 rintro k ⟨hk, hab, hb⟩
 show T _ _ ⟨[slV ta na (k_api_Envelope sa) a, slV tb nb (k_api_Envelope sb) b, aa, aa, vB false, vI ((k : Nat) : Int), aa, aa, aa, aa, (zbd04_0 a b)], []⟩ _ _
 replace hk : k ≤ a.length := hk
 replace hab : a.length = b.length := hab
 replace hb : ∀ j, j < k → a.getD j z_api_Envelope = b.getD j z_api_Envelope := hb
 refine T.seq ?_
 refine sR [] ?_
 by_cases hq2 : ((k : Nat) : Int) < ((a.length : Nat) : Int)
 ·refine cT (decide_eq_true hq2) ?_
  refine T.skip (nT (T.seq ?_))
  refine T.block ?_
  refine sD [[], [], [0, 1], [0, 1, 2], [], [], [4, 5], [4, 5, 6], [0, 1, 2, 3, 4, 5, 6, 7], [0, 1, 2, 3, 4, 5, 6, 7, 8]] [hR 2 rfl rfl (q_index ta na (k_api_Envelope sa) a k (k := .i64) (i := ((k : Nat) : Int)) Try.underlying31 iat_40 rfl rfl (by omega) (lt_of rfl) trivial),
    hR 6 rfl rfl (q_index tb nb (k_api_Envelope sb) b k (k := .i64) (i := ((k : Nat) : Int)) Try.underlying31 iat_40 rfl rfl (by omega) (lt_of rfl) trivial),
    hR 8 rfl rfl (rCa (ref03_Same sa sb (a.getD k z_api_Envelope) (b.getD k z_api_Envelope) ) Try.func38 [] [(.tmp 20, .tv (.agg [dI (a.getD k z_api_Envelope).f_Signer, .d (dsl sa false kU8 (a.getD k z_api_Envelope).f_Body)])), (.tmp 24, .tv (.agg [dI (b.getD k z_api_Envelope).f_Signer, .d (dsl sb false kU8 (b.getD k z_api_Envelope).f_Body)]))] 0 0)] ?_
  by_cases hq3 : (a.getD k z_api_Envelope) = (b.getD k z_api_Envelope)
  ·refine cF (congrArg Bool.not (decide_eq_true hq3)) ?_
   refine T.skip ?_
   refine nB ?_
   refine nT ?_
   refine xR [hR 1 rfl rfl (r_bin (u1 := .int .i64 ((k : Nat) : Int)) (u2 := .int .i64 1) (v := .int .i64 ((k + 1 : Nat) : Int)) (b_add (by rw [IntKind.wrap_i64]; omega)) (lt_of rfl) ⟨rfl, trivial⟩)] (by kernel_rfl) (by kernel_rfl) ?_
   refine nL (k + 1) ⟨(show (k + 1) ≤ a.length from (by omega)), (show a.length = b.length from hab), (show ∀ j, j < (k + 1) → a.getD j z_api_Envelope = b.getD j z_api_Envelope from (all_succ hb (by assumption)))⟩ (show (a.length - (k + 1) : Nat) < a.length - k from (by omega)) (fun _ _ hG => Gs.iI [] (bm 11 1075) rfl rfl hG)
  refine cT (congrArg Bool.not (decide_eq_false hq3)) ?_
  refine sR [] ?_
  refine T.ret (rB (rT (rT (rB (rT ?_)))))
  exact eRt 4 (.one (dB false)) [] (by have e1 : ((decide (a = b)) : Bool) = false := (by exact decide_eq_false (fun e => by have h9 : a.getD k z_api_Envelope ≠ b.getD k z_api_Envelope := (by assumption); exact h9 (by rw [e]))); have hE := congrArg (fun (q1 : Bool) => (vB q1 : AV)) e1; exact hE) trivial
 refine cF (decide_eq_false hq2) ?_
 refine T.exit ?_
 refine xT ?_
 refine xT ?_
 refine xH ?_
 refine nT ?_
 refine sR [] ?_
 refine T.ret ?_
 exact eRt 4 (.one (dB true)) [] (congrArg (fun (q1 : Bool) => (vB q1 : AV)) (by exact decide_eq_true (rows_eq (z := z_api_Envelope) (k := k) hab (by omega) hb))) trivial
end Go.Proofs.Ytalapplihdmenaa.Q
