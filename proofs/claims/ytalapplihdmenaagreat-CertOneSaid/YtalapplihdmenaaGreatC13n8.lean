import Derived.Test.YtalapplihdmenaaGreatC13n7
namespace Go.Proofs.YtalapplihdmenaaGreat.Q
open Go Go.RowKit
set_option linter.unusedVariables false
set_option linter.unusedSimpArgs false
set_option maxRecDepth 100000
set_option maxHeartbeats 4000000
theorem iat_38 : Tryz.prog.info? 38 = some Tryz.t38 := by kernel_rfl
theorem wide_38 : Wide Tryz.prog 38 (some 3) := ⟨_, _, Tryz.underlying38, .inl ⟨_, rfl⟩, iat_38, rfl⟩
abbrev Z2s : AV := dv (.func (.func 119) #[] #[])
abbrev Z2t (l : List aC) : AV := vI ((l.length : Nat) : Int)
theorem idx_Cert (tl : Bool) (nl : Bool) (sl_ : Bool) (l : List aC) (hl : l.length ≤ 9223372036854775807) : Holds Tryz.prog 129 ⟨[slV tl nl (kC sl_) l, dv (.func (.func 119) #[] #[])], [], vI (idxV l), []⟩ := by
 refine Holds.of Tryz.func129 rfl (N := 19) Tryz.ntmps129 rfl fun w0 B0 S0 U0 => ?_
 show T _ (mkBase 19 0 w0 S0 U0 B0) ⟨[slV tl nl (kC sl_) l, Z2s], []⟩ _ _
 refine sR [] ?_
 refine T.seq ?_
 refine sR [] ?_
 refine T.block ?_
 refine T.loop (ι := Nat) (fun (k : Nat) => ⟨[slV tl nl (kC sl_) l, Z2s, aa, aa, vI 0, aa, aa, (Z2t l), vI ((k : Nat) : Int)], []⟩) (fun (k : Nat) => (k ≤ l.length) ∧ (∀ j, j < k → (l.getD j zC).f_Votes.length ≤ 7)) (fun (k : Nat) => l.length - k) (0) ⟨(Nat.zero_le _), (fun j hj => absurd hj (Nat.not_lt_zero _))⟩ (fun _ _ hG => Gs.iI [] (bm 9 403) rfl rfl hG) ?_
 rintro k ⟨hk, hb⟩
 show T _ _ ⟨[slV tl nl (kC sl_) l, Z2s, aa, aa, vI 0, aa, aa, (Z2t l), vI ((k : Nat) : Int)], []⟩ _ _
 replace hk : k ≤ l.length := hk
 replace hb : ∀ j, j < k → (l.getD j zC).f_Votes.length ≤ 7 := hb
 refine sR [] ?_
 refine T.seq ?_
 by_cases hq1 : ((k : Nat) : Int) < ((l.length : Nat) : Int)
 ·refine cT (dT hq1) ?_
  refine T.skip (nT (T.seq ?_))
  refine T.block ?_
  refine sR [] ?_
  refine sR [hR 3 rfl rfl (q_index tl nl (kC sl_) l k (k := .i64) (i := ((k : Nat) : Int)) Tryz.underlying44 iat_38 rfl rfl (by omega) (lt_of rfl) trivial),
    hR 5 rfl rfl (r_callV (fs := #[]) (cs := #[]) (msg_Check1 sl_ (l.getD k zC) ) Tryz.func119 rfl (by decide) [] [] (l := [(.tmp 15, .tv (.agg [dI (l.getD k zC).f_Pre.f_Signer, .d (dsl sl_ false kU8 (l.getD k zC).f_Pre.f_Body), .d (dsl sl_ false (kE sl_) (l.getD k zC).f_Votes)]))]) [] rfl 0 0 rfl rfl rfl rfl rfl rfl rfl rfl rfl rfl rfl ⟨⟨.inl ⟨rfl, rfl⟩, ⟨.inl ⟨rfl, rfl⟩, ⟨.inl ⟨rfl, rfl⟩, trivial⟩⟩⟩, trivial⟩ rfl (fun b hb => by cases hb) (.inl rfl) (lt_of rfl) trivial)] ?_
  by_cases hq2 : (((l.getD k zC).f_Votes.length : Nat) : Int) > 7
  ·refine cT (dT hq2) ?_
   refine sR [] ?_
   refine T.ret (rB (rT (rT (rB (rT ?_)))))
   exact eRt 4 (.one (dI ((k : Nat) : Int))) [] (cI (by exact idx_at hb (by omega) (by omega))) trivial
  refine cF (dF hq2) ?_
  refine T.skip ?_
  refine nB ?_
  refine nT ?_
  refine xK [hR 0 rfl rfl (r_bin (u1 := .int .i64 ((k : Nat) : Int)) (u2 := .int .i64 1) (v := .int .i64 ((k + 1 : Nat) : Int)) (b_add (by rw [IntKind.wrap_i64]; omega)) (lt_of rfl) ⟨rfl, trivial⟩)] ?_
  refine nL (k + 1) ⟨(show (k + 1) ≤ l.length from (by omega)), (show ∀ j, j < (k + 1) → (l.getD j zC).f_Votes.length ≤ 7 from (all_succ hb (by omega)))⟩ (show (l.length - (k + 1) : Nat) < l.length - k from (by omega)) (fun _ _ hG => Gs.iI [] (bm 9 403) rfl rfl hG)
 refine cF (dF hq1) ?_
 refine T.exit ?_
 refine xT ?_
 refine xT ?_
 refine xH ?_
 refine nT ?_
 refine sR [] ?_
 refine T.ret ?_
 exact eRt 4 (.one (dI (-1))) [] (cI (by exact idx_no hb (by omega))) trivial
theorem has_Cert (tl : Bool) (nl : Bool) (sl_ : Bool) (l : List aC) (hl : l.length ≤ 9223372036854775807) : Holds Tryz.prog 118 ⟨[slV tl nl (kC sl_) l, dv (.func (.func 119) #[] #[])], [], vB (decide (¬ fewV l)), []⟩ := by
 refine Holds.of Tryz.func118 rfl (N := 9) Tryz.ntmps118 rfl fun w0 B0 S0 U0 => ?_
 show T _ (mkBase 9 0 w0 S0 U0 B0) ⟨[slV tl nl (kC sl_) l, dv (.func (.func 119) #[] #[])], []⟩ _ _
 refine sR [] ?_
 refine sR [hR 2 rfl rfl (rCa (idx_Cert tl nl sl_ l ‹_›) Tryz.func129 [] [(.tmp 5, slV tl nl (kC sl_) l), (.tmp 6, dv (.func (.func 119) #[] #[]))] 0 0)] ?_
 refine T.ret ?_
 exact eRt 4 (.one (dB (decide ((idxV l) ≥ 0)))) [] (by have e1 : ((decide (¬ fewV l)) : Bool) = (decide ((idxV l) ≥ 0)) := (by (rw [decide_eq_decide]; exact (idx_few _).symm)); have hE := cB e1; exact hE) trivial
end Go.Proofs.YtalapplihdmenaaGreat.Q
