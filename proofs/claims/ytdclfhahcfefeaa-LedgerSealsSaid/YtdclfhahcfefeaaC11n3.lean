import Derived.Test.YtdclfhahcfefeaaC11n2
namespace Go.Proofs.Ytdclfhahcfefeaa.Q
open Go Go.RowKit
set_option linter.unusedVariables false
set_option linter.unusedSimpArgs false
set_option maxRecDepth 100000
set_option maxHeartbeats 4000000
-- quaestor/merkle.split
theorem merkle_split (n : Nat) (h2 : 2 ≤ n) (hn : n ≤ 9223372036854775807) : Holds Try.prog 85 ⟨[dv (.int .i64 ((n : Nat) : Int))], [], dv (.int .i64 ((half n : Nat) : Int)), []⟩ := by
  refine Holds.of Try.func85 rfl (N := 9) Try.ntmps85 rfl fun w0 B0 S0 U0 => ?_
  show T _ (mkBase 9 0 w0 S0 U0 B0) ⟨[dv (.int .i64 ((n : Nat) : Int))], []⟩ _ _
  have hlg := log_le hn h2
  refine T.seq ?_
  refine xR [] (by kernel_rfl) (by kernel_rfl) ?_
  refine nT ?_
  refine T.seq ?_
  refine xR [hR 1 rfl rfl (r_bin (u1 := .int .i64 ((n : Nat) : Int)) (u2 := .int .i64 1) (v := .int .i64 ((n - 1 : Nat) : Int)) (b_sub (by rw [IntKind.wrap_i64]; omega)) (lt_of rfl) ⟨rfl, trivial⟩),
    hR 2 rfl rfl (r_conv (u := .int .i64 ((n - 1 : Nat) : Int)) (v := .int .u64 ((n - 1 : Nat) : Int)) (c_int Try.underlying3 Try.underlying125 (by (rw [IntKind.wrap_u64]; omega))) (lt_of rfl) trivial),
    hR 3 rfl rfl (r_call (bits_Len (n - 1) (by omega)) Try.func91 rfl (by decide) [] [] (l := [(.tmp 5, dv (.int .u64 ((n - 1 : Nat) : Int)))]) [] rfl 0 0 rfl rfl rfl rfl rfl rfl rfl rfl rfl ⟨.inl ⟨rfl, rfl⟩, trivial⟩ rfl (fun b hb => by cases hb) (.inl rfl) (lt_of rfl) trivial),
    hR 4 rfl rfl (r_bin (u1 := .int .i64 ((lenN (n - 1) : Nat) : Int)) (u2 := .int .i64 1) (v := .int .i64 ((Nat.log2 (n - 1) : Nat) : Int)) (b_sub (by rw [lenN_pos (by omega), IntKind.wrap_i64]; omega)) (lt_of rfl) ⟨rfl, trivial⟩),
    hR 5 rfl rfl (r_bin (u1 := .int .i64 1) (u2 := .int .i64 ((Nat.log2 (n - 1) : Nat) : Int)) (v := .int .i64 ((half n : Nat) : Int)) (b_shl (n := Nat.log2 (n - 1)) rfl (Nat.le_trans hlg (by decide)) (shl_half hn h2)) (lt_of rfl) ⟨rfl, trivial⟩)] (by kernel_rfl) (by kernel_rfl) ?_
  refine nT ?_
  refine T.ret ?_
  exact tE (.inl rfl) [.t 2 (.one (.d (.val (.int .i64 ((half n : Nat) : Int)))))] ⟨⟨rfl, by kernel_rfl⟩, trivial⟩ [] rfl rfl rfl rfl rfl rfl trivial
end Go.Proofs.Ytdclfhahcfefeaa.Q
namespace Go.Proofs.Ytdclfhahcfefeaa.Q
open Go Go.RowKit
set_option linter.unusedVariables false
set_option linter.unusedSimpArgs false
set_option maxRecDepth 100000
set_option maxHeartbeats 4000000
-- quaestor/quaestorref09.half
theorem ref09_half (n : Nat) (h2 : 2 ≤ n) (hn : n ≤ 9223372036854775807) : Holds Try.prog 93 ⟨[dv (.int .i64 ((n : Nat) : Int))], [], dv (.int .i64 ((half n : Nat) : Int)), []⟩ := by
  refine Holds.of Try.func93 rfl (N := 12) Try.ntmps93 rfl fun w0 B0 S0 U0 => ?_
  show T _ (mkBase 12 0 w0 S0 U0 B0) ⟨[dv (.int .i64 ((n : Nat) : Int))], []⟩ _ _
  refine T.seq ?_
  refine xR [] (by kernel_rfl) (by kernel_rfl) ?_
  refine nT ?_
  refine T.seq ?_
  refine xR [] (by kernel_rfl) (by kernel_rfl) ?_
  refine nT ?_
  refine T.seq ?_
  refine T.block ?_
  refine T.loop (ι := Nat) (fun (K : Nat) => ⟨[dv (.int .i64 ((n : Nat) : Int)), aa, dv (.int .i64 0), dv (.int .i64 ((K : Nat) : Int))], []⟩) (fun (K : Nat) => (∃ j, K = 2 ^ j) ∧ (K < n)) (fun (K : Nat) => n - K) (1) ⟨⟨0, rfl⟩, (by omega)⟩ (fun _ _ hG => Gs.into2 (s' := ⟨[dv (.int .i64 ((n : Nat) : Int)), aa, dv (.int .i64 0), dv (.int .i64 1)], []⟩) [] (bm 4 13) (t1 := [dv (.int .i64 ((n : Nat) : Int)), aa, dv (.int .i64 0), dv (.int .i64 1)]) (h1 := []) rfl rfl (by kernel_rfl) (by kernel_rfl) (by kernel_rfl) (by kernel_rfl) (by kernel_rfl) (by kernel_rfl) (by kernel_rfl) (by kernel_rfl) (by kernel_rfl) (by kernel_rfl) (by kernel_rfl) hG) ?_
  rintro K ⟨hp, hK⟩
  show T _ _ ⟨[dv (.int .i64 ((n : Nat) : Int)), aa, dv (.int .i64 0), dv (.int .i64 ((K : Nat) : Int))], []⟩ _ _
  replace hp : ∃ j, K = 2 ^ j := hp
  replace hK : K < n := hK
  refine T.seq ?_
  refine T.seq ?_
  refine xR [hR 3 rfl rfl (r_bin (u1 := .int .i64 ((n : Nat) : Int)) (u2 := .int .i64 ((K : Nat) : Int)) (v := .int .i64 (((n : Nat) : Int) - ((K : Nat) : Int))) (b_sub (by rw [IntKind.wrap_i64]; omega)) (lt_of rfl) trivial)] (by kernel_rfl) (by kernel_rfl) ?_
  refine nT ?_
  by_cases hq1 : ((K : Nat) : Int) < (((n : Nat) : Int) - ((K : Nat) : Int))
  · refine T.condT (by kernel_rfl) (decide_eq_true hq1) ?_
    refine T.skip ?_
    refine nT ?_
    refine T.block ?_
    refine xR [hR 1 rfl rfl (r_bin (u1 := .int .i64 2) (u2 := .int .i64 ((K : Nat) : Int)) (v := .int .i64 ((2 * K : Nat) : Int)) (b_mul (by rw [IntKind.wrap_i64]; omega)) (lt_of rfl) ⟨rfl, trivial⟩)] (by kernel_rfl) (by kernel_rfl) ?_
    refine nB ?_
    refine nL (2 * K) ⟨(show ∃ j, (2 * K) = 2 ^ j from (by obtain ⟨j, hj⟩ := hp; exact ⟨j + 1, by rw [hj, Nat.pow_succ]; omega⟩)), (show (2 * K) < n from (by omega))⟩ (show (n - (2 * K) : Nat) < n - K from (by have hK0 : 0 < K := (by obtain ⟨j, hj⟩ := hp; rw [hj]; exact Nat.pow_pos (by decide)); omega)) (fun _ _ hG => Gs.into2 (s' := ⟨[dv (.int .i64 ((n : Nat) : Int)), aa, dv (.int .i64 0), dv (.int .i64 ((2 * K : Nat) : Int))], []⟩) [] (bm 4 13) (t1 := [dv (.int .i64 ((n : Nat) : Int)), aa, dv (.int .i64 0), dv (.int .i64 ((2 * K : Nat) : Int))]) (h1 := []) rfl rfl (by kernel_rfl) (by kernel_rfl) (by kernel_rfl) (by kernel_rfl) (by kernel_rfl) (by kernel_rfl) (by kernel_rfl) (by kernel_rfl) (by kernel_rfl) (by kernel_rfl) (by kernel_rfl) hG)
  · refine T.condF (by kernel_rfl) (decide_eq_false hq1) ?_
    refine T.exit ?_
    refine xT ?_
    refine xT ?_
    refine xH ?_
    refine nT ?_
    refine T.seq ?_
    refine xR [] (by kernel_rfl) (by kernel_rfl) ?_
    refine nT ?_
    refine T.ret ?_
    exact tE (.inl rfl) [.t 2 (.one (.d (.val (.int .i64 ((K : Nat) : Int)))))] ⟨⟨rfl, by kernel_rfl⟩, trivial⟩ [] (by have e1 : (((half n : Nat) : Int) : Int) = ((K : Nat) : Int) := (by (rw [half_of hp hK (by omega)])); have hE := congrArg (fun (q1 : Int) => (dv (.int .i64 q1) : AV)) e1; exact hE) rfl rfl rfl rfl rfl trivial
end Go.Proofs.Ytdclfhahcfefeaa.Q
namespace Go.Proofs.Ytdclfhahcfefeaa.Q
open Go Go.RowKit
set_option linter.unusedVariables false
set_option linter.unusedSimpArgs false
set_option maxRecDepth 100000
set_option maxHeartbeats 4000000
-- quaestor/merkle.Root
theorem merkle_Root_rec : ∀ (N : Nat) (tl : Bool) (nl : Bool) (sl_ : Bool) (l : List (List UInt8)) (hf : fewG szL 40 600 l), l.length = N → Holds Try.prog 70 ⟨[slV tl nl (kSl sl_ kU8) l], [], dv (strV (rootB l)), []⟩ := by
  intro N
  induction N using Nat.strongRecOn with
  | _ N ih =>
    intro tl nl sl_ l hf hN
    refine Holds.of Try.func70 rfl (N := 28) Try.ntmps70 rfl fun w0 B0 S0 U0 => ?_
    show T _ (mkBase 28 0 w0 S0 U0 B0) ⟨[slV tl nl (kSl sl_ kU8) l], []⟩ _ _
    have hl40 := hf.1
    have hg0 : (l.getD 0 []).length ≤ 600 := fewG_get (sz := szL) hf (by decide) 0
    refine T.seq ?_
    refine xR [] (by kernel_rfl) (by kernel_rfl) ?_
    refine nT ?_
    refine T.seq ?_
    refine xR [] (by kernel_rfl) (by kernel_rfl) ?_
    refine nT ?_
    refine T.seq ?_
    refine xR [] (by kernel_rfl) (by kernel_rfl) ?_
    refine nT ?_
    refine T.block ?_
    refine T.seq ?_
    refine xR [] (by kernel_rfl) (by kernel_rfl) ?_
    refine nT ?_
    by_cases hq1 : ((l.length : Nat) : Int) = 0
    · refine T.condT (by kernel_rfl) (decide_eq_true hq1) ?_
      refine T.seq ?_
      refine xR [hR 0 rfl rfl (r_call (term_Of (4 : UInt8) false false false ([] : List (List UInt8)) (by decide)) Try.func33 rfl (by decide) [] [] (l := [(.const (.int .u8 4), dv (.int .u8 4)), (.const (.slice none 0 0), dv (.slice none 0 0))]) [] rfl 0 0 rfl rfl rfl rfl rfl rfl rfl rfl rfl ⟨.inl ⟨rfl, rfl⟩, ⟨.inr (.inr ⟨rfl, rfl, rfl⟩), trivial⟩⟩ rfl (fun b hb => by cases hb) (.inl rfl) (lt_of rfl) ⟨rfl, ⟨rfl, trivial⟩⟩)] (by kernel_rfl) (by kernel_rfl) ?_
      refine nT ?_
      refine T.ret ?_
      refine rB ?_
      exact tE (.inl rfl) [.t 2 (.one (.d (.val (strV (ofB (4 : UInt8) ([] : List (List UInt8)))))))] ⟨⟨rfl, by kernel_rfl⟩, trivial⟩ [] (by have e1 : ((rootB l) : List UInt8) = (ofB (4 : UInt8) ([] : List (List UInt8))) := (by exact root_0 (by omega)); have hE := congrArg (fun (q1 : List UInt8) => (dv (strV q1) : AV)) e1; exact hE) rfl rfl rfl rfl rfl trivial
    · refine T.condF (by kernel_rfl) (decide_eq_false hq1) ?_
      refine T.seq ?_
      refine xR [] (by kernel_rfl) (by kernel_rfl) ?_
      refine nT ?_
      by_cases hq2 : ((l.length : Nat) : Int) = 1
      · refine T.condT (by kernel_rfl) (decide_eq_true hq2) ?_
        refine T.seq ?_
        refine xR [hR 1 rfl rfl (q_index tl nl (kSl sl_ kU8) l 0 (k := .i64) (i := 0) Try.underlying101 iat_58 rfl rfl (by omega) (lt_of rfl) ⟨rfl, trivial⟩),
          hR 3 rfl rfl (r_call (term_Leaf (2 : UInt8) sl_ false (l.getD 0 []) (by omega)) Try.func58 rfl (by decide) [] [] (l := [(.const (.int .u8 2), dv (.int .u8 2)), (.tmp 26, slV sl_ false kU8 (l.getD 0 []))]) [] rfl 0 0 rfl rfl rfl rfl rfl rfl rfl rfl rfl ⟨.inl ⟨rfl, rfl⟩, ⟨.inl ⟨rfl, rfl⟩, trivial⟩⟩ rfl (fun b hb => by cases hb) (.inl rfl) (lt_of rfl) ⟨rfl, trivial⟩)] (by kernel_rfl) (by kernel_rfl) ?_
        refine nT ?_
        refine T.ret ?_
        refine rB ?_
        exact tE (.inl rfl) [.t 2 (.one (.d (.val (strV (ofB (2 : UInt8) [(l.getD 0 [])])))))] ⟨⟨rfl, by kernel_rfl⟩, trivial⟩ [] (by have e1 : ((rootB l) : List UInt8) = (ofB (2 : UInt8) [(l.getD 0 [])]) := (by exact root_1 (by omega)); have hE := congrArg (fun (q1 : List UInt8) => (dv (strV q1) : AV)) e1; exact hE) rfl rfl rfl rfl rfl trivial
      · have h2l : 2 ≤ l.length := (by omega); have hhl := half_lt h2l; have hhp := half_pos l.length; have hfa := few_root (fewG_take hf (half l.length)); have hfb := few_root (fewG_drop hf (half l.length))
        refine T.condF (by kernel_rfl) (decide_eq_false hq2) ?_
        refine T.seq ?_
        refine xR [hR 1 rfl rfl (r_call (merkle_split l.length (by assumption) (by omega)) Try.func85 rfl (by decide) [] [] (l := [(.tmp 8, dv (.int .i64 ((l.length : Nat) : Int)))]) [] rfl 0 0 rfl rfl rfl rfl rfl rfl rfl rfl rfl ⟨.inl ⟨rfl, rfl⟩, trivial⟩ rfl (fun b hb => by cases hb) (.inl rfl) (lt_of rfl) trivial)] (by kernel_rfl) (by kernel_rfl) ?_
        refine nT ?_
        refine T.seq ?_
        refine xD [[], [], [0, 1], [0, 1, 2], [], [], [4, 5], [0, 1, 2, 3, 4, 5, 6], [0, 1, 2, 3, 4, 5, 6, 7], [0, 1, 2, 3, 4, 5, 6, 7, 8]] [hR 2 rfl rfl (q_slice tl nl (kSl sl_ kU8) l (l.take (half l.length)) 0 (half l.length) (lo := none) (hi := some (.tmp 11, ((half l.length : Nat) : Int))) Try.underlying101 iat_58 rfl rfl rfl rfl rfl (by omega) (by omega) rfl (lt_of rfl) trivial),
          hR 3 rfl rfl (r_call (ih ((l.take (half l.length)).length) (show (l.take (half l.length)).length < N from (by (simp only [List.length_take, List.length_drop]; omega))) tl nl sl_ (l.take (half l.length)) (by exact fewG_take (by assumption) _) rfl) Try.func70 rfl (by decide) [] [] (l := [(.tmp 12, slV tl nl (kSl sl_ kU8) (l.take (half l.length)))]) [] rfl 0 0 rfl rfl rfl rfl rfl rfl rfl rfl rfl ⟨.inl ⟨rfl, rfl⟩, trivial⟩ rfl (fun b hb => by cases hb) (.inl rfl) (lt_of rfl) trivial),
          hR 6 rfl rfl (q_slice tl nl (kSl sl_ kU8) l (l.drop (half l.length)) (half l.length) l.length (lo := some (.tmp 15, ((half l.length : Nat) : Int))) (hi := none) Try.underlying101 iat_58 rfl rfl rfl rfl rfl (by omega) (by omega) (by rw [List.take_length]) (lt_of rfl) trivial),
          hR 7 rfl rfl (r_call (ih ((l.drop (half l.length)).length) (show (l.drop (half l.length)).length < N from (by (simp only [List.length_take, List.length_drop]; omega))) tl nl sl_ (l.drop (half l.length)) (by exact fewG_drop (by assumption) _) rfl) Try.func70 rfl (by decide) [] [] (l := [(.tmp 16, slV tl nl (kSl sl_ kU8) (l.drop (half l.length)))]) [] rfl 0 0 rfl rfl rfl rfl rfl rfl rfl rfl rfl ⟨.inl ⟨rfl, rfl⟩, trivial⟩ rfl (fun b hb => by cases hb) (.inl rfl) (lt_of rfl) trivial),
          hR 8 rfl rfl (r_call (term_Pair (3 : UInt8) (rootB (l.take (half l.length))) (rootB (l.drop (half l.length))) (by omega)) Try.func86 rfl (by decide) [] [] (l := [(.const (.int .u8 3), dv (.int .u8 3)), (.tmp 13, dv (strV (rootB (l.take (half l.length))))), (.tmp 17, dv (strV (rootB (l.drop (half l.length)))))]) [] rfl 0 0 rfl rfl rfl rfl rfl rfl rfl rfl rfl ⟨.inl ⟨rfl, rfl⟩, ⟨.inl ⟨rfl, rfl⟩, ⟨.inl ⟨rfl, rfl⟩, trivial⟩⟩⟩ rfl (fun b hb => by cases hb) (.inl rfl) (lt_of rfl) ⟨rfl, trivial⟩)] (by kernel_rfl) (by kernel_rfl) (by kernel_rfl) (by kernel_rfl) (by kernel_rfl) (by kernel_rfl) ?_
        refine nT ?_
        refine T.ret ?_
        refine rB ?_
        exact tE (.inl rfl) [.t 2 (.one (.d (.val (strV (ofB (3 : UInt8) [(rootB (l.take (half l.length))), (rootB (l.drop (half l.length)))])))))] ⟨⟨rfl, by kernel_rfl⟩, trivial⟩ [] (by have e1 : ((rootB l) : List UInt8) = (ofB (3 : UInt8) [(rootB (l.take (half l.length))), (rootB (l.drop (half l.length)))]) := (by exact root_2 h2l); have hE := congrArg (fun (q1 : List UInt8) => (dv (strV q1) : AV)) e1; exact hE) rfl rfl rfl rfl rfl trivial
theorem merkle_Root (tl : Bool) (nl : Bool) (sl_ : Bool) (l : List (List UInt8)) (hf : fewG szL 40 600 l) : Holds Try.prog 70 ⟨[slV tl nl (kSl sl_ kU8) l], [], dv (strV (rootB l)), []⟩ := merkle_Root_rec _ tl nl sl_ l hf rfl
end Go.Proofs.Ytdclfhahcfefeaa.Q
namespace Go.Proofs.Ytdclfhahcfefeaa.Q
open Go Go.RowKit
set_option linter.unusedVariables false
set_option linter.unusedSimpArgs false
set_option maxRecDepth 100000
set_option maxHeartbeats 4000000
-- quaestor/quaestorref09.Root
theorem ref09_Root_rec : ∀ (N : Nat) (tl : Bool) (nl : Bool) (sl_ : Bool) (l : List (List UInt8)) (hf : fewG szL 40 600 l), l.length = N → Holds Try.prog 90 ⟨[slV tl nl (kSl sl_ kU8) l], [], dv (strV (rootB l)), []⟩ := by
  intro N
  induction N using Nat.strongRecOn with
  | _ N ih =>
    intro tl nl sl_ l hf hN
    refine Holds.of Try.func90 rfl (N := 27) Try.ntmps90 rfl fun w0 B0 S0 U0 => ?_
    show T _ (mkBase 27 0 w0 S0 U0 B0) ⟨[slV tl nl (kSl sl_ kU8) l], []⟩ _ _
    have hl40 := hf.1
    have hg0 : (l.getD 0 []).length ≤ 600 := fewG_get (sz := szL) hf (by decide) 0
    refine T.seq ?_
    refine xR [] (by kernel_rfl) (by kernel_rfl) ?_
    refine nT ?_
    refine T.seq ?_
    refine T.seq ?_
    refine xR [] (by kernel_rfl) (by kernel_rfl) ?_
    refine nT ?_
    by_cases hq1 : ((l.length : Nat) : Int) = 0
    · refine T.condT (by kernel_rfl) (decide_eq_true hq1) ?_
      refine T.seq ?_
      refine xR [hR 0 rfl rfl (r_call (ref02_Of (4 : UInt8) false false false ([] : List (List UInt8)) (by decide)) Try.func61 rfl (by decide) [] [] (l := [(.const (.int .u8 4), dv (.int .u8 4)), (.const (.slice none 0 0), dv (.slice none 0 0))]) [] rfl 0 0 rfl rfl rfl rfl rfl rfl rfl rfl rfl ⟨.inl ⟨rfl, rfl⟩, ⟨.inr (.inr ⟨rfl, rfl, rfl⟩), trivial⟩⟩ rfl (fun b hb => by cases hb) (.inl rfl) (lt_of rfl) ⟨rfl, ⟨rfl, trivial⟩⟩)] (by kernel_rfl) (by kernel_rfl) ?_
      refine nT ?_
      refine T.ret ?_
      refine rT ?_
      exact tE (.inl rfl) [.t 2 (.one (.d (.val (strV (ofB (4 : UInt8) ([] : List (List UInt8)))))))] ⟨⟨rfl, by kernel_rfl⟩, trivial⟩ [] (by have e1 : ((rootB l) : List UInt8) = (ofB (4 : UInt8) ([] : List (List UInt8))) := (by exact root_0 (by omega)); have hE := congrArg (fun (q1 : List UInt8) => (dv (strV q1) : AV)) e1; exact hE) rfl rfl rfl rfl rfl trivial
    · refine T.condF (by kernel_rfl) (decide_eq_false hq1) ?_
      refine T.skip ?_
      refine nT ?_
      refine T.seq ?_
      refine T.seq ?_
      refine xR [] (by kernel_rfl) (by kernel_rfl) ?_
      refine nT ?_
      by_cases hq2 : ((l.length : Nat) : Int) = 1
      · refine T.condT (by kernel_rfl) (decide_eq_true hq2) ?_
        refine T.seq ?_
        refine xR [hR 1 rfl rfl (q_index tl nl (kSl sl_ kU8) l 0 (k := .i64) (i := 0) Try.underlying101 iat_58 rfl rfl (by omega) (lt_of rfl) ⟨rfl, trivial⟩),
          hR 3 rfl rfl (r_call (ref02_Leaf (2 : UInt8) sl_ false (l.getD 0 []) (by omega)) Try.func59 rfl (by decide) [] [] (l := [(.const (.int .u8 2), dv (.int .u8 2)), (.tmp 13, slV sl_ false kU8 (l.getD 0 []))]) [] rfl 0 0 rfl rfl rfl rfl rfl rfl rfl rfl rfl ⟨.inl ⟨rfl, rfl⟩, ⟨.inl ⟨rfl, rfl⟩, trivial⟩⟩ rfl (fun b hb => by cases hb) (.inl rfl) (lt_of rfl) ⟨rfl, trivial⟩)] (by kernel_rfl) (by kernel_rfl) ?_
        refine nT ?_
        refine T.ret ?_
        refine rT ?_
        exact tE (.inl rfl) [.t 2 (.one (.d (.val (strV (ofB (2 : UInt8) [(l.getD 0 [])])))))] ⟨⟨rfl, by kernel_rfl⟩, trivial⟩ [] (by have e1 : ((rootB l) : List UInt8) = (ofB (2 : UInt8) [(l.getD 0 [])]) := (by exact root_1 (by omega)); have hE := congrArg (fun (q1 : List UInt8) => (dv (strV q1) : AV)) e1; exact hE) rfl rfl rfl rfl rfl trivial
      · have h2l : 2 ≤ l.length := (by omega); have hhl := half_lt h2l; have hhp := half_pos l.length; have hfa := few_root (fewG_take hf (half l.length)); have hfb := few_root (fewG_drop hf (half l.length))
        refine T.condF (by kernel_rfl) (decide_eq_false hq2) ?_
        refine T.skip ?_
        refine nT ?_
        refine T.seq ?_
        refine xR [hR 2 rfl rfl (r_call (ref09_half l.length (by assumption) (by omega)) Try.func93 rfl (by decide) [] [] (l := [(.tmp 16, dv (.int .i64 ((l.length : Nat) : Int)))]) [] rfl 0 0 rfl rfl rfl rfl rfl rfl rfl rfl rfl ⟨.inl ⟨rfl, rfl⟩, trivial⟩ rfl (fun b hb => by cases hb) (.inl rfl) (lt_of rfl) trivial)] (by kernel_rfl) (by kernel_rfl) ?_
        refine nT ?_
        refine T.seq ?_
        refine xD [[], [], [0, 1], [0, 1, 2], [], [], [4, 5], [0, 1, 2, 3, 4, 5, 6], [0, 1, 2, 3, 4, 5, 6, 7], [0, 1, 2, 3, 4, 5, 6, 7, 8]] [hR 2 rfl rfl (q_slice tl nl (kSl sl_ kU8) l (l.take (half l.length)) 0 (half l.length) (lo := none) (hi := some (.tmp 19, ((half l.length : Nat) : Int))) Try.underlying101 iat_58 rfl rfl rfl rfl rfl (by omega) (by omega) rfl (lt_of rfl) trivial),
          hR 3 rfl rfl (r_call (ih ((l.take (half l.length)).length) (show (l.take (half l.length)).length < N from (by (simp only [List.length_take, List.length_drop]; omega))) tl nl sl_ (l.take (half l.length)) (by exact fewG_take (by assumption) _) rfl) Try.func90 rfl (by decide) [] [] (l := [(.tmp 20, slV tl nl (kSl sl_ kU8) (l.take (half l.length)))]) [] rfl 0 0 rfl rfl rfl rfl rfl rfl rfl rfl rfl ⟨.inl ⟨rfl, rfl⟩, trivial⟩ rfl (fun b hb => by cases hb) (.inl rfl) (lt_of rfl) trivial),
          hR 6 rfl rfl (q_slice tl nl (kSl sl_ kU8) l (l.drop (half l.length)) (half l.length) l.length (lo := some (.tmp 23, ((half l.length : Nat) : Int))) (hi := none) Try.underlying101 iat_58 rfl rfl rfl rfl rfl (by omega) (by omega) (by rw [List.take_length]) (lt_of rfl) trivial),
          hR 7 rfl rfl (r_call (ih ((l.drop (half l.length)).length) (show (l.drop (half l.length)).length < N from (by (simp only [List.length_take, List.length_drop]; omega))) tl nl sl_ (l.drop (half l.length)) (by exact fewG_drop (by assumption) _) rfl) Try.func90 rfl (by decide) [] [] (l := [(.tmp 24, slV tl nl (kSl sl_ kU8) (l.drop (half l.length)))]) [] rfl 0 0 rfl rfl rfl rfl rfl rfl rfl rfl rfl ⟨.inl ⟨rfl, rfl⟩, trivial⟩ rfl (fun b hb => by cases hb) (.inl rfl) (lt_of rfl) trivial),
          hR 8 rfl rfl (r_call (ref02_Pair (3 : UInt8) (rootB (l.take (half l.length))) (rootB (l.drop (half l.length))) (by omega)) Try.func94 rfl (by decide) [] [] (l := [(.const (.int .u8 3), dv (.int .u8 3)), (.tmp 21, dv (strV (rootB (l.take (half l.length))))), (.tmp 25, dv (strV (rootB (l.drop (half l.length)))))]) [] rfl 0 0 rfl rfl rfl rfl rfl rfl rfl rfl rfl ⟨.inl ⟨rfl, rfl⟩, ⟨.inl ⟨rfl, rfl⟩, ⟨.inl ⟨rfl, rfl⟩, trivial⟩⟩⟩ rfl (fun b hb => by cases hb) (.inl rfl) (lt_of rfl) ⟨rfl, trivial⟩)] (by kernel_rfl) (by kernel_rfl) (by kernel_rfl) (by kernel_rfl) (by kernel_rfl) (by kernel_rfl) ?_
        refine nT ?_
        refine T.ret ?_
        exact tE (.inl rfl) [.t 2 (.one (.d (.val (strV (ofB (3 : UInt8) [(rootB (l.take (half l.length))), (rootB (l.drop (half l.length)))])))))] ⟨⟨rfl, by kernel_rfl⟩, trivial⟩ [] (by have e1 : ((rootB l) : List UInt8) = (ofB (3 : UInt8) [(rootB (l.take (half l.length))), (rootB (l.drop (half l.length)))]) := (by exact root_2 h2l); have hE := congrArg (fun (q1 : List UInt8) => (dv (strV q1) : AV)) e1; exact hE) rfl rfl rfl rfl rfl trivial
theorem ref09_Root (tl : Bool) (nl : Bool) (sl_ : Bool) (l : List (List UInt8)) (hf : fewG szL 40 600 l) : Holds Try.prog 90 ⟨[slV tl nl (kSl sl_ kU8) l], [], dv (strV (rootB l)), []⟩ := ref09_Root_rec _ tl nl sl_ l hf rfl
end Go.Proofs.Ytdclfhahcfefeaa.Q
namespace Go.Proofs.Ytdclfhahcfefeaa.Q
open Go Go.RowKit
set_option linter.unusedVariables false
set_option linter.unusedSimpArgs false
set_option maxRecDepth 100000
set_option maxHeartbeats 4000000
theorem iat_3 : Try.prog.info? 3 = some Try.t3 := by kernel_rfl
theorem wide_3 : Wide Try.prog 3 none := ⟨_, Try.underlying3, (fun _ h => by cases h), (fun _ _ h => by cases h)⟩
-- quaestor/block.ints
theorem block_ints (tb : Bool) (nb : Bool) (b : List UInt8) (tl : Bool) (nl : Bool) (l : List Int) (hb : b.length ≤ 140737488350000) (hl : 1 ≤ l.length ∧ l.length ≤ 100) : Holds Try.prog 68 ⟨[slV tb nb kU8 b, slV tl nl (kInt .i64) l], [], ownV 0 kU8 0 (b ++ intsB l).length, [.live (arrK 5 kU8 (b ++ intsB l))]⟩ := by
  refine Holds.of Try.func68 rfl (N := 18) Try.ntmps68 rfl fun w0 B0 S0 U0 => ?_
  show T _ (mkBase 18 0 w0 S0 U0 B0) ⟨[slV tb nb kU8 b, slV tl nl (kInt .i64) l], []⟩ _ _
  refine T.seq ?_
  refine xR [] (by kernel_rfl) (by kernel_rfl) ?_
  refine nT ?_
  refine T.seq ?_
  refine T.seq ?_
  refine xR [] (by kernel_rfl) (by kernel_rfl) ?_
  refine nT ?_
  refine T.block ?_
  refine T.ofTL ?_
  refine TL.peel ?_
  refine T.seq ?_
  refine xR [] (by kernel_rfl) (by kernel_rfl) ?_
  refine nT ?_
  refine T.seq ?_
  by_cases hq1 : 0 < ((l.length : Nat) : Int)
  · refine T.condT (by kernel_rfl) (decide_eq_true hq1) ?_
    refine T.skip ?_
    refine nT ?_
    refine T.seq ?_
    refine T.block ?_
    refine T.seq ?_
    refine xR [hR 0 rfl rfl (q_index tl nl (kInt .i64) l 0 (k := .i64) (i := 0) Try.underlying122 iat_3 rfl rfl (by omega) (lt_of rfl) trivial)] (by kernel_rfl) (by kernel_rfl) ?_
    refine nT ?_
    refine xR [hR 2 rfl rfl (r_call (wire_PutInt tb nb b (l.getD 0 0) (by omega)) Try.func47 rfl (by decide) [0] [] (l := [(.tmp 13, slV tb nb kU8 b), (.tmp 14, dv (.int .i64 (l.getD 0 0)))]) [] rfl 0 1 rfl rfl rfl rfl rfl rfl rfl rfl rfl ⟨.inl ⟨rfl, rfl⟩, ⟨.inl ⟨rfl, rfl⟩, trivial⟩⟩ rfl (fun b hb => by cases hb) (.inl rfl) (lt_of rfl) trivial)] (by kernel_rfl) (by kernel_rfl) ?_
    refine nB ?_
    refine nT ?_
    refine xR [hR 0 rfl rfl (r_bin (u1 := .int .i64 0) (u2 := .int .i64 1) (v := .int .i64 1) (b_add (by rw [IntKind.wrap_i64]; omega)) (lt_of rfl) ⟨rfl, trivial⟩)] (by kernel_rfl) (by kernel_rfl) ?_
    refine nP ?_
    refine TL.loop (ι := Nat) (fun (k : Nat) => ⟨[ownV 0 kU8 0 (b ++ intsB (l.take k)).length, slV tl nl (kInt .i64) l, aa, aa, aa, aa, aa, slV tl nl (kInt .i64) l, dv (.int .i64 ((l.length : Nat) : Int)), dv (.int .i64 ((k : Nat) : Int))], [.live (arrK 5 kU8 (b ++ intsB (l.take k)))]⟩) (fun (k : Nat) => (1 ≤ k ∧ k ≤ l.length)) (fun (k : Nat) => l.length - k) (1) (by omega) (fun _ _ hG => Gs.into2 (s' := ⟨[ownV 0 kU8 0 (b ++ intsB (l.take 1)).length, slV tl nl (kInt .i64) l, aa, aa, aa, aa, aa, slV tl nl (kInt .i64) l, dv (.int .i64 ((l.length : Nat) : Int)), dv (.int .i64 1)], [.live (arrK 5 kU8 (b ++ intsB (l.take 1)))]⟩) [0] (bm 10 899) (t1 := [ownV 0 kU8 0 (b ++ intsB (l.take 1)).length, slV tl nl (kInt .i64) l, aa, aa, aa, aa, aa, slV tl nl (kInt .i64) l, dv (.int .i64 ((l.length : Nat) : Int)), dv (.int .i64 1)]) (t2 := [ownV 0 kU8 0 (b ++ intB (l.getD 0 0)).length, slV tl nl (kInt .i64) l, aa, aa, aa, aa, aa, slV tl nl (kInt .i64) l, dv (.int .i64 ((l.length : Nat) : Int)), dv (.int .i64 1)]) (h1 := [.live (arrK 5 kU8 (b ++ intsB (l.take 1)))]) (h2 := [.live (arrK 5 kU8 (b ++ intB (l.getD 0 0)))]) (by have e1 : ((b ++ intsB (l.take 1)).length : Nat) = (b ++ intB (l.getD 0 0)).length := (by (rw [ints_one (by omega)])); have hE := congrArg (fun (q1 : Nat) => ([ownV 0 kU8 0 q1, slV tl nl (kInt .i64) l, aa, aa, aa, aa, aa, slV tl nl (kInt .i64) l, dv (.int .i64 ((l.length : Nat) : Int)), dv (.int .i64 1)] : List AV)) e1; exact hE) (by have e1 : ((b ++ intsB (l.take 1)) : List UInt8) = b ++ intB (l.getD 0 0) := (by (rw [ints_one (by omega)])); have hE := congrArg (fun (q1 : List UInt8) => ([.live (arrK 5 kU8 q1)] : List HS)) e1; exact hE) (by kernel_rfl) (by kernel_rfl) (by kernel_rfl) (by kernel_rfl) (by kernel_rfl) (by kernel_rfl) (by kernel_rfl) (by kernel_rfl) (by kernel_rfl) (by kernel_rfl) (by kernel_rfl) hG) ?_
    rintro k hk
    show T _ _ ⟨[ownV 0 kU8 0 (b ++ intsB (l.take k)).length, slV tl nl (kInt .i64) l, aa, aa, aa, aa, aa, slV tl nl (kInt .i64) l, dv (.int .i64 ((l.length : Nat) : Int)), dv (.int .i64 ((k : Nat) : Int))], [.live (arrK 5 kU8 (b ++ intsB (l.take k)))]⟩ _ _
    replace hk : 1 ≤ k ∧ k ≤ l.length := hk
    have hil := ints_len (l.take k)
    have htk : (l.take k).length = k := (by rw [List.length_take]; omega)
    refine T.seq ?_
    refine xR [] (by kernel_rfl) (by kernel_rfl) ?_
    refine nT ?_
    refine T.seq ?_
    by_cases hq2 : ((k : Nat) : Int) < ((l.length : Nat) : Int)
    · refine T.condT (by kernel_rfl) (decide_eq_true hq2) ?_
      refine T.skip ?_
      refine nT ?_
      refine T.seq ?_
      refine T.block ?_
      refine T.seq ?_
      refine xR [hR 0 rfl rfl (q_index tl nl (kInt .i64) l k (k := .i64) (i := ((k : Nat) : Int)) Try.underlying122 iat_3 rfl rfl (by omega) (lt_of rfl) trivial)] (by kernel_rfl) (by kernel_rfl) ?_
      refine nT ?_
      refine xR [hR 2 rfl rfl (r_call (wire_PutInt true false (b ++ intsB (l.take k)) (l.getD k 0) (by (simp [maxLen, -List.getD_eq_getElem?_getD] <;> omega))) Try.func47 rfl (by decide) [1] [0] (l := [(.tmp 13, ownV 0 kU8 0 (b ++ intsB (l.take k)).length), (.tmp 14, dv (.int .i64 (l.getD k 0)))]) [(0, .live (arrK 5 kU8 (b ++ intsB (l.take k))))] rfl 0 1 rfl rfl rfl rfl rfl rfl rfl rfl rfl ⟨.inr (.inl ⟨rfl, (fun h => by cases h), rfl, rfl, by simp, 5, (b ++ intsB (l.take k)).length, elOf kU8 (b ++ intsB (l.take k)), List.Mem.head _, by omega, fun i j => by rw [Nat.zero_add]⟩), ⟨.inl ⟨rfl, rfl⟩, trivial⟩⟩ rfl (by intro b hb; simp only [List.mem_cons, List.not_mem_nil, or_false] at hb; rcases hb with rfl; exact ⟨_, List.Mem.head _⟩) (.inr ⟨trivial, (And.intro (arr_nt kU8_nt) trivial)⟩) (lt_of rfl) trivial)] (by kernel_rfl) (by kernel_rfl) ?_
      refine nB ?_
      refine nT ?_
      refine xR [hR 0 rfl rfl (r_bin (u1 := .int .i64 ((k : Nat) : Int)) (u2 := .int .i64 1) (v := .int .i64 ((k + 1 : Nat) : Int)) (b_add (by rw [IntKind.wrap_i64]; omega)) (lt_of rfl) ⟨rfl, trivial⟩)] (by kernel_rfl) (by kernel_rfl) ?_
      refine nL (k + 1) (show 1 ≤ (k + 1) ∧ (k + 1) ≤ l.length from (by omega)) (show (l.length - (k + 1) : Nat) < l.length - k from (by omega)) (fun _ _ hG => Gs.into2 (s' := ⟨[ownV 0 kU8 0 (b ++ intsB (l.take (k + 1))).length, slV tl nl (kInt .i64) l, aa, aa, aa, aa, aa, slV tl nl (kInt .i64) l, dv (.int .i64 ((l.length : Nat) : Int)), dv (.int .i64 ((k + 1 : Nat) : Int))], [.live (arrK 5 kU8 (b ++ intsB (l.take (k + 1))))]⟩) [1] (bm 10 899) (t1 := [ownV 1 kU8 0 (b ++ intsB (l.take (k + 1))).length, slV tl nl (kInt .i64) l, aa, aa, aa, aa, aa, slV tl nl (kInt .i64) l, dv (.int .i64 ((l.length : Nat) : Int)), dv (.int .i64 ((k + 1 : Nat) : Int))]) (t2 := [ownV 1 kU8 0 ((b ++ intsB (l.take k)) ++ intB (l.getD k 0)).length, slV tl nl (kInt .i64) l, aa, aa, aa, aa, aa, slV tl nl (kInt .i64) l, dv (.int .i64 ((l.length : Nat) : Int)), dv (.int .i64 ((k + 1 : Nat) : Int))]) (h1 := [.live (arrK 5 kU8 (b ++ intsB (l.take (k + 1))))]) (h2 := [.live (arrK 5 kU8 ((b ++ intsB (l.take k)) ++ intB (l.getD k 0)))]) (by have e1 : ((b ++ intsB (l.take (k + 1))).length : Nat) = ((b ++ intsB (l.take k)) ++ intB (l.getD k 0)).length := (by (rw [ints_succ (by omega), List.append_assoc])); have hE := congrArg (fun (q1 : Nat) => ([ownV 1 kU8 0 q1, slV tl nl (kInt .i64) l, aa, aa, aa, aa, aa, slV tl nl (kInt .i64) l, dv (.int .i64 ((l.length : Nat) : Int)), dv (.int .i64 ((k + 1 : Nat) : Int))] : List AV)) e1; exact hE) (by have e1 : ((b ++ intsB (l.take (k + 1))) : List UInt8) = (b ++ intsB (l.take k)) ++ intB (l.getD k 0) := (by (rw [ints_succ (by omega), List.append_assoc])); have hE := congrArg (fun (q1 : List UInt8) => ([.live (arrK 5 kU8 q1)] : List HS)) e1; exact hE) (by kernel_rfl) (by kernel_rfl) (by kernel_rfl) (by kernel_rfl) (by kernel_rfl) (by kernel_rfl) (by kernel_rfl) (by kernel_rfl) (by kernel_rfl) (by kernel_rfl) (by kernel_rfl) hG)
    · refine T.condF (by kernel_rfl) (decide_eq_false hq2) ?_
      refine T.exit ?_
      refine xT ?_
      refine xT ?_
      refine xH ?_
      refine nT ?_
      refine T.seq ?_
      refine xR [] (by kernel_rfl) (by kernel_rfl) ?_
      refine nT ?_
      refine T.ret ?_
      exact tE (.inl rfl) [.t 4 (.one (.own 0 kU8.sz 0 (b ++ intsB (l.take k)).length))] ⟨⟨rfl, by kernel_rfl⟩, trivial⟩ [0] (by have e1 : ((b ++ intsB l).length : Nat) = (b ++ intsB (l.take k)).length := (by (have hke : l.take k = l := List.take_of_length_le (by omega); rw [hke])); have hE := congrArg (fun (q1 : Nat) => (ownV 0 kU8 0 q1 : AV)) e1; exact hE) rfl rfl rfl rfl rfl ⟨⟨rfl, (by have e1 : ((b ++ intsB (l.take k)) : List UInt8) = b ++ intsB l := (by (have hke : l.take k = l := List.take_of_length_le (by omega); rw [hke])); have hE := congrArg (fun (q1 : List UInt8) => (.live (arrK 5 kU8 q1) : HS)) e1; exact Eq.trans (by kernel_rfl) hE)⟩, trivial⟩
  · exact absurd (by omega) hq1
end Go.Proofs.Ytdclfhahcfefeaa.Q
namespace Go.Proofs.Ytdclfhahcfefeaa.Q
open Go Go.RowKit
set_option linter.unusedVariables false
set_option linter.unusedSimpArgs false
set_option maxRecDepth 100000
set_option maxHeartbeats 4000000
theorem fld_78_0 : FieldAt Try.prog 78 0 0 := ⟨_, _, _, Try.underlying78, rfl, iat_3, by decide, rfl⟩
theorem zero_3 : Zero Try.prog 3 [.int .i64 0] := ⟨_, _, iat_3, rfl, rfl⟩
theorem fld_78_1 : FieldAt Try.prog 78 1 1 := ⟨_, _, _, Try.underlying78, rfl, iat_58, by decide, rfl⟩
theorem iat_43 : Try.prog.info? 43 = some Try.t43 := by kernel_rfl
theorem fld_88_0 : FieldAt Try.prog 88 0 0 := ⟨_, _, _, Try.underlying88, rfl, iat_43, by decide, rfl⟩
theorem wide_43 : Wide Try.prog 43 none := ⟨_, Try.underlying43, (fun _ h => by cases h), (fun _ _ h => by cases h)⟩
theorem fld_88_1 : FieldAt Try.prog 88 1 1 := ⟨_, _, _, Try.underlying88, rfl, iat_3, by decide, rfl⟩
-- quaestor/block.Leaf
theorem block_Leaf (te : Bool) (e : api_Envelope) (r : api_Result) (hb : e.f_Body.length ≤ 100000000) : Holds Try.prog 84 ⟨[.tv (.agg [.d (.val (.int .i64 e.f_Signer)), .d (dsl te false kU8 e.f_Body)]), .tv (.agg [.d (.val (.int .i64 r.f_Code)), .d (.val (.int .i64 r.f_Stage))])], [], ownV 0 kU8 0 (leafB e r).length, [.live (arrK 5 kU8 (leafB e r))]⟩ := by
  refine Holds.of Try.func84 rfl (N := 18) Try.ntmps84 rfl fun w0 B0 S0 U0 => ?_
  show T _ (mkBase 18 0 w0 S0 U0 B0) ⟨[.tv (.agg [.d (.val (.int .i64 e.f_Signer)), .d (dsl te false kU8 e.f_Body)]), .tv (.agg [.d (.val (.int .i64 r.f_Code)), .d (.val (.int .i64 r.f_Stage))])], []⟩ _ _
  have hi1 := int_len e.f_Signer
  have hi2 : (intsB [e.f_Signer]).length = 8 := ints_len [e.f_Signer]
  have hi2n : (([] : List UInt8) ++ intsB [e.f_Signer]).length = 8 := ints_len [e.f_Signer]
  have hy := bytes_len e.f_Body
  refine T.seq ?_
  refine xR [] (by kernel_rfl) (by kernel_rfl) ?_
  refine nT ?_
  refine T.seq ?_
  refine xD [[], [0], [0, 1], [0, 1, 2], [], [4], [0, 1, 2, 3, 4, 5], [], [7], [], [9], [7, 8, 9, 10], [0, 1, 2, 3, 4, 5, 6, 7, 8, 9, 10, 11], [0, 1, 2, 3, 4, 5, 6, 7, 8, 9, 10, 11, 12]] [hR 2 rfl rfl (q_buildSlice 2 3 (kInt .i64) (kInt_ok .i64) [e.f_Signer] [⟨0, .tmp 6, .one (.d (.val (.int .i64 e.f_Signer))), 0⟩] (cs := [.d (.val (.int .i64 e.f_Signer))]) Try.underlying122 iat_3 rfl zero_3 rfl rfl rfl (Nat.le_of_ble_eq_true rfl) (part_cons rfl rfl (Nat.le_of_ble_eq_true rfl) part_ok) rfl ⟨(.inl rfl), trivial⟩ (lt_of rfl) trivial),
    hR 3 rfl rfl (r_call (block_ints false false ([] : List UInt8) true false [e.f_Signer] (by (simp [maxLen, -List.getD_eq_getElem?_getD] <;> omega)) (by (simp [maxLen, -List.getD_eq_getElem?_getD] <;> omega))) Try.func68 rfl (by decide) [3] [2] (l := [(.const (.slice none 0 0), dv (.slice none 0 0)), (.tmp 7, ownV 2 (kInt .i64) 0 [e.f_Signer].length)]) [(2, .live (arrK 3 (kInt .i64) [e.f_Signer]))] rfl 0 1 rfl rfl rfl rfl rfl rfl rfl rfl rfl ⟨.inr (.inr ⟨rfl, rfl, rfl⟩), ⟨.inr (.inl ⟨rfl, (fun h => by cases h), rfl, rfl, by simp, 3, [e.f_Signer].length, elOf (kInt .i64) [e.f_Signer], List.Mem.head _, by omega, fun i j => by rw [Nat.zero_add]⟩), trivial⟩⟩ rfl (by intro b hb; simp only [List.mem_cons, List.not_mem_nil, or_false] at hb; rcases hb with rfl; exact ⟨_, List.Mem.head _⟩) (.inr ⟨trivial, (And.intro (arr_nt kU8_nt) trivial)⟩) (lt_of rfl) ⟨rfl, trivial⟩),
    hR 6 rfl rfl (r_call (wire_PutBytes true false (([] : List UInt8) ++ intsB [e.f_Signer]) te false e.f_Body (by omega)) Try.func46 rfl (by decide) [4] [3] (l := [(.tmp 8, ownV 3 kU8 0 (([] : List UInt8) ++ intsB [e.f_Signer]).length), (.tmp 10, slV te false kU8 e.f_Body)]) [(3, .live (arrK 5 kU8 (([] : List UInt8) ++ intsB [e.f_Signer])))] rfl 0 1 rfl rfl rfl rfl rfl rfl rfl rfl rfl ⟨.inr (.inl ⟨rfl, (fun h => by cases h), rfl, rfl, by simp, 5, (([] : List UInt8) ++ intsB [e.f_Signer]).length, elOf kU8 (([] : List UInt8) ++ intsB [e.f_Signer]), List.Mem.head _, by omega, fun i j => by rw [Nat.zero_add]⟩), ⟨.inl ⟨rfl, rfl⟩, trivial⟩⟩ rfl (by intro b hb; simp only [List.mem_cons, List.not_mem_nil, or_false] at hb; rcases hb with rfl; exact ⟨_, List.Mem.head _⟩) (.inr ⟨trivial, (And.intro (arr_nt kU8_nt) trivial)⟩) (lt_of rfl) trivial),
    hR 11 rfl rfl (q_buildSlice 5 3 (kInt .i64) (kInt_ok .i64) [r.f_Code, r.f_Stage] [⟨0, .tmp 13, .one (.d (.val (.int .i64 r.f_Code))), 0⟩, ⟨1, .tmp 15, .one (.d (.val (.int .i64 r.f_Stage))), 1⟩] (cs := [.d (.val (.int .i64 r.f_Code)), .d (.val (.int .i64 r.f_Stage))]) Try.underlying122 iat_3 rfl zero_3 rfl rfl rfl (Nat.le_of_ble_eq_true rfl) (part_cons rfl rfl (Nat.le_of_ble_eq_true rfl) (part_cons rfl rfl (Nat.le_of_ble_eq_true rfl) part_ok)) rfl ⟨(.inl rfl), ⟨(.inl rfl), trivial⟩⟩ (lt_of rfl) trivial),
    hR 12 rfl rfl (r_call (block_ints true false (([] : List UInt8) ++ intsB [e.f_Signer] ++ bytesB e.f_Body) true false [r.f_Code, r.f_Stage] (by (simp [maxLen, -List.getD_eq_getElem?_getD] <;> omega)) (by (simp [maxLen, -List.getD_eq_getElem?_getD] <;> omega))) Try.func68 rfl (by decide) [6] [4, 5] (l := [(.tmp 11, ownV 4 kU8 0 (([] : List UInt8) ++ intsB [e.f_Signer] ++ bytesB e.f_Body).length), (.tmp 16, ownV 5 (kInt .i64) 0 [r.f_Code, r.f_Stage].length)]) [(4, .live (arrK 5 kU8 (([] : List UInt8) ++ intsB [e.f_Signer] ++ bytesB e.f_Body))), (5, .live (arrK 3 (kInt .i64) [r.f_Code, r.f_Stage]))] rfl 0 1 rfl rfl rfl rfl rfl rfl rfl rfl rfl ⟨.inr (.inl ⟨rfl, (fun h => by cases h), rfl, rfl, by simp, 5, (([] : List UInt8) ++ intsB [e.f_Signer] ++ bytesB e.f_Body).length, elOf kU8 (([] : List UInt8) ++ intsB [e.f_Signer] ++ bytesB e.f_Body), List.Mem.head _, by omega, fun i j => by rw [Nat.zero_add]⟩), ⟨.inr (.inl ⟨rfl, (fun h => by cases h), rfl, rfl, by simp, 3, [r.f_Code, r.f_Stage].length, elOf (kInt .i64) [r.f_Code, r.f_Stage], List.Mem.tail _ (List.Mem.head _), by omega, fun i j => by rw [Nat.zero_add]⟩), trivial⟩⟩ rfl (by intro b hb; simp only [List.mem_cons, List.not_mem_nil, or_false] at hb; rcases hb with rfl | rfl; exact ⟨_, List.Mem.head _⟩; exact ⟨_, List.Mem.tail _ (List.Mem.head _)⟩) (.inr ⟨trivial, (And.intro (arr_nt kU8_nt) trivial)⟩) (lt_of rfl) trivial)] (by kernel_rfl) (by kernel_rfl) (by kernel_rfl) (by kernel_rfl) (by kernel_rfl) (by kernel_rfl) ?_
  refine nT ?_
  refine T.ret ?_
  exact tE (.inl rfl) [.t 4 (.one (.own 6 kU8.sz 0 (([] : List UInt8) ++ intsB [e.f_Signer] ++ bytesB e.f_Body ++ intsB [r.f_Code, r.f_Stage]).length))] ⟨⟨rfl, by kernel_rfl⟩, trivial⟩ [6] (by have e1 : ((leafB e r).length : Nat) = (([] : List UInt8) ++ intsB [e.f_Signer] ++ bytesB e.f_Body ++ intsB [r.f_Code, r.f_Stage]).length := (by (simp [leafB, intsB]; done)); have hE := congrArg (fun (q1 : Nat) => (ownV 6 kU8 0 q1 : AV)) e1; exact hE) rfl rfl rfl rfl rfl ⟨⟨rfl, (by have e1 : (([] : List UInt8) ++ intsB [e.f_Signer] ++ bytesB e.f_Body ++ intsB [r.f_Code, r.f_Stage] : List UInt8) = leafB e r := (by (simp [leafB, intsB]; done)); have hE := congrArg (fun (q1 : List UInt8) => (.live (arrK 5 kU8 q1) : HS)) e1; exact Eq.trans (by kernel_rfl) hE)⟩, trivial⟩
end Go.Proofs.Ytdclfhahcfefeaa.Q
namespace Go.Proofs.Ytdclfhahcfefeaa.Q
open Go Go.RowKit
set_option linter.unusedVariables false
set_option linter.unusedSimpArgs false
set_option maxRecDepth 100000
set_option maxHeartbeats 4000000
-- quaestor/quaestorref10.Leaf
theorem ref10_Leaf (te : Bool) (e : api_Envelope) (r : api_Result) (hb : e.f_Body.length ≤ 100000000) : Holds Try.prog 92 ⟨[.tv (.agg [.d (.val (.int .i64 e.f_Signer)), .d (dsl te false kU8 e.f_Body)]), .tv (.agg [.d (.val (.int .i64 r.f_Code)), .d (.val (.int .i64 r.f_Stage))])], [], ownV 0 kU8 0 (leafB e r).length, [.live (arrK 5 kU8 (leafB e r))]⟩ := by
  refine Holds.of Try.func92 rfl (N := 19) Try.ntmps92 rfl fun w0 B0 S0 U0 => ?_
  show T _ (mkBase 19 0 w0 S0 U0 B0) ⟨[.tv (.agg [.d (.val (.int .i64 e.f_Signer)), .d (dsl te false kU8 e.f_Body)]), .tv (.agg [.d (.val (.int .i64 r.f_Code)), .d (.val (.int .i64 r.f_Stage))])], []⟩ _ _
  have hi1 := int_len e.f_Signer
  have hi2 := int_len r.f_Code
  have hy := bytes_len e.f_Body
  refine T.seq ?_
  refine xR [] (by kernel_rfl) (by kernel_rfl) ?_
  refine nT ?_
  refine T.seq ?_
  refine xD [[], [0], [0, 1], [], [3], [0, 1, 2, 3, 4], [0, 1, 2, 3, 4, 5]] [hR 2 rfl rfl (r_call (ref01_Int false false ([] : List UInt8) e.f_Signer (by (simp [maxLen, -List.getD_eq_getElem?_getD] <;> omega))) Try.func57 rfl (by decide) [2] [] (l := [(.const (.slice none 0 0), dv (.slice none 0 0)), (.tmp 7, dv (.int .i64 e.f_Signer))]) [] rfl 0 1 rfl rfl rfl rfl rfl rfl rfl rfl rfl ⟨.inr (.inr ⟨rfl, rfl, rfl⟩), ⟨.inl ⟨rfl, rfl⟩, trivial⟩⟩ rfl (fun b hb => by cases hb) (.inl rfl) (lt_of rfl) ⟨rfl, trivial⟩),
    hR 5 rfl rfl (r_call (ref01_Bytes true false (([] : List UInt8) ++ intB e.f_Signer) te false e.f_Body (by (simp [maxLen, -List.getD_eq_getElem?_getD] <;> omega))) Try.func56 rfl (by decide) [3] [2] (l := [(.tmp 8, ownV 2 kU8 0 (([] : List UInt8) ++ intB e.f_Signer).length), (.tmp 10, slV te false kU8 e.f_Body)]) [(2, .live (arrK 5 kU8 (([] : List UInt8) ++ intB e.f_Signer)))] rfl 0 1 rfl rfl rfl rfl rfl rfl rfl rfl rfl ⟨.inr (.inl ⟨rfl, (fun h => by cases h), rfl, rfl, by simp, 5, (([] : List UInt8) ++ intB e.f_Signer).length, elOf kU8 (([] : List UInt8) ++ intB e.f_Signer), List.Mem.head _, by omega, fun i j => by rw [Nat.zero_add]⟩), ⟨.inl ⟨rfl, rfl⟩, trivial⟩⟩ rfl (by intro b hb; simp only [List.mem_cons, List.not_mem_nil, or_false] at hb; rcases hb with rfl; exact ⟨_, List.Mem.head _⟩) (.inr ⟨trivial, (And.intro (arr_nt kU8_nt) trivial)⟩) (lt_of rfl) trivial)] (by kernel_rfl) (by kernel_rfl) (by kernel_rfl) (by kernel_rfl) (by kernel_rfl) (by kernel_rfl) ?_
  refine nT ?_
  refine T.seq ?_
  refine xD [[], [], [1], [0, 1, 2], [], [4], [0, 1, 2, 3, 4, 5], [0, 1, 2, 3, 4, 5, 6]] [hR 3 rfl rfl (r_call (ref01_Int true false (([] : List UInt8) ++ intB e.f_Signer ++ bytesB e.f_Body) r.f_Code (by (simp [maxLen, -List.getD_eq_getElem?_getD] <;> omega))) Try.func57 rfl (by decide) [4] [3] (l := [(.tmp 12, ownV 3 kU8 0 (([] : List UInt8) ++ intB e.f_Signer ++ bytesB e.f_Body).length), (.tmp 14, dv (.int .i64 r.f_Code))]) [(3, .live (arrK 5 kU8 (([] : List UInt8) ++ intB e.f_Signer ++ bytesB e.f_Body)))] rfl 0 1 rfl rfl rfl rfl rfl rfl rfl rfl rfl ⟨.inr (.inl ⟨rfl, (fun h => by cases h), rfl, rfl, by simp, 5, (([] : List UInt8) ++ intB e.f_Signer ++ bytesB e.f_Body).length, elOf kU8 (([] : List UInt8) ++ intB e.f_Signer ++ bytesB e.f_Body), List.Mem.head _, by omega, fun i j => by rw [Nat.zero_add]⟩), ⟨.inl ⟨rfl, rfl⟩, trivial⟩⟩ rfl (by intro b hb; simp only [List.mem_cons, List.not_mem_nil, or_false] at hb; rcases hb with rfl; exact ⟨_, List.Mem.head _⟩) (.inr ⟨trivial, (And.intro (arr_nt kU8_nt) trivial)⟩) (lt_of rfl) trivial),
    hR 6 rfl rfl (r_call (ref01_Int true false (([] : List UInt8) ++ intB e.f_Signer ++ bytesB e.f_Body ++ intB r.f_Code) r.f_Stage (by (simp [maxLen, -List.getD_eq_getElem?_getD] <;> omega))) Try.func57 rfl (by decide) [5] [4] (l := [(.tmp 15, ownV 4 kU8 0 (([] : List UInt8) ++ intB e.f_Signer ++ bytesB e.f_Body ++ intB r.f_Code).length), (.tmp 17, dv (.int .i64 r.f_Stage))]) [(4, .live (arrK 5 kU8 (([] : List UInt8) ++ intB e.f_Signer ++ bytesB e.f_Body ++ intB r.f_Code)))] rfl 0 1 rfl rfl rfl rfl rfl rfl rfl rfl rfl ⟨.inr (.inl ⟨rfl, (fun h => by cases h), rfl, rfl, by simp, 5, (([] : List UInt8) ++ intB e.f_Signer ++ bytesB e.f_Body ++ intB r.f_Code).length, elOf kU8 (([] : List UInt8) ++ intB e.f_Signer ++ bytesB e.f_Body ++ intB r.f_Code), List.Mem.head _, by omega, fun i j => by rw [Nat.zero_add]⟩), ⟨.inl ⟨rfl, rfl⟩, trivial⟩⟩ rfl (by intro b hb; simp only [List.mem_cons, List.not_mem_nil, or_false] at hb; rcases hb with rfl; exact ⟨_, List.Mem.head _⟩) (.inr ⟨trivial, (And.intro (arr_nt kU8_nt) trivial)⟩) (lt_of rfl) trivial)] (by kernel_rfl) (by kernel_rfl) (by kernel_rfl) (by kernel_rfl) (by kernel_rfl) (by kernel_rfl) ?_
  refine nT ?_
  refine T.ret ?_
  exact tE (.inl rfl) [.t 4 (.one (.own 5 kU8.sz 0 (([] : List UInt8) ++ intB e.f_Signer ++ bytesB e.f_Body ++ intB r.f_Code ++ intB r.f_Stage).length))] ⟨⟨rfl, by kernel_rfl⟩, trivial⟩ [5] (by have e1 : ((leafB e r).length : Nat) = (([] : List UInt8) ++ intB e.f_Signer ++ bytesB e.f_Body ++ intB r.f_Code ++ intB r.f_Stage).length := (by rfl); have hE := congrArg (fun (q1 : Nat) => (ownV 5 kU8 0 q1 : AV)) e1; exact hE) rfl rfl rfl rfl rfl ⟨⟨rfl, (by have e1 : (([] : List UInt8) ++ intB e.f_Signer ++ bytesB e.f_Body ++ intB r.f_Code ++ intB r.f_Stage : List UInt8) = leafB e r := (by rfl); have hE := congrArg (fun (q1 : List UInt8) => (.live (arrK 5 kU8 q1) : HS)) e1; exact Eq.trans (by kernel_rfl) hE)⟩, trivial⟩
end Go.Proofs.Ytdclfhahcfefeaa.Q
namespace Go.Proofs.Ytdclfhahcfefeaa.Q
open Go Go.RowKit
set_option linter.unusedVariables false
set_option linter.unusedSimpArgs false
set_option maxRecDepth 100000
set_option maxHeartbeats 4000000
theorem fld_33_0 : FieldAt Try.prog 33 0 0 := ⟨_, _, _, Try.underlying33, rfl, iat_3, by decide, rfl⟩
theorem iat_30 : Try.prog.info? 30 = some Try.t30 := by kernel_rfl
theorem fld_33_2 : FieldAt Try.prog 33 2 2 := ⟨_, _, _, Try.underlying33, rfl, iat_30, by decide, rfl⟩
theorem wide_30 : Wide Try.prog 30 none := ⟨_, Try.underlying30, (fun _ h => by cases h), (fun _ _ h => by cases h)⟩
theorem iat_31 : Try.prog.info? 31 = some Try.t31 := by kernel_rfl
theorem fld_33_3 : FieldAt Try.prog 33 3 3 := ⟨_, _, _, Try.underlying33, rfl, iat_31, by decide, rfl⟩
theorem wide_31 : Wide Try.prog 31 none := ⟨_, Try.underlying31, (fun _ h => by cases h), (fun _ _ h => by cases h)⟩
-- quaestor/block.Check
theorem block_Check (tb_ : Bool) (b : api_Block) (hq : b.f_Requests.length ≤ 9223372036854775807) (hr : b.f_Results.length ≤ 9223372036854775807) : Holds Try.prog 40 ⟨[.tv (.agg [.d (.val (.int .i64 b.f_Height)), .d (.val (strV b.f_Prev)), .d (dsl tb_ false (k_api_Envelope tb_) b.f_Requests), .d (dsl tb_ false (k_api_Result tb_) b.f_Results)])], [], dv (.int .i64 (chkB b)), []⟩ := by
  refine Holds.of Try.func40 rfl (N := 26) Try.ntmps40 rfl fun w0 B0 S0 U0 => ?_
  show T _ (mkBase 26 0 w0 S0 U0 B0) ⟨[.tv (.agg [.d (.val (.int .i64 b.f_Height)), .d (.val (strV b.f_Prev)), .d (dsl tb_ false (k_api_Envelope tb_) b.f_Requests), .d (dsl tb_ false (k_api_Result tb_) b.f_Results)])], []⟩ _ _
  refine T.seq ?_
  refine xR [] (by kernel_rfl) (by kernel_rfl) ?_
  refine nT ?_
  refine T.seq ?_
  refine T.block ?_
  refine T.seq ?_
  by_cases hq1 : b.f_Height < 1
  · refine xR [hN 4 false (decide_eq_true hq1),
      hN 5 false (decide_eq_true hq1),
      hN 6 false (decide_eq_true hq1),
      hP 7 (decide_eq_true hq1)] (by kernel_rfl) (by kernel_rfl) ?_
    refine nT ?_
    refine T.condT (b := true) (by kernel_rfl) rfl ?_
    refine T.seq ?_
    refine xR [] (by kernel_rfl) (by kernel_rfl) ?_
    refine nT ?_
    refine T.ret ?_
    refine rB ?_
    refine rT ?_
    exact tE (.inl rfl) [.t 2 (.one (.d (.val (.int .i64 100))))] ⟨⟨rfl, by kernel_rfl⟩, trivial⟩ [] (by have e1 : ((chkB b) : Int) = 100 := (by (unfold chkB; rw [if_pos (by omega)])); have hE := congrArg (fun (q1 : Int) => (dv (.int .i64 q1) : AV)) e1; exact hE) rfl rfl rfl rfl rfl trivial
  · refine xR [hY 4 (decide_eq_false hq1),
      hY 5 (decide_eq_false hq1),
      hY 6 (decide_eq_false hq1),
      hP 7 (decide_eq_false hq1)] (by kernel_rfl) (by kernel_rfl) ?_
    refine nT ?_
    by_cases hq2 : b.f_Height > 1099511627776
    · refine T.condT (by kernel_rfl) (decide_eq_true hq2) ?_
      refine T.seq ?_
      refine xR [] (by kernel_rfl) (by kernel_rfl) ?_
      refine nT ?_
      refine T.ret ?_
      refine rB ?_
      refine rT ?_
      exact tE (.inl rfl) [.t 2 (.one (.d (.val (.int .i64 100))))] ⟨⟨rfl, by kernel_rfl⟩, trivial⟩ [] (by have e1 : ((chkB b) : Int) = 100 := (by (unfold chkB; rw [if_pos (by omega)])); have hE := congrArg (fun (q1 : Int) => (dv (.int .i64 q1) : AV)) e1; exact hE) rfl rfl rfl rfl rfl trivial
    · refine T.condF (by kernel_rfl) (decide_eq_false hq2) ?_
      refine T.seq ?_
      by_cases hq3 : ((b.f_Requests.length : Nat) : Int) ≠ ((b.f_Results.length : Nat) : Int)
      · refine xR [hN 8 false (decide_eq_true hq3),
          hN 9 false (decide_eq_true hq3),
          hN 10 false (decide_eq_true hq3),
          hN 11 false (decide_eq_true hq3),
          hP 12 (decide_eq_true hq3)] (by kernel_rfl) (by kernel_rfl) ?_
        refine nT ?_
        refine T.condT (b := true) (by kernel_rfl) rfl ?_
        refine T.seq ?_
        refine xR [] (by kernel_rfl) (by kernel_rfl) ?_
        refine nT ?_
        refine T.ret ?_
        refine rB ?_
        refine rT ?_
        exact tE (.inl rfl) [.t 2 (.one (.d (.val (.int .i64 102))))] ⟨⟨rfl, by kernel_rfl⟩, trivial⟩ [] (by have e1 : ((chkB b) : Int) = 102 := (by (unfold chkB; (rw [if_neg (by omega)]; rw [if_pos (by omega)]))); have hE := congrArg (fun (q1 : Int) => (dv (.int .i64 q1) : AV)) e1; exact hE) rfl rfl rfl rfl rfl trivial
      · refine xR [hY 8 (decide_eq_false hq3),
          hY 9 (decide_eq_false hq3),
          hY 10 (decide_eq_false hq3),
          hY 11 (decide_eq_false hq3),
          hP 12 (decide_eq_false hq3)] (by kernel_rfl) (by kernel_rfl) ?_
        refine nT ?_
        by_cases hq4 : ((b.f_Results.length : Nat) : Int) > 4
        · refine T.condT (by kernel_rfl) (decide_eq_true hq4) ?_
          refine T.seq ?_
          refine xR [] (by kernel_rfl) (by kernel_rfl) ?_
          refine nT ?_
          refine T.ret ?_
          refine rB ?_
          refine rT ?_
          exact tE (.inl rfl) [.t 2 (.one (.d (.val (.int .i64 102))))] ⟨⟨rfl, by kernel_rfl⟩, trivial⟩ [] (by have e1 : ((chkB b) : Int) = 102 := (by (unfold chkB; (rw [if_neg (by omega)]; rw [if_pos (by omega)]))); have hE := congrArg (fun (q1 : Int) => (dv (.int .i64 q1) : AV)) e1; exact hE) rfl rfl rfl rfl rfl trivial
        · refine T.condF (by kernel_rfl) (decide_eq_false hq4) ?_
          refine T.skip ?_
          refine nB ?_
          refine nT ?_
          refine T.seq ?_
          refine xR [] (by kernel_rfl) (by kernel_rfl) ?_
          refine nT ?_
          refine T.ret ?_
          exact tE (.inl rfl) [.t 2 (.one (.d (.val (.int .i64 0))))] ⟨⟨rfl, by kernel_rfl⟩, trivial⟩ [] (by have e1 : ((chkB b) : Int) = 0 := (by (unfold chkB; (rw [if_neg (by omega)]; rw [if_neg (by omega)]))); have hE := congrArg (fun (q1 : Int) => (dv (.int .i64 q1) : AV)) e1; exact hE) rfl rfl rfl rfl rfl trivial
end Go.Proofs.Ytdclfhahcfefeaa.Q
namespace Go.Proofs.Ytdclfhahcfefeaa.Q
open Go Go.RowKit
set_option linter.unusedVariables false
set_option linter.unusedSimpArgs false
set_option maxRecDepth 100000
set_option maxHeartbeats 4000000
-- quaestor/quaestorref10.Check
theorem ref10_Check (tb_ : Bool) (b : api_Block) (hq : b.f_Requests.length ≤ 9223372036854775807) (hr : b.f_Results.length ≤ 9223372036854775807) : Holds Try.prog 63 ⟨[.tv (.agg [.d (.val (.int .i64 b.f_Height)), .d (.val (strV b.f_Prev)), .d (dsl tb_ false (k_api_Envelope tb_) b.f_Requests), .d (dsl tb_ false (k_api_Result tb_) b.f_Results)])], [], dv (.int .i64 (chkB b)), []⟩ := by
  refine Holds.of Try.func63 rfl (N := 24) Try.ntmps63 rfl fun w0 B0 S0 U0 => ?_
  show T _ (mkBase 24 0 w0 S0 U0 B0) ⟨[.tv (.agg [.d (.val (.int .i64 b.f_Height)), .d (.val (strV b.f_Prev)), .d (dsl tb_ false (k_api_Envelope tb_) b.f_Requests), .d (dsl tb_ false (k_api_Result tb_) b.f_Results)])], []⟩ _ _
  refine T.seq ?_
  refine xR [] (by kernel_rfl) (by kernel_rfl) ?_
  refine nT ?_
  refine T.seq ?_
  refine T.seq ?_
  by_cases hq1 : b.f_Height < 1
  · refine xR [hN 4 false (decide_eq_true hq1),
      hN 5 false (decide_eq_true hq1),
      hN 6 false (decide_eq_true hq1),
      hP 7 (decide_eq_true hq1)] (by kernel_rfl) (by kernel_rfl) ?_
    refine nT ?_
    refine T.condT (b := true) (by kernel_rfl) rfl ?_
    refine T.seq ?_
    refine xR [] (by kernel_rfl) (by kernel_rfl) ?_
    refine nT ?_
    refine T.ret ?_
    refine rT ?_
    exact tE (.inl rfl) [.t 2 (.one (.d (.val (.int .i64 100))))] ⟨⟨rfl, by kernel_rfl⟩, trivial⟩ [] (by have e1 : ((chkB b) : Int) = 100 := (by (unfold chkB; rw [if_pos (by omega)])); have hE := congrArg (fun (q1 : Int) => (dv (.int .i64 q1) : AV)) e1; exact hE) rfl rfl rfl rfl rfl trivial
  · refine xR [hY 4 (decide_eq_false hq1),
      hY 5 (decide_eq_false hq1),
      hY 6 (decide_eq_false hq1),
      hP 7 (decide_eq_false hq1)] (by kernel_rfl) (by kernel_rfl) ?_
    refine nT ?_
    by_cases hq2 : b.f_Height > 1099511627776
    · refine T.condT (by kernel_rfl) (decide_eq_true hq2) ?_
      refine T.seq ?_
      refine xR [] (by kernel_rfl) (by kernel_rfl) ?_
      refine nT ?_
      refine T.ret ?_
      refine rT ?_
      exact tE (.inl rfl) [.t 2 (.one (.d (.val (.int .i64 100))))] ⟨⟨rfl, by kernel_rfl⟩, trivial⟩ [] (by have e1 : ((chkB b) : Int) = 100 := (by (unfold chkB; rw [if_pos (by omega)])); have hE := congrArg (fun (q1 : Int) => (dv (.int .i64 q1) : AV)) e1; exact hE) rfl rfl rfl rfl rfl trivial
    · refine T.condF (by kernel_rfl) (decide_eq_false hq2) ?_
      refine T.skip ?_
      refine nT ?_
      refine T.seq ?_
      refine T.seq ?_
      by_cases hq3 : ((b.f_Requests.length : Nat) : Int) ≠ ((b.f_Results.length : Nat) : Int)
      · refine xR [hN 8 false (decide_eq_true hq3),
          hN 9 false (decide_eq_true hq3),
          hN 10 false (decide_eq_true hq3),
          hN 11 false (decide_eq_true hq3),
          hP 12 (decide_eq_true hq3)] (by kernel_rfl) (by kernel_rfl) ?_
        refine nT ?_
        refine T.condT (b := true) (by kernel_rfl) rfl ?_
        refine T.seq ?_
        refine xR [] (by kernel_rfl) (by kernel_rfl) ?_
        refine nT ?_
        refine T.ret ?_
        refine rT ?_
        exact tE (.inl rfl) [.t 2 (.one (.d (.val (.int .i64 102))))] ⟨⟨rfl, by kernel_rfl⟩, trivial⟩ [] (by have e1 : ((chkB b) : Int) = 102 := (by (unfold chkB; (rw [if_neg (by omega)]; rw [if_pos (by omega)]))); have hE := congrArg (fun (q1 : Int) => (dv (.int .i64 q1) : AV)) e1; exact hE) rfl rfl rfl rfl rfl trivial
      · refine xR [hY 8 (decide_eq_false hq3),
          hY 9 (decide_eq_false hq3),
          hY 10 (decide_eq_false hq3),
          hY 11 (decide_eq_false hq3),
          hP 12 (decide_eq_false hq3)] (by kernel_rfl) (by kernel_rfl) ?_
        refine nT ?_
        by_cases hq4 : ((b.f_Requests.length : Nat) : Int) > 4
        · refine T.condT (by kernel_rfl) (decide_eq_true hq4) ?_
          refine T.seq ?_
          refine xR [] (by kernel_rfl) (by kernel_rfl) ?_
          refine nT ?_
          refine T.ret ?_
          refine rT ?_
          exact tE (.inl rfl) [.t 2 (.one (.d (.val (.int .i64 102))))] ⟨⟨rfl, by kernel_rfl⟩, trivial⟩ [] (by have e1 : ((chkB b) : Int) = 102 := (by (unfold chkB; (rw [if_neg (by omega)]; rw [if_pos (by omega)]))); have hE := congrArg (fun (q1 : Int) => (dv (.int .i64 q1) : AV)) e1; exact hE) rfl rfl rfl rfl rfl trivial
        · refine T.condF (by kernel_rfl) (decide_eq_false hq4) ?_
          refine T.skip ?_
          refine nT ?_
          refine T.seq ?_
          refine xR [] (by kernel_rfl) (by kernel_rfl) ?_
          refine nT ?_
          refine T.ret ?_
          exact tE (.inl rfl) [.t 2 (.one (.d (.val (.int .i64 0))))] ⟨⟨rfl, by kernel_rfl⟩, trivial⟩ [] (by have e1 : ((chkB b) : Int) = 0 := (by (unfold chkB; (rw [if_neg (by omega)]; rw [if_neg (by omega)]))); have hE := congrArg (fun (q1 : Int) => (dv (.int .i64 q1) : AV)) e1; exact hE) rfl rfl rfl rfl rfl trivial
end Go.Proofs.Ytdclfhahcfefeaa.Q
