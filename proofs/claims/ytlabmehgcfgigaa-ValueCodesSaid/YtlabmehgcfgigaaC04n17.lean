import Derived.Test.YtlabmehgcfgigaaC04n13
namespace Go.Proofs.Ytlabmehgcfgigaa.Q
open Go Go.RowKit
set_option linter.unusedVariables false
set_option linter.unusedSimpArgs false
set_option maxRecDepth 100000
set_option maxHeartbeats 4000000
theorem iat_44 : Try.prog.info? 44 = some Try.t44 := by kernel_rfl
theorem wide_44 : Wide Try.prog 44 (some 8) := ⟨_, _, Try.underlying44, .inl ⟨_, rfl⟩, iat_44, rfl⟩
-- quaestor/wire.number
theorem wire_number (tb : Bool) (nb : Bool) (b : List UInt8) (hb : b.length ≤ 8) : Holds Try.prog 91 ⟨[slV tb nb kU8 b], [], dv (.int .u64 ((numL b : Nat) : Int)), []⟩ := by
  refine Holds.of Try.func91 rfl (N := 18) Try.ntmps91 rfl fun w0 B0 S0 U0 => ?_
  show T _ (mkBase 18 0 w0 S0 U0 B0) ⟨[slV tb nb kU8 b], []⟩ _ _
  refine T.seq ?_
  refine xR [] (by kernel_rfl) (by kernel_rfl) ?_
  refine nT ?_
  refine T.seq ?_
  refine T.seq ?_
  refine xR [] (by kernel_rfl) (by kernel_rfl) ?_
  refine nT ?_
  refine T.block ?_
  refine T.loop (ι := Nat) (fun (k : Nat) => ⟨[slV tb nb kU8 b, aa, dv (.int .u64 ((numL (b.take k) : Nat) : Int)), aa, aa, slV tb nb kU8 b, dv (.int .i64 ((b.length : Nat) : Int)), dv (.int .i64 ((k : Nat) : Int))], []⟩) (fun (k : Nat) => (k ≤ b.length)) (fun (k : Nat) => b.length - k) (0) (Nat.zero_le _) (fun _ _ hG => Gs.into2 (s' := ⟨[slV tb nb kU8 b, aa, dv (.int .u64 ((numL (b.take 0) : Nat) : Int)), aa, aa, slV tb nb kU8 b, dv (.int .i64 ((b.length : Nat) : Int)), dv (.int .i64 0)], []⟩) [] (bm 8 229) (t1 := [slV tb nb kU8 b, aa, dv (.int .u64 ((numL (b.take 0) : Nat) : Int)), aa, aa, slV tb nb kU8 b, dv (.int .i64 ((b.length : Nat) : Int)), dv (.int .i64 0)]) (t2 := [slV tb nb kU8 b, aa, dv (.int .u64 0), aa, aa, slV tb nb kU8 b, dv (.int .i64 ((b.length : Nat) : Int)), dv (.int .i64 0)]) (h1 := []) (by have e1 : (((numL (b.take 0) : Nat) : Int) : Int) = 0 := (by rfl); have hE := congrArg (fun (q1 : Int) => ([slV tb nb kU8 b, aa, dv (.int .u64 q1), aa, aa, slV tb nb kU8 b, dv (.int .i64 ((b.length : Nat) : Int)), dv (.int .i64 0)] : List AV)) e1; exact hE) rfl (by kernel_rfl) (by kernel_rfl) (by kernel_rfl) (by kernel_rfl) (by kernel_rfl) (by kernel_rfl) (by kernel_rfl) (by kernel_rfl) (by kernel_rfl) (by kernel_rfl) (by kernel_rfl) hG) ?_
  rintro k hk
  show T _ _ ⟨[slV tb nb kU8 b, aa, dv (.int .u64 ((numL (b.take k) : Nat) : Int)), aa, aa, slV tb nb kU8 b, dv (.int .i64 ((b.length : Nat) : Int)), dv (.int .i64 ((k : Nat) : Int))], []⟩ _ _
  replace hk : k ≤ b.length := hk
  have hk8 : numL (b.take k) < 18446744073709551616 := numL_lt8 (by simp only [List.length_take]; omega)
  refine T.seq ?_
  refine xR [] (by kernel_rfl) (by kernel_rfl) ?_
  refine nT ?_
  refine T.seq ?_
  by_cases hq1 : ((k : Nat) : Int) < ((b.length : Nat) : Int)
  · have hk7 : numL (b.take k) < 72057594037927936 := numL_lt7 (by simp only [List.length_take]; omega); have hbt := UInt8.toNat_lt (b.getD k 0)
    refine T.condT (by kernel_rfl) (decide_eq_true hq1) ?_
    refine T.skip ?_
    refine nT ?_
    refine T.seq ?_
    refine T.block ?_
    refine T.seq ?_
    refine xR [hR 0 rfl rfl (q_index tb nb kU8 b k (k := .i64) (i := ((k : Nat) : Int)) Try.underlying47 iat_5 rfl rfl (by first | assumption | omega | (unfold maxLen; omega) | (simp [maxLen, -List.getD_eq_getElem?_getD] <;> omega) | decide) (lt_of rfl) trivial)] (by kernel_rfl) (by kernel_rfl) ?_
    refine nT ?_
    refine xR [hR 1 rfl rfl (r_bin (u1 := .int .u64 ((numL (b.take k) : Nat) : Int)) (u2 := .int .u64 8) (v := .int .u64 (((numL (b.take k)) * 2 ^ 8 : Nat) : Int)) (b_shlN (n := 8) rfl (Nat.le_trans (by first | assumption | omega | (unfold maxLen; omega) | (simp [maxLen, -List.getD_eq_getElem?_getD] <;> omega) | decide) (by decide : 64 ≤ _)) (by first | rfl | (rw [IntKind.wrap_u64]; omega))) (lt_of rfl) ⟨rfl, trivial⟩),
      hR 3 rfl rfl (r_conv (u := .int .u8 (((b.getD k 0).toNat : Nat) : Int)) (v := .int .u64 (((b.getD k 0).toNat : Nat) : Int)) (c_int Try.underlying5 Try.underlying64 (by first | rfl | (rw [IntKind.wrap_u64]; omega))) (lt_of rfl) trivial),
      hR 4 rfl rfl (r_bin (u1 := .int .u64 (((numL (b.take k)) * 2 ^ 8 : Nat) : Int)) (u2 := .int .u64 (((b.getD k 0).toNat : Nat) : Int)) (v := .int .u64 ((((numL (b.take k)) * 2 ^ 8) ||| (b.getD k 0).toNat : Nat) : Int)) (b_orU (by first | assumption | omega | (unfold maxLen; omega) | (simp [maxLen, -List.getD_eq_getElem?_getD] <;> omega) | decide) (by first | assumption | omega | (unfold maxLen; omega) | (simp [maxLen, -List.getD_eq_getElem?_getD] <;> omega) | decide)) (lt_of rfl) trivial)] (by kernel_rfl) (by kernel_rfl) ?_
    refine nB ?_
    refine nT ?_
    refine xR [hR 0 rfl rfl (r_bin (u1 := .int .i64 ((k : Nat) : Int)) (u2 := .int .i64 1) (v := .int .i64 ((k + 1 : Nat) : Int)) (b_add (by rw [IntKind.wrap_i64]; omega)) (lt_of rfl) ⟨rfl, trivial⟩)] (by kernel_rfl) (by kernel_rfl) ?_
    refine nL (k + 1) (show (k + 1) ≤ b.length from (by omega)) (show (b.length - (k + 1) : Nat) < b.length - k from (by omega)) (fun _ _ hG => Gs.into2 (s' := ⟨[slV tb nb kU8 b, aa, dv (.int .u64 ((numL (b.take (k + 1)) : Nat) : Int)), aa, aa, slV tb nb kU8 b, dv (.int .i64 ((b.length : Nat) : Int)), dv (.int .i64 ((k + 1 : Nat) : Int))], []⟩) [] (bm 8 229) (t1 := [slV tb nb kU8 b, aa, dv (.int .u64 ((numL (b.take (k + 1)) : Nat) : Int)), aa, aa, slV tb nb kU8 b, dv (.int .i64 ((b.length : Nat) : Int)), dv (.int .i64 ((k + 1 : Nat) : Int))]) (t2 := [slV tb nb kU8 b, aa, dv (.int .u64 ((((numL (b.take k)) * 2 ^ 8) ||| (b.getD k 0).toNat : Nat) : Int)), aa, aa, slV tb nb kU8 b, dv (.int .i64 ((b.length : Nat) : Int)), dv (.int .i64 ((k + 1 : Nat) : Int))]) (h1 := []) (by have e1 : (((numL (b.take (k + 1)) : Nat) : Int) : Int) = ((((numL (b.take k)) * 2 ^ 8) ||| (b.getD k 0).toNat : Nat) : Int) := (by first | rfl | (rw [numL_take (by omega)])); have hE := congrArg (fun (q1 : Int) => ([slV tb nb kU8 b, aa, dv (.int .u64 q1), aa, aa, slV tb nb kU8 b, dv (.int .i64 ((b.length : Nat) : Int)), dv (.int .i64 ((k + 1 : Nat) : Int))] : List AV)) e1; exact hE) rfl (by kernel_rfl) (by kernel_rfl) (by kernel_rfl) (by kernel_rfl) (by kernel_rfl) (by kernel_rfl) (by kernel_rfl) (by kernel_rfl) (by kernel_rfl) (by kernel_rfl) (by kernel_rfl) hG)
  · refine T.condF (by kernel_rfl) (decide_eq_false hq1) ?_
    refine T.exit ?_
    refine xT ?_
    refine xT ?_
    refine xH ?_
    refine nT ?_
    refine T.seq ?_
    refine xR [] (by kernel_rfl) (by kernel_rfl) ?_
    refine nT ?_
    refine T.ret ?_
    exact tE (.inl rfl) [.t 2 (.one (.d (.val (.int .u64 ((numL (b.take k) : Nat) : Int)))))] ⟨⟨rfl, by kernel_rfl⟩, trivial⟩ [] (by have e1 : (((numL b : Nat) : Int) : Int) = ((numL (b.take k) : Nat) : Int) := (by first | rfl | (rw [List.take_of_length_le (by omega)])); have hE := congrArg (fun (q1 : Int) => (dv (.int .u64 q1) : AV)) e1; exact hE) rfl rfl rfl rfl rfl trivial
end Go.Proofs.Ytlabmehgcfgigaa.Q
namespace Go.Proofs.Ytlabmehgcfgigaa.Q
open Go Go.RowKit
set_option linter.unusedVariables false
set_option linter.unusedSimpArgs false
set_option maxRecDepth 100000
set_option maxHeartbeats 4000000
-- quaestor/wire.any
theorem wire_any (tb : Bool) (nb : Bool) (b : List UInt8) : Holds Try.prog 90 ⟨[slV tb nb kU8 b], [], dv (.int .i64 0), []⟩ := by
  refine Holds.of Try.func90 rfl (N := 3) Try.ntmps90 rfl fun w0 B0 S0 U0 => ?_
  show T _ (mkBase 3 0 w0 S0 U0 B0) ⟨[slV tb nb kU8 b], []⟩ _ _
  refine T.seq ?_
  refine xR [] (by kernel_rfl) (by kernel_rfl) ?_
  refine nT ?_
  refine T.seq ?_
  refine xR [] (by kernel_rfl) (by kernel_rfl) ?_
  refine nT ?_
  refine T.ret ?_
  exact tE (.inl rfl) [.t 2 (.one (.d (.val (.int .i64 0))))] ⟨⟨rfl, by kernel_rfl⟩, trivial⟩ [] rfl rfl rfl rfl rfl rfl trivial
end Go.Proofs.Ytlabmehgcfgigaa.Q
namespace Go.Proofs.Ytlabmehgcfgigaa.Q
open Go Go.RowKit
set_option linter.unusedVariables false
set_option linter.unusedSimpArgs false
set_option maxRecDepth 100000
set_option maxHeartbeats 4000000
-- quaestor/wire.truth
theorem wire_truth (tb : Bool) (nb : Bool) (b : List UInt8) (hb : 0 < b.length) : Holds Try.prog 92 ⟨[slV tb nb kU8 b], [], dv (.int .i64 (truthE b)), []⟩ := by
  refine Holds.of Try.func92 rfl (N := 7) Try.ntmps92 rfl fun w0 B0 S0 U0 => ?_
  show T _ (mkBase 7 0 w0 S0 U0 B0) ⟨[slV tb nb kU8 b], []⟩ _ _
  refine T.seq ?_
  refine xR [] (by kernel_rfl) (by kernel_rfl) ?_
  refine nT ?_
  refine T.seq ?_
  refine T.seq ?_
  refine xR [hR 1 rfl rfl (q_index tb nb kU8 b 0 (k := .i64) (i := 0) Try.underlying47 iat_5 rfl rfl (by first | assumption | omega | (unfold maxLen; omega) | (simp [maxLen, -List.getD_eq_getElem?_getD] <;> omega) | decide) (lt_of rfl) ⟨rfl, trivial⟩)] (by kernel_rfl) (by kernel_rfl) ?_
  refine nT ?_
  by_cases hq1 : (((b.getD 0 0).toNat : Nat) : Int) > 1
  · refine T.condT (by kernel_rfl) (decide_eq_true hq1) ?_
    refine T.seq ?_
    refine xR [] (by kernel_rfl) (by kernel_rfl) ?_
    refine nT ?_
    refine T.ret ?_
    refine rT ?_
    exact tE (.inl rfl) [.t 2 (.one (.d (.val (.int .i64 12))))] ⟨⟨rfl, by kernel_rfl⟩, trivial⟩ [] (by have e1 : (truthE b : Int) = 12 := (by first | rfl | (simp only [truthE]; first | rw [if_pos (by assumption)] | rw [if_neg (by assumption)])); have hE := congrArg (fun (q1 : Int) => (dv (.int .i64 q1) : AV)) e1; exact hE) rfl rfl rfl rfl rfl trivial
  · refine T.condF (by kernel_rfl) (decide_eq_false hq1) ?_
    refine T.skip ?_
    refine nT ?_
    refine T.seq ?_
    refine xR [] (by kernel_rfl) (by kernel_rfl) ?_
    refine nT ?_
    refine T.ret ?_
    exact tE (.inl rfl) [.t 2 (.one (.d (.val (.int .i64 0))))] ⟨⟨rfl, by kernel_rfl⟩, trivial⟩ [] (by have e1 : (truthE b : Int) = 0 := (by first | rfl | (simp only [truthE]; first | rw [if_pos (by assumption)] | rw [if_neg (by assumption)])); have hE := congrArg (fun (q1 : Int) => (dv (.int .i64 q1) : AV)) e1; exact hE) rfl rfl rfl rfl rfl trivial
end Go.Proofs.Ytlabmehgcfgigaa.Q
namespace Go.Proofs.Ytlabmehgcfgigaa.Q
open Go Go.RowKit
set_option linter.unusedVariables false
set_option linter.unusedSimpArgs false
set_option maxRecDepth 100000
set_option maxHeartbeats 4000000
-- (quaestor/wire.limit).may
theorem wire_may (most : Int) (tb : Bool) (nb : Bool) (b : List UInt8) (hb : b.length ≤ 4) : Holds Try.prog 105 ⟨[dv (.int .i64 most), slV tb nb kU8 b], [], dv (.int .i64 (limE most b)), []⟩ := by
  refine Holds.of Try.func105 rfl (N := 11) Try.ntmps105 rfl fun w0 B0 S0 U0 => ?_
  show T _ (mkBase 11 0 w0 S0 U0 B0) ⟨[dv (.int .i64 most), slV tb nb kU8 b], []⟩ _ _
  have hnb := numL_lt4 hb
  refine T.seq ?_
  refine xR [] (by kernel_rfl) (by kernel_rfl) ?_
  refine nT ?_
  refine T.seq ?_
  refine T.seq ?_
  refine xR [hR 1 rfl rfl (r_call (wire_number tb nb b (by first | assumption | omega | (unfold maxLen; omega) | (simp [maxLen, -List.getD_eq_getElem?_getD] <;> omega) | decide)) Try.func91 rfl (by decide) [] [] (l := [(.tmp 5, slV tb nb kU8 b)]) [] rfl 0 0 rfl rfl rfl rfl rfl rfl rfl rfl rfl ⟨.inl ⟨rfl, rfl⟩, trivial⟩ rfl (fun b hb => by cases hb) (.inl rfl) (lt_of rfl) trivial),
    hR 2 rfl rfl (r_conv (u := .int .u64 ((numL b : Nat) : Int)) (v := .int .i64 ((numL b : Nat) : Int)) (c_int Try.underlying64 Try.underlying3 (by rw [IntKind.wrap_i64]; omega)) (lt_of rfl) trivial),
    hR 4 rfl rfl (r_max (k := .i64) (a := most) (b := 0) (lt_of rfl) ⟨rfl, trivial⟩)] (by kernel_rfl) (by kernel_rfl) ?_
  refine nT ?_
  by_cases hq1 : ((numL b : Nat) : Int) > (max most 0)
  · refine T.condT (by kernel_rfl) (decide_eq_true hq1) ?_
    refine T.seq ?_
    refine xR [] (by kernel_rfl) (by kernel_rfl) ?_
    refine nT ?_
    refine T.ret ?_
    refine rT ?_
    exact tE (.inl rfl) [.t 4 (.one (.d (.val (.int .i64 11))))] ⟨⟨rfl, by kernel_rfl⟩, trivial⟩ [] (by have e1 : (limE most b : Int) = 11 := (by first | rfl | (simp only [limE]; first | rw [if_pos (by assumption)] | rw [if_neg (by assumption)])); have hE := congrArg (fun (q1 : Int) => (dv (.int .i64 q1) : AV)) e1; exact hE) rfl rfl rfl rfl rfl trivial
  · refine T.condF (by kernel_rfl) (decide_eq_false hq1) ?_
    refine T.skip ?_
    refine nT ?_
    refine T.seq ?_
    refine xR [] (by kernel_rfl) (by kernel_rfl) ?_
    refine nT ?_
    refine T.ret ?_
    exact tE (.inl rfl) [.t 4 (.one (.d (.val (.int .i64 0))))] ⟨⟨rfl, by kernel_rfl⟩, trivial⟩ [] (by have e1 : (limE most b : Int) = 0 := (by first | rfl | (simp only [limE]; first | rw [if_pos (by assumption)] | rw [if_neg (by assumption)])); have hE := congrArg (fun (q1 : Int) => (dv (.int .i64 q1) : AV)) e1; exact hE) rfl rfl rfl rfl rfl trivial
end Go.Proofs.Ytlabmehgcfgigaa.Q
namespace Go.Proofs.Ytlabmehgcfgigaa.Q
open Go Go.RowKit
set_option linter.unusedVariables false
set_option linter.unusedSimpArgs false
set_option maxRecDepth 100000
set_option maxHeartbeats 4000000
-- quaestor/wire.float
theorem wire_float (tb : Bool) (nb : Bool) (b : List UInt8) (hb : b.length ≤ 8) : Holds Try.prog 94 ⟨[slV tb nb kU8 b], [], dv (.int .i64 (floatE b)), []⟩ := by
  refine Holds.of Try.func94 rfl (N := 15) Try.ntmps94 rfl fun w0 B0 S0 U0 => ?_
  show T _ (mkBase 15 0 w0 S0 U0 B0) ⟨[slV tb nb kU8 b], []⟩ _ _
  refine T.seq ?_
  refine xR [] (by kernel_rfl) (by kernel_rfl) ?_
  refine nT ?_
  refine T.seq ?_
  refine xR [hR 1 rfl rfl (r_call (wire_number tb nb b (by first | assumption | omega | (unfold maxLen; omega) | (simp [maxLen, -List.getD_eq_getElem?_getD] <;> omega) | decide)) Try.func91 rfl (by decide) [] [] (l := [(.tmp 5, slV tb nb kU8 b)]) [] rfl 0 0 rfl rfl rfl rfl rfl rfl rfl rfl rfl ⟨.inl ⟨rfl, rfl⟩, trivial⟩ rfl (fun b hb => by cases hb) (.inl rfl) (lt_of rfl) trivial)] (by kernel_rfl) (by kernel_rfl) ?_
  refine nT ?_
  refine T.seq ?_
  refine T.seq ?_
  refine xR [hR 1 rfl rfl (r_ext1 (u := .int .u64 ((numL b : Nat) : Int)) (v := .float .f64 (numL b)) (e := Extern.MathFloatBits.float64frombits) Try.func85 (by kernel_rfl) (by kernel_rfl) (by kernel_rfl) (by kernel_rfl) (fun w => rfl) (lt_of rfl) trivial)] (by kernel_rfl) (by kernel_rfl) ?_
  refine nT ?_
  refine T.seq ?_
  by_cases hq1 : (nanB (numL b)) = true
  · refine xR [hR 1 rfl rfl (r_call (math_IsNaN (numL b) ) Try.func83 rfl (by decide) [] [] (l := [(.tmp 9, dv (.float .f64 (numL b)))]) [] rfl 0 0 rfl rfl rfl rfl rfl rfl rfl rfl rfl ⟨.inl ⟨rfl, rfl⟩, trivial⟩ rfl (fun b hb => by cases hb) (.inl rfl) (lt_of rfl) trivial),
      hY 3 hq1,
      hY 4 hq1,
      hP 5 hq1] (by kernel_rfl) (by kernel_rfl) ?_
    refine nT ?_
    by_cases hq2 : ((numL b : Nat) : Int) ≠ 9221120237041090561
    · refine T.condT (by kernel_rfl) (decide_eq_true hq2) ?_
      refine T.seq ?_
      refine xR [] (by kernel_rfl) (by kernel_rfl) ?_
      refine nT ?_
      refine T.ret ?_
      refine rT ?_
      exact tE (.inl rfl) [.t 2 (.one (.d (.val (.int .i64 12))))] ⟨⟨rfl, by kernel_rfl⟩, trivial⟩ [] (by have e1 : (floatE b : Int) = 12 := (by first | rfl | (simp [floatE, *]; done) | (simp only [floatE]; first | rw [if_pos ⟨by assumption, by assumption⟩] | rw [if_neg (fun h => by first | exact absurd h.1 (by assumption) | exact absurd h.2 (by assumption) | simp_all)])); have hE := congrArg (fun (q1 : Int) => (dv (.int .i64 q1) : AV)) e1; exact hE) rfl rfl rfl rfl rfl trivial
    · refine T.condF (by kernel_rfl) (decide_eq_false hq2) ?_
      refine T.skip ?_
      refine nT ?_
      refine T.seq ?_
      refine xR [] (by kernel_rfl) (by kernel_rfl) ?_
      refine nT ?_
      refine T.ret ?_
      exact tE (.inl rfl) [.t 2 (.one (.d (.val (.int .i64 0))))] ⟨⟨rfl, by kernel_rfl⟩, trivial⟩ [] (by have e1 : (floatE b : Int) = 0 := (by first | rfl | (simp [floatE, *]; done) | (simp only [floatE]; first | rw [if_pos ⟨by assumption, by assumption⟩] | rw [if_neg (fun h => by first | exact absurd h.1 (by assumption) | exact absurd h.2 (by assumption) | simp_all)])); have hE := congrArg (fun (q1 : Int) => (dv (.int .i64 q1) : AV)) e1; exact hE) rfl rfl rfl rfl rfl trivial
  · replace hq1 := Bool.eq_false_iff.2 hq1
    refine xR [hR 1 rfl rfl (r_call (math_IsNaN (numL b) ) Try.func83 rfl (by decide) [] [] (l := [(.tmp 9, dv (.float .f64 (numL b)))]) [] rfl 0 0 rfl rfl rfl rfl rfl rfl rfl rfl rfl ⟨.inl ⟨rfl, rfl⟩, trivial⟩ rfl (fun b hb => by cases hb) (.inl rfl) (lt_of rfl) trivial),
      hN 3 true hq1,
      hN 4 true hq1,
      hP 5 hq1] (by kernel_rfl) (by kernel_rfl) ?_
    refine nT ?_
    refine T.condF (b := false) (by kernel_rfl) rfl ?_
    refine T.skip ?_
    refine nT ?_
    refine T.seq ?_
    refine xR [] (by kernel_rfl) (by kernel_rfl) ?_
    refine nT ?_
    refine T.ret ?_
    exact tE (.inl rfl) [.t 2 (.one (.d (.val (.int .i64 0))))] ⟨⟨rfl, by kernel_rfl⟩, trivial⟩ [] (by have e1 : (floatE b : Int) = 0 := (by first | rfl | (simp [floatE, *]; done) | (simp only [floatE]; first | rw [if_pos ⟨by assumption, by assumption⟩] | rw [if_neg (fun h => by first | exact absurd h.1 (by assumption) | exact absurd h.2 (by assumption) | simp_all)])); have hE := congrArg (fun (q1 : Int) => (dv (.int .i64 q1) : AV)) e1; exact hE) rfl rfl rfl rfl rfl trivial
end Go.Proofs.Ytlabmehgcfgigaa.Q
namespace Go.Proofs.Ytlabmehgcfgigaa.Q
open Go Go.RowKit
set_option linter.unusedVariables false
set_option linter.unusedSimpArgs false
set_option maxRecDepth 100000
set_option maxHeartbeats 4000000
theorem iat_76 : Try.prog.info? 76 = some Try.t76 := by kernel_rfl
theorem zero_76 : Zero Try.prog 76 [.slice none 0 0, .int .i64 0] := ⟨_, _, iat_76, rfl, rfl⟩
theorem places_76 : Places Try.prog 76 [(0, 1), (1, 1)] := ⟨_, Try.underlying76, ⟨⟨rfl, _, iat_47, rfl⟩, ⟨⟨rfl, _, iat_32, rfl⟩, trivial⟩⟩⟩
-- quaestor/wire.New
theorem wire_New (tb : Bool) (nb : Bool) (b : List UInt8) (hb : b.length ≤ 140737488355328) : Holds Try.prog 34 ⟨[slV tb nb kU8 b], [], pv 0 0, [.live (.box 76 [.d (dsl false false kU8 b), .d (.val (.int .i64 0))])]⟩ := by
  refine Holds.of Try.func34 rfl (N := 7) Try.ntmps34 rfl fun w0 B0 S0 U0 => ?_
  show T _ (mkBase 7 0 w0 S0 U0 B0) ⟨[slV tb nb kU8 b], []⟩ _ _
  refine T.seq ?_
  refine xR [] (by kernel_rfl) (by kernel_rfl) ?_
  refine nT ?_
  refine T.seq ?_
  refine xR [hR 1 rfl rfl (r_call (clone_u8 tb nb b (by first | assumption | omega | (unfold maxLen; omega) | (simp [maxLen, -List.getD_eq_getElem?_getD] <;> omega) | decide)) Try.func61 rfl (by decide) [0] [] (l := [(.tmp 3, slV tb nb kU8 b)]) [] rfl 0 1 rfl rfl rfl rfl rfl rfl rfl rfl rfl ⟨.inl ⟨rfl, rfl⟩, trivial⟩ rfl (fun b hb => by cases hb) (.inl rfl) (lt_of rfl) trivial)] (by kernel_rfl) (by kernel_rfl) ?_
  refine nT ?_
  refine T.ret ?_
  refine Ends.turn (s' := ⟨[slV tb nb kU8 b, aa, pv 1 0], [.live (arrK 5 kU8 b), .live (.box 76 [.own 0 kU8.sz 0 b.length, .d (.val (.int .i64 0))])]⟩) (fun _ _ hG => Gs.norm (by kernel_rfl) hG) ?_
  refine Ends.turn (s' := ⟨[slV tb nb kU8 b, aa, pv 1 0], [.dead, .live (.box 76 [.d (dsl false false kU8 b), .d (.val (.int .i64 0))])]⟩) (fun _ _ hG => Gs.freeze (s := ⟨[slV tb nb kU8 b, aa, pv 1 0], [.live (arrK 5 kU8 b), .live (.box 76 [.own 0 kU8.sz 0 b.length, .d (.val (.int .i64 0))])]⟩) 0 (el := elOf kU8 b) (sz := kU8.sz) (n := b.length) rfl ⟨(.inl rfl), ⟨(.inl rfl), ⟨(.inl rfl), trivial⟩⟩⟩ ⟨(.inl ⟨rfl, rfl⟩), ⟨(.inr ⟨by decide, .inr ⟨rfl, ⟨(.inr ⟨rfl, rfl, rfl, (fun h => by cases h), rfl, rfl, by omega, fun i j _ => by rw [Nat.zero_add]⟩), ⟨(.inl rfl), trivial⟩⟩⟩⟩), trivial⟩⟩ hG) ?_
  exact tE (.inl rfl) [.t 2 (.one (.ptr 1 0))] ⟨⟨rfl, by kernel_rfl⟩, trivial⟩ [1] rfl rfl rfl rfl rfl rfl ⟨⟨rfl, (by kernel_rfl)⟩, trivial⟩
end Go.Proofs.Ytlabmehgcfgigaa.Q
namespace Go.Proofs.Ytlabmehgcfgigaa.Q
open Go Go.RowKit
set_option linter.unusedVariables false
set_option linter.unusedSimpArgs false
set_option maxRecDepth 100000
set_option maxHeartbeats 4000000
theorem fld_76_1 : FieldAt Try.prog 76 1 1 := ⟨_, _, _, Try.underlying76, rfl, iat_32, by decide, rfl⟩
theorem fld_76_0 : FieldAt Try.prog 76 0 0 := ⟨_, _, _, Try.underlying76, rfl, iat_47, by decide, rfl⟩
theorem cells_47 : Cells Try.prog 47 1 := ⟨_, iat_47, rfl⟩
-- (*quaestor/wire.Reader).take
theorem take_any_ok (rest : List UInt8) (e : Int) (n : Int) (hr : rest.length ≤ 140737488355328) (hn : 0 ≤ n) (hc : okT rest e n 0) : Holds Try.prog 89 ⟨[pv 0 0, dv (.int .i64 n), dv (.func (.func 90) #[] #[])], [.box 76 [.d (dsl false false kU8 rest), .d (.val (.int .i64 e))]], slV false false kU8 (rest.take n.toNat), [.live (.box 76 [.d (dsl false false kU8 (rest.drop n.toNat)), .d (.val (.int .i64 0))])]⟩ := by
  refine Holds.of Try.func89 rfl (N := 54) Try.ntmps89 rfl fun w0 B0 S0 U0 => ?_
  show T _ (mkBase 54 1 w0 S0 U0 B0) ⟨[pv 0 0, dv (.int .i64 n), dv (.func (.func 90) #[] #[])], [.live (.box 76 [.d (dsl false false kU8 rest), .d (.val (.int .i64 e))])]⟩ _ _
  have htl : (rest.take n.toNat).length ≤ n.toNat := List.length_take_le _ _
  obtain ⟨hc1, hc2, hc3⟩ := hc
  have htm : (rest.take n.toNat).length = n.toNat := by rw [List.length_take]; omega
  refine T.seq ?_
  refine xR [] (by kernel_rfl) (by kernel_rfl) ?_
  refine nT ?_
  refine T.seq ?_
  refine T.seq ?_
  refine xR [hY 3 (b := false) (w := false) rfl,
    hY 4 (b := false) (w := false) rfl,
    hY 5 (b := false) (w := false) rfl,
    hY 6 (b := false) (w := false) rfl,
    hY 7 (b := false) (w := false) rfl,
    hP 8 (b := false) (w := false) rfl] (by kernel_rfl) (by kernel_rfl) ?_
  refine nT ?_
  by_cases hq1 : e ≠ 0
  · exact absurd hc1 hq1
  · refine T.condF (by kernel_rfl) (decide_eq_false hq1) ?_
    refine T.skip ?_
    refine nT ?_
    refine T.seq ?_
    refine T.seq ?_
    refine xR [] (by kernel_rfl) (by kernel_rfl) ?_
    refine nT ?_
    by_cases hq2 : n > ((rest.length : Nat) : Int)
    · exact absurd hc2 (by omega)
    · refine T.condF (by kernel_rfl) (decide_eq_false hq2) ?_
      refine T.skip ?_
      refine nT ?_
      refine T.seq ?_
      refine xR [hR 5 rfl rfl (q_slice false false kU8 rest (rest.take (n).toNat) 0 (n).toNat (lo := none) (hi := some (.tmp 31, n)) Try.underlying47 iat_5 rfl rfl rfl rfl (by omega) (by first | assumption | omega | (unfold maxLen; omega) | (simp [maxLen, -List.getD_eq_getElem?_getD] <;> omega) | decide) (by first | assumption | omega | (unfold maxLen; omega) | (simp [maxLen, -List.getD_eq_getElem?_getD] <;> omega) | decide) rfl (lt_of rfl) trivial)] (by kernel_rfl) (by kernel_rfl) ?_
      refine nT ?_
      refine T.seq ?_
      refine T.seq ?_
      refine xR [hR 3 rfl rfl (r_callV (fs := #[]) (cs := #[]) (wire_any false false (rest.take (n).toNat) ) Try.func90 rfl (by decide) [] [] (l := [(.tmp 35, slV false false kU8 (rest.take (n).toNat))]) [] rfl 0 0 rfl rfl rfl rfl rfl rfl rfl rfl rfl rfl rfl ⟨.inl ⟨rfl, rfl⟩, trivial⟩ rfl (fun b hb => by cases hb) (.inl rfl) (lt_of rfl) trivial)] (by kernel_rfl) (by kernel_rfl) ?_
      refine nT ?_
      refine T.seq ?_
      refine xR [] (by kernel_rfl) (by kernel_rfl) ?_
      refine nT ?_
      refine T.condF (b := false) (by kernel_rfl) rfl ?_
      refine T.skip ?_
      refine nT ?_
      refine T.seq ?_
      refine xR [hR 6 rfl rfl (q_slice false false kU8 rest (rest.drop (n).toNat) (n).toNat rest.length (lo := some (.tmp 49, n)) (hi := none) Try.underlying47 iat_5 rfl rfl rfl (by omega) rfl (by first | assumption | omega | (unfold maxLen; omega) | (simp [maxLen, -List.getD_eq_getElem?_getD] <;> omega) | decide) (by first | assumption | omega | (unfold maxLen; omega) | (simp [maxLen, -List.getD_eq_getElem?_getD] <;> omega) | decide) (by rw [List.take_length]) (lt_of rfl) trivial)] (by kernel_rfl) (by kernel_rfl) ?_
      refine nT ?_
      refine T.seq ?_
      refine xR [] (by kernel_rfl) (by kernel_rfl) ?_
      refine nT ?_
      refine T.ret ?_
      exact tE (.inl rfl) [.t 6 (.one (.d (dsl false false kU8 (rest.take (n).toNat))))] ⟨⟨rfl, by kernel_rfl⟩, trivial⟩ [0] (by have e1 : ((rest.take n.toNat) : List UInt8) = (rest.take (n).toNat) := (by first | rfl | exact hc3 | exact hc3.symm); have hE := congrArg (fun (q1 : List UInt8) => (slV false false kU8 q1 : AV)) e1; exact hE) rfl rfl rfl rfl rfl ⟨⟨rfl, (by have e1 : ((rest.drop (n).toNat) : List UInt8) = (rest.drop n.toNat) := (by first | rfl | exact hc3 | exact hc3.symm); have hE := congrArg (fun (q1 : List UInt8) => (.live (.box 76 [.d (dsl false false kU8 q1), .d (.val (.int .i64 0))]) : HS)) e1; exact Eq.trans (by kernel_rfl) hE)⟩, trivial⟩
end Go.Proofs.Ytlabmehgcfgigaa.Q
namespace Go.Proofs.Ytlabmehgcfgigaa.Q
open Go Go.RowKit
set_option linter.unusedVariables false
set_option linter.unusedSimpArgs false
set_option maxRecDepth 100000
set_option maxHeartbeats 4000000
-- (*quaestor/wire.Reader).take
theorem take_any_no (rest : List UInt8) (e : Int) (n : Int) (hr : rest.length ≤ 140737488355328) (hn : 0 ≤ n) (hc : ¬ okT rest e n 0) : Holds Try.prog 89 ⟨[pv 0 0, dv (.int .i64 n), dv (.func (.func 90) #[] #[])], [.box 76 [.d (dsl false false kU8 rest), .d (.val (.int .i64 e))]], dv (.slice none 0 0), [.live (.box 76 [.d (dsl false false kU8 rest), .d (.val (.int .i64 (rdE rest e n 0)))])]⟩ := by
  refine Holds.of Try.func89 rfl (N := 54) Try.ntmps89 rfl fun w0 B0 S0 U0 => ?_
  show T _ (mkBase 54 1 w0 S0 U0 B0) ⟨[pv 0 0, dv (.int .i64 n), dv (.func (.func 90) #[] #[])], [.live (.box 76 [.d (dsl false false kU8 rest), .d (.val (.int .i64 e))])]⟩ _ _
  have htl : (rest.take n.toNat).length ≤ n.toNat := List.length_take_le _ _
  refine T.seq ?_
  refine xR [] (by kernel_rfl) (by kernel_rfl) ?_
  refine nT ?_
  refine T.seq ?_
  refine T.seq ?_
  refine xR [hY 3 (b := false) (w := false) rfl,
    hY 4 (b := false) (w := false) rfl,
    hY 5 (b := false) (w := false) rfl,
    hY 6 (b := false) (w := false) rfl,
    hY 7 (b := false) (w := false) rfl,
    hP 8 (b := false) (w := false) rfl] (by kernel_rfl) (by kernel_rfl) ?_
  refine nT ?_
  by_cases hq1 : e ≠ 0
  · refine T.condT (by kernel_rfl) (decide_eq_true hq1) ?_
    refine T.seq ?_
    refine xR [] (by kernel_rfl) (by kernel_rfl) ?_
    refine nT ?_
    refine T.ret ?_
    refine rT ?_
    exact tE (.inl rfl) [.t 6 (.one (.d (.val (.slice none 0 0))))] ⟨⟨rfl, by kernel_rfl⟩, trivial⟩ [0] rfl rfl rfl rfl rfl rfl ⟨⟨rfl, (by have e1 : (e : Int) = (rdE rest e n 0) := (by first | rfl | (simp only [rdE]; first | rw [if_pos (by assumption)] | (rw [if_neg (by assumption)]; first | rw [if_pos (by assumption)] | rw [if_neg (by assumption)]))); have hE := congrArg (fun (q1 : Int) => (.live (.box 76 [.d (dsl false false kU8 rest), .d (.val (.int .i64 q1))]) : HS)) e1; exact Eq.trans (by kernel_rfl) hE)⟩, trivial⟩
  · refine T.condF (by kernel_rfl) (decide_eq_false hq1) ?_
    refine T.skip ?_
    refine nT ?_
    refine T.seq ?_
    refine T.seq ?_
    refine xR [] (by kernel_rfl) (by kernel_rfl) ?_
    refine nT ?_
    by_cases hq2 : n > ((rest.length : Nat) : Int)
    · refine T.condT (by kernel_rfl) (decide_eq_true hq2) ?_
      refine T.seq ?_
      refine xR [] (by kernel_rfl) (by kernel_rfl) ?_
      refine nT ?_
      refine T.seq ?_
      refine xR [] (by kernel_rfl) (by kernel_rfl) ?_
      refine nT ?_
      refine T.ret ?_
      refine rT ?_
      exact tE (.inl rfl) [.t 6 (.one (.d (.val (.slice none 0 0))))] ⟨⟨rfl, by kernel_rfl⟩, trivial⟩ [0] rfl rfl rfl rfl rfl rfl ⟨⟨rfl, (by have e1 : (10 : Int) = (rdE rest e n 0) := (by first | rfl | (simp only [rdE]; first | rw [if_pos (by assumption)] | (rw [if_neg (by assumption)]; first | rw [if_pos (by assumption)] | rw [if_neg (by assumption)]))); have hE := congrArg (fun (q1 : Int) => (.live (.box 76 [.d (dsl false false kU8 rest), .d (.val (.int .i64 q1))]) : HS)) e1; exact Eq.trans (by kernel_rfl) hE)⟩, trivial⟩
    · exact absurd ⟨by omega, by omega, rfl⟩ hc
end Go.Proofs.Ytlabmehgcfgigaa.Q
namespace Go.Proofs.Ytlabmehgcfgigaa.Q
open Go Go.RowKit
set_option linter.unusedVariables false
set_option linter.unusedSimpArgs false
set_option maxRecDepth 100000
set_option maxHeartbeats 4000000
-- (*quaestor/wire.Reader).take
theorem take_truth_ok (rest : List UInt8) (e : Int) (n : Int) (hr : rest.length ≤ 140737488355328) (hn : n = 1) (hc : okT rest e n (truthE (rest.take n.toNat))) : Holds Try.prog 89 ⟨[pv 0 0, dv (.int .i64 n), dv (.func (.func 92) #[] #[])], [.box 76 [.d (dsl false false kU8 rest), .d (.val (.int .i64 e))]], slV false false kU8 (rest.take n.toNat), [.live (.box 76 [.d (dsl false false kU8 (rest.drop n.toNat)), .d (.val (.int .i64 0))])]⟩ := by
  refine Holds.of Try.func89 rfl (N := 54) Try.ntmps89 rfl fun w0 B0 S0 U0 => ?_
  show T _ (mkBase 54 1 w0 S0 U0 B0) ⟨[pv 0 0, dv (.int .i64 n), dv (.func (.func 92) #[] #[])], [.live (.box 76 [.d (dsl false false kU8 rest), .d (.val (.int .i64 e))])]⟩ _ _
  have htl : (rest.take n.toNat).length ≤ n.toNat := List.length_take_le _ _
  obtain ⟨hc1, hc2, hc3⟩ := hc
  have htm : (rest.take n.toNat).length = n.toNat := by rw [List.length_take]; omega
  refine T.seq ?_
  refine xR [] (by kernel_rfl) (by kernel_rfl) ?_
  refine nT ?_
  refine T.seq ?_
  refine T.seq ?_
  refine xR [hY 3 (b := false) (w := false) rfl,
    hY 4 (b := false) (w := false) rfl,
    hY 5 (b := false) (w := false) rfl,
    hY 6 (b := false) (w := false) rfl,
    hY 7 (b := false) (w := false) rfl,
    hP 8 (b := false) (w := false) rfl] (by kernel_rfl) (by kernel_rfl) ?_
  refine nT ?_
  by_cases hq1 : e ≠ 0
  · exact absurd hc1 hq1
  · refine T.condF (by kernel_rfl) (decide_eq_false hq1) ?_
    refine T.skip ?_
    refine nT ?_
    refine T.seq ?_
    refine T.seq ?_
    refine xR [] (by kernel_rfl) (by kernel_rfl) ?_
    refine nT ?_
    by_cases hq2 : n > ((rest.length : Nat) : Int)
    · exact absurd hc2 (by omega)
    · refine T.condF (by kernel_rfl) (decide_eq_false hq2) ?_
      refine T.skip ?_
      refine nT ?_
      refine T.seq ?_
      refine xR [hR 5 rfl rfl (q_slice false false kU8 rest (rest.take (n).toNat) 0 (n).toNat (lo := none) (hi := some (.tmp 31, n)) Try.underlying47 iat_5 rfl rfl rfl rfl (by omega) (by first | assumption | omega | (unfold maxLen; omega) | (simp [maxLen, -List.getD_eq_getElem?_getD] <;> omega) | decide) (by first | assumption | omega | (unfold maxLen; omega) | (simp [maxLen, -List.getD_eq_getElem?_getD] <;> omega) | decide) rfl (lt_of rfl) trivial)] (by kernel_rfl) (by kernel_rfl) ?_
      refine nT ?_
      refine T.seq ?_
      refine T.seq ?_
      refine xR [hR 3 rfl rfl (r_callV (fs := #[]) (cs := #[]) (wire_truth false false (rest.take (n).toNat) (by first | assumption | omega | (unfold maxLen; omega) | (simp [maxLen, -List.getD_eq_getElem?_getD] <;> omega) | decide)) Try.func92 rfl (by decide) [] [] (l := [(.tmp 35, slV false false kU8 (rest.take (n).toNat))]) [] rfl 0 0 rfl rfl rfl rfl rfl rfl rfl rfl rfl rfl rfl ⟨.inl ⟨rfl, rfl⟩, trivial⟩ rfl (fun b hb => by cases hb) (.inl rfl) (lt_of rfl) trivial)] (by kernel_rfl) (by kernel_rfl) ?_
      refine nT ?_
      refine T.seq ?_
      refine xR [] (by kernel_rfl) (by kernel_rfl) ?_
      refine nT ?_
      by_cases hq3 : (truthE (rest.take (n).toNat)) ≠ 0
      · exact absurd hc3 hq3
      · refine T.condF (by kernel_rfl) (decide_eq_false hq3) ?_
        refine T.skip ?_
        refine nT ?_
        refine T.seq ?_
        refine xR [hR 6 rfl rfl (q_slice false false kU8 rest (rest.drop (n).toNat) (n).toNat rest.length (lo := some (.tmp 49, n)) (hi := none) Try.underlying47 iat_5 rfl rfl rfl (by omega) rfl (by first | assumption | omega | (unfold maxLen; omega) | (simp [maxLen, -List.getD_eq_getElem?_getD] <;> omega) | decide) (by first | assumption | omega | (unfold maxLen; omega) | (simp [maxLen, -List.getD_eq_getElem?_getD] <;> omega) | decide) (by rw [List.take_length]) (lt_of rfl) trivial)] (by kernel_rfl) (by kernel_rfl) ?_
        refine nT ?_
        refine T.seq ?_
        refine xR [] (by kernel_rfl) (by kernel_rfl) ?_
        refine nT ?_
        refine T.ret ?_
        exact tE (.inl rfl) [.t 6 (.one (.d (dsl false false kU8 (rest.take (n).toNat))))] ⟨⟨rfl, by kernel_rfl⟩, trivial⟩ [0] (by have e1 : ((rest.take n.toNat) : List UInt8) = (rest.take (n).toNat) := (by first | rfl | exact hc3 | exact hc3.symm); have hE := congrArg (fun (q1 : List UInt8) => (slV false false kU8 q1 : AV)) e1; exact hE) rfl rfl rfl rfl rfl ⟨⟨rfl, (by have e1 : ((rest.drop (n).toNat) : List UInt8) = (rest.drop n.toNat) := (by first | rfl | exact hc3 | exact hc3.symm); have e2 : (truthE (rest.take (n).toNat) : Int) = 0 := (by first | rfl | exact hc3 | exact hc3.symm); have hE := congr (congrArg (fun (q1 : List UInt8) (q2 : Int) => (.live (.box 76 [.d (dsl false false kU8 q1), .d (.val (.int .i64 q2))]) : HS)) e1) e2; exact Eq.trans (by kernel_rfl) hE)⟩, trivial⟩
end Go.Proofs.Ytlabmehgcfgigaa.Q
namespace Go.Proofs.Ytlabmehgcfgigaa.Q
open Go Go.RowKit
set_option linter.unusedVariables false
set_option linter.unusedSimpArgs false
set_option maxRecDepth 100000
set_option maxHeartbeats 4000000
-- (*quaestor/wire.Reader).take
theorem take_truth_no (rest : List UInt8) (e : Int) (n : Int) (hr : rest.length ≤ 140737488355328) (hn : n = 1) (hc : ¬ okT rest e n (truthE (rest.take n.toNat))) : Holds Try.prog 89 ⟨[pv 0 0, dv (.int .i64 n), dv (.func (.func 92) #[] #[])], [.box 76 [.d (dsl false false kU8 rest), .d (.val (.int .i64 e))]], dv (.slice none 0 0), [.live (.box 76 [.d (dsl false false kU8 rest), .d (.val (.int .i64 (rdE rest e n (truthE (rest.take n.toNat)))))])]⟩ := by
  refine Holds.of Try.func89 rfl (N := 54) Try.ntmps89 rfl fun w0 B0 S0 U0 => ?_
  show T _ (mkBase 54 1 w0 S0 U0 B0) ⟨[pv 0 0, dv (.int .i64 n), dv (.func (.func 92) #[] #[])], [.live (.box 76 [.d (dsl false false kU8 rest), .d (.val (.int .i64 e))])]⟩ _ _
  have htl : (rest.take n.toNat).length ≤ n.toNat := List.length_take_le _ _
  refine T.seq ?_
  refine xR [] (by kernel_rfl) (by kernel_rfl) ?_
  refine nT ?_
  refine T.seq ?_
  refine T.seq ?_
  refine xR [hY 3 (b := false) (w := false) rfl,
    hY 4 (b := false) (w := false) rfl,
    hY 5 (b := false) (w := false) rfl,
    hY 6 (b := false) (w := false) rfl,
    hY 7 (b := false) (w := false) rfl,
    hP 8 (b := false) (w := false) rfl] (by kernel_rfl) (by kernel_rfl) ?_
  refine nT ?_
  by_cases hq1 : e ≠ 0
  · refine T.condT (by kernel_rfl) (decide_eq_true hq1) ?_
    refine T.seq ?_
    refine xR [] (by kernel_rfl) (by kernel_rfl) ?_
    refine nT ?_
    refine T.ret ?_
    refine rT ?_
    exact tE (.inl rfl) [.t 6 (.one (.d (.val (.slice none 0 0))))] ⟨⟨rfl, by kernel_rfl⟩, trivial⟩ [0] rfl rfl rfl rfl rfl rfl ⟨⟨rfl, (by have e1 : (e : Int) = (rdE rest e n (truthE (rest.take n.toNat))) := (by first | rfl | (simp only [rdE]; first | rw [if_pos (by assumption)] | (rw [if_neg (by assumption)]; first | rw [if_pos (by assumption)] | rw [if_neg (by assumption)]))); have hE := congrArg (fun (q1 : Int) => (.live (.box 76 [.d (dsl false false kU8 rest), .d (.val (.int .i64 q1))]) : HS)) e1; exact Eq.trans (by kernel_rfl) hE)⟩, trivial⟩
  · refine T.condF (by kernel_rfl) (decide_eq_false hq1) ?_
    refine T.skip ?_
    refine nT ?_
    refine T.seq ?_
    refine T.seq ?_
    refine xR [] (by kernel_rfl) (by kernel_rfl) ?_
    refine nT ?_
    by_cases hq2 : n > ((rest.length : Nat) : Int)
    · refine T.condT (by kernel_rfl) (decide_eq_true hq2) ?_
      refine T.seq ?_
      refine xR [] (by kernel_rfl) (by kernel_rfl) ?_
      refine nT ?_
      refine T.seq ?_
      refine xR [] (by kernel_rfl) (by kernel_rfl) ?_
      refine nT ?_
      refine T.ret ?_
      refine rT ?_
      exact tE (.inl rfl) [.t 6 (.one (.d (.val (.slice none 0 0))))] ⟨⟨rfl, by kernel_rfl⟩, trivial⟩ [0] rfl rfl rfl rfl rfl rfl ⟨⟨rfl, (by have e1 : (10 : Int) = (rdE rest e n (truthE (rest.take n.toNat))) := (by first | rfl | (simp only [rdE]; first | rw [if_pos (by assumption)] | (rw [if_neg (by assumption)]; first | rw [if_pos (by assumption)] | rw [if_neg (by assumption)]))); have hE := congrArg (fun (q1 : Int) => (.live (.box 76 [.d (dsl false false kU8 rest), .d (.val (.int .i64 q1))]) : HS)) e1; exact Eq.trans (by kernel_rfl) hE)⟩, trivial⟩
    · refine T.condF (by kernel_rfl) (decide_eq_false hq2) ?_
      refine T.skip ?_
      refine nT ?_
      refine T.seq ?_
      refine xR [hR 5 rfl rfl (q_slice false false kU8 rest (rest.take (n).toNat) 0 (n).toNat (lo := none) (hi := some (.tmp 31, n)) Try.underlying47 iat_5 rfl rfl rfl rfl (by omega) (by first | assumption | omega | (unfold maxLen; omega) | (simp [maxLen, -List.getD_eq_getElem?_getD] <;> omega) | decide) (by first | assumption | omega | (unfold maxLen; omega) | (simp [maxLen, -List.getD_eq_getElem?_getD] <;> omega) | decide) rfl (lt_of rfl) trivial)] (by kernel_rfl) (by kernel_rfl) ?_
      refine nT ?_
      refine T.seq ?_
      refine T.seq ?_
      refine xR [hR 3 rfl rfl (r_callV (fs := #[]) (cs := #[]) (wire_truth false false (rest.take (n).toNat) (by first | assumption | omega | (unfold maxLen; omega) | (simp [maxLen, -List.getD_eq_getElem?_getD] <;> omega) | decide)) Try.func92 rfl (by decide) [] [] (l := [(.tmp 35, slV false false kU8 (rest.take (n).toNat))]) [] rfl 0 0 rfl rfl rfl rfl rfl rfl rfl rfl rfl rfl rfl ⟨.inl ⟨rfl, rfl⟩, trivial⟩ rfl (fun b hb => by cases hb) (.inl rfl) (lt_of rfl) trivial)] (by kernel_rfl) (by kernel_rfl) ?_
      refine nT ?_
      refine T.seq ?_
      refine xR [] (by kernel_rfl) (by kernel_rfl) ?_
      refine nT ?_
      by_cases hq3 : (truthE (rest.take (n).toNat)) ≠ 0
      · refine T.condT (by kernel_rfl) (decide_eq_true hq3) ?_
        refine T.seq ?_
        refine xR [] (by kernel_rfl) (by kernel_rfl) ?_
        refine nT ?_
        refine T.ret ?_
        refine rT ?_
        exact tE (.inl rfl) [.t 6 (.one (.d (.val (.slice none 0 0))))] ⟨⟨rfl, by kernel_rfl⟩, trivial⟩ [0] rfl rfl rfl rfl rfl rfl ⟨⟨rfl, (by have e1 : (truthE (rest.take (n).toNat) : Int) = (rdE rest e n (truthE (rest.take n.toNat))) := (by first | rfl | (simp only [rdE]; first | rw [if_pos (by assumption)] | (rw [if_neg (by assumption)]; first | rw [if_pos (by assumption)] | rw [if_neg (by assumption)]))); have hE := congrArg (fun (q1 : Int) => (.live (.box 76 [.d (dsl false false kU8 rest), .d (.val (.int .i64 q1))]) : HS)) e1; exact Eq.trans (by kernel_rfl) hE)⟩, trivial⟩
      · exact absurd ⟨by omega, by omega, Classical.not_not.1 hq3⟩ hc
end Go.Proofs.Ytlabmehgcfgigaa.Q
namespace Go.Proofs.Ytlabmehgcfgigaa.Q
open Go Go.RowKit
set_option linter.unusedVariables false
set_option linter.unusedSimpArgs false
set_option maxRecDepth 100000
set_option maxHeartbeats 4000000
-- (*quaestor/wire.Reader).take
theorem take_limit_ok (rest : List UInt8) (e : Int) (n : Int) (most : Int) (hr : rest.length ≤ 140737488355328) (hn : n = 4) (hc : okT rest e n (limE most (rest.take n.toNat))) : Holds Try.prog 89 ⟨[pv 0 0, dv (.int .i64 n), dv (.func (.func 105) #[.int .i64 most] #[])], [.box 76 [.d (dsl false false kU8 rest), .d (.val (.int .i64 e))]], slV false false kU8 (rest.take n.toNat), [.live (.box 76 [.d (dsl false false kU8 (rest.drop n.toNat)), .d (.val (.int .i64 0))])]⟩ := by
  refine Holds.of Try.func89 rfl (N := 54) Try.ntmps89 rfl fun w0 B0 S0 U0 => ?_
  show T _ (mkBase 54 1 w0 S0 U0 B0) ⟨[pv 0 0, dv (.int .i64 n), dv (.func (.func 105) #[.int .i64 most] #[])], [.live (.box 76 [.d (dsl false false kU8 rest), .d (.val (.int .i64 e))])]⟩ _ _
  have htl : (rest.take n.toNat).length ≤ n.toNat := List.length_take_le _ _
  obtain ⟨hc1, hc2, hc3⟩ := hc
  have htm : (rest.take n.toNat).length = n.toNat := by rw [List.length_take]; omega
  refine T.seq ?_
  refine xR [] (by kernel_rfl) (by kernel_rfl) ?_
  refine nT ?_
  refine T.seq ?_
  refine T.seq ?_
  refine xR [hY 3 (b := false) (w := false) rfl,
    hY 4 (b := false) (w := false) rfl,
    hY 5 (b := false) (w := false) rfl,
    hY 6 (b := false) (w := false) rfl,
    hY 7 (b := false) (w := false) rfl,
    hP 8 (b := false) (w := false) rfl] (by kernel_rfl) (by kernel_rfl) ?_
  refine nT ?_
  by_cases hq1 : e ≠ 0
  · exact absurd hc1 hq1
  · refine T.condF (by kernel_rfl) (decide_eq_false hq1) ?_
    refine T.skip ?_
    refine nT ?_
    refine T.seq ?_
    refine T.seq ?_
    refine xR [] (by kernel_rfl) (by kernel_rfl) ?_
    refine nT ?_
    by_cases hq2 : n > ((rest.length : Nat) : Int)
    · exact absurd hc2 (by omega)
    · refine T.condF (by kernel_rfl) (decide_eq_false hq2) ?_
      refine T.skip ?_
      refine nT ?_
      refine T.seq ?_
      refine xR [hR 5 rfl rfl (q_slice false false kU8 rest (rest.take (n).toNat) 0 (n).toNat (lo := none) (hi := some (.tmp 31, n)) Try.underlying47 iat_5 rfl rfl rfl rfl (by omega) (by first | assumption | omega | (unfold maxLen; omega) | (simp [maxLen, -List.getD_eq_getElem?_getD] <;> omega) | decide) (by first | assumption | omega | (unfold maxLen; omega) | (simp [maxLen, -List.getD_eq_getElem?_getD] <;> omega) | decide) rfl (lt_of rfl) trivial)] (by kernel_rfl) (by kernel_rfl) ?_
      refine nT ?_
      refine T.seq ?_
      refine T.seq ?_
      refine xR [hR 3 rfl rfl (r_callV (fs := #[.int .i64 most]) (cs := #[]) (wire_may most false false (rest.take (n).toNat) (by first | assumption | omega | (unfold maxLen; omega) | (simp [maxLen, -List.getD_eq_getElem?_getD] <;> omega) | decide)) Try.func105 rfl (by decide) [] [] (l := [(.tmp 35, slV false false kU8 (rest.take (n).toNat))]) [] rfl 0 0 rfl rfl rfl rfl rfl rfl rfl rfl rfl rfl rfl ⟨.inl ⟨rfl, rfl⟩, ⟨.inl ⟨rfl, rfl⟩, trivial⟩⟩ rfl (fun b hb => by cases hb) (.inl rfl) (lt_of rfl) trivial)] (by kernel_rfl) (by kernel_rfl) ?_
      refine nT ?_
      refine T.seq ?_
      refine xR [] (by kernel_rfl) (by kernel_rfl) ?_
      refine nT ?_
      by_cases hq3 : (limE most (rest.take (n).toNat)) ≠ 0
      · exact absurd hc3 hq3
      · refine T.condF (by kernel_rfl) (decide_eq_false hq3) ?_
        refine T.skip ?_
        refine nT ?_
        refine T.seq ?_
        refine xR [hR 6 rfl rfl (q_slice false false kU8 rest (rest.drop (n).toNat) (n).toNat rest.length (lo := some (.tmp 49, n)) (hi := none) Try.underlying47 iat_5 rfl rfl rfl (by omega) rfl (by first | assumption | omega | (unfold maxLen; omega) | (simp [maxLen, -List.getD_eq_getElem?_getD] <;> omega) | decide) (by first | assumption | omega | (unfold maxLen; omega) | (simp [maxLen, -List.getD_eq_getElem?_getD] <;> omega) | decide) (by rw [List.take_length]) (lt_of rfl) trivial)] (by kernel_rfl) (by kernel_rfl) ?_
        refine nT ?_
        refine T.seq ?_
        refine xR [] (by kernel_rfl) (by kernel_rfl) ?_
        refine nT ?_
        refine T.ret ?_
        exact tE (.inl rfl) [.t 6 (.one (.d (dsl false false kU8 (rest.take (n).toNat))))] ⟨⟨rfl, by kernel_rfl⟩, trivial⟩ [0] (by have e1 : ((rest.take n.toNat) : List UInt8) = (rest.take (n).toNat) := (by first | rfl | exact hc3 | exact hc3.symm); have hE := congrArg (fun (q1 : List UInt8) => (slV false false kU8 q1 : AV)) e1; exact hE) rfl rfl rfl rfl rfl ⟨⟨rfl, (by have e1 : ((rest.drop (n).toNat) : List UInt8) = (rest.drop n.toNat) := (by first | rfl | exact hc3 | exact hc3.symm); have e2 : (limE most (rest.take (n).toNat) : Int) = 0 := (by first | rfl | exact hc3 | exact hc3.symm); have hE := congr (congrArg (fun (q1 : List UInt8) (q2 : Int) => (.live (.box 76 [.d (dsl false false kU8 q1), .d (.val (.int .i64 q2))]) : HS)) e1) e2; exact Eq.trans (by kernel_rfl) hE)⟩, trivial⟩
end Go.Proofs.Ytlabmehgcfgigaa.Q
namespace Go.Proofs.Ytlabmehgcfgigaa.Q
open Go Go.RowKit
set_option linter.unusedVariables false
set_option linter.unusedSimpArgs false
set_option maxRecDepth 100000
set_option maxHeartbeats 4000000
-- (*quaestor/wire.Reader).take
theorem take_limit_no (rest : List UInt8) (e : Int) (n : Int) (most : Int) (hr : rest.length ≤ 140737488355328) (hn : n = 4) (hc : ¬ okT rest e n (limE most (rest.take n.toNat))) : Holds Try.prog 89 ⟨[pv 0 0, dv (.int .i64 n), dv (.func (.func 105) #[.int .i64 most] #[])], [.box 76 [.d (dsl false false kU8 rest), .d (.val (.int .i64 e))]], dv (.slice none 0 0), [.live (.box 76 [.d (dsl false false kU8 rest), .d (.val (.int .i64 (rdE rest e n (limE most (rest.take n.toNat)))))])]⟩ := by
  refine Holds.of Try.func89 rfl (N := 54) Try.ntmps89 rfl fun w0 B0 S0 U0 => ?_
  show T _ (mkBase 54 1 w0 S0 U0 B0) ⟨[pv 0 0, dv (.int .i64 n), dv (.func (.func 105) #[.int .i64 most] #[])], [.live (.box 76 [.d (dsl false false kU8 rest), .d (.val (.int .i64 e))])]⟩ _ _
  have htl : (rest.take n.toNat).length ≤ n.toNat := List.length_take_le _ _
  refine T.seq ?_
  refine xR [] (by kernel_rfl) (by kernel_rfl) ?_
  refine nT ?_
  refine T.seq ?_
  refine T.seq ?_
  refine xR [hY 3 (b := false) (w := false) rfl,
    hY 4 (b := false) (w := false) rfl,
    hY 5 (b := false) (w := false) rfl,
    hY 6 (b := false) (w := false) rfl,
    hY 7 (b := false) (w := false) rfl,
    hP 8 (b := false) (w := false) rfl] (by kernel_rfl) (by kernel_rfl) ?_
  refine nT ?_
  by_cases hq1 : e ≠ 0
  · refine T.condT (by kernel_rfl) (decide_eq_true hq1) ?_
    refine T.seq ?_
    refine xR [] (by kernel_rfl) (by kernel_rfl) ?_
    refine nT ?_
    refine T.ret ?_
    refine rT ?_
    exact tE (.inl rfl) [.t 6 (.one (.d (.val (.slice none 0 0))))] ⟨⟨rfl, by kernel_rfl⟩, trivial⟩ [0] rfl rfl rfl rfl rfl rfl ⟨⟨rfl, (by have e1 : (e : Int) = (rdE rest e n (limE most (rest.take n.toNat))) := (by first | rfl | (simp only [rdE]; first | rw [if_pos (by assumption)] | (rw [if_neg (by assumption)]; first | rw [if_pos (by assumption)] | rw [if_neg (by assumption)]))); have hE := congrArg (fun (q1 : Int) => (.live (.box 76 [.d (dsl false false kU8 rest), .d (.val (.int .i64 q1))]) : HS)) e1; exact Eq.trans (by kernel_rfl) hE)⟩, trivial⟩
  · refine T.condF (by kernel_rfl) (decide_eq_false hq1) ?_
    refine T.skip ?_
    refine nT ?_
    refine T.seq ?_
    refine T.seq ?_
    refine xR [] (by kernel_rfl) (by kernel_rfl) ?_
    refine nT ?_
    by_cases hq2 : n > ((rest.length : Nat) : Int)
    · refine T.condT (by kernel_rfl) (decide_eq_true hq2) ?_
      refine T.seq ?_
      refine xR [] (by kernel_rfl) (by kernel_rfl) ?_
      refine nT ?_
      refine T.seq ?_
      refine xR [] (by kernel_rfl) (by kernel_rfl) ?_
      refine nT ?_
      refine T.ret ?_
      refine rT ?_
      exact tE (.inl rfl) [.t 6 (.one (.d (.val (.slice none 0 0))))] ⟨⟨rfl, by kernel_rfl⟩, trivial⟩ [0] rfl rfl rfl rfl rfl rfl ⟨⟨rfl, (by have e1 : (10 : Int) = (rdE rest e n (limE most (rest.take n.toNat))) := (by first | rfl | (simp only [rdE]; first | rw [if_pos (by assumption)] | (rw [if_neg (by assumption)]; first | rw [if_pos (by assumption)] | rw [if_neg (by assumption)]))); have hE := congrArg (fun (q1 : Int) => (.live (.box 76 [.d (dsl false false kU8 rest), .d (.val (.int .i64 q1))]) : HS)) e1; exact Eq.trans (by kernel_rfl) hE)⟩, trivial⟩
    · refine T.condF (by kernel_rfl) (decide_eq_false hq2) ?_
      refine T.skip ?_
      refine nT ?_
      refine T.seq ?_
      refine xR [hR 5 rfl rfl (q_slice false false kU8 rest (rest.take (n).toNat) 0 (n).toNat (lo := none) (hi := some (.tmp 31, n)) Try.underlying47 iat_5 rfl rfl rfl rfl (by omega) (by first | assumption | omega | (unfold maxLen; omega) | (simp [maxLen, -List.getD_eq_getElem?_getD] <;> omega) | decide) (by first | assumption | omega | (unfold maxLen; omega) | (simp [maxLen, -List.getD_eq_getElem?_getD] <;> omega) | decide) rfl (lt_of rfl) trivial)] (by kernel_rfl) (by kernel_rfl) ?_
      refine nT ?_
      refine T.seq ?_
      refine T.seq ?_
      refine xR [hR 3 rfl rfl (r_callV (fs := #[.int .i64 most]) (cs := #[]) (wire_may most false false (rest.take (n).toNat) (by first | assumption | omega | (unfold maxLen; omega) | (simp [maxLen, -List.getD_eq_getElem?_getD] <;> omega) | decide)) Try.func105 rfl (by decide) [] [] (l := [(.tmp 35, slV false false kU8 (rest.take (n).toNat))]) [] rfl 0 0 rfl rfl rfl rfl rfl rfl rfl rfl rfl rfl rfl ⟨.inl ⟨rfl, rfl⟩, ⟨.inl ⟨rfl, rfl⟩, trivial⟩⟩ rfl (fun b hb => by cases hb) (.inl rfl) (lt_of rfl) trivial)] (by kernel_rfl) (by kernel_rfl) ?_
      refine nT ?_
      refine T.seq ?_
      refine xR [] (by kernel_rfl) (by kernel_rfl) ?_
      refine nT ?_
      by_cases hq3 : (limE most (rest.take (n).toNat)) ≠ 0
      · refine T.condT (by kernel_rfl) (decide_eq_true hq3) ?_
        refine T.seq ?_
        refine xR [] (by kernel_rfl) (by kernel_rfl) ?_
        refine nT ?_
        refine T.ret ?_
        refine rT ?_
        exact tE (.inl rfl) [.t 6 (.one (.d (.val (.slice none 0 0))))] ⟨⟨rfl, by kernel_rfl⟩, trivial⟩ [0] rfl rfl rfl rfl rfl rfl ⟨⟨rfl, (by have e1 : (limE most (rest.take (n).toNat) : Int) = (rdE rest e n (limE most (rest.take n.toNat))) := (by first | rfl | (simp only [rdE]; first | rw [if_pos (by assumption)] | (rw [if_neg (by assumption)]; first | rw [if_pos (by assumption)] | rw [if_neg (by assumption)]))); have hE := congrArg (fun (q1 : Int) => (.live (.box 76 [.d (dsl false false kU8 rest), .d (.val (.int .i64 q1))]) : HS)) e1; exact Eq.trans (by kernel_rfl) hE)⟩, trivial⟩
      · exact absurd ⟨by omega, by omega, Classical.not_not.1 hq3⟩ hc
end Go.Proofs.Ytlabmehgcfgigaa.Q
namespace Go.Proofs.Ytlabmehgcfgigaa.Q
open Go Go.RowKit
set_option linter.unusedVariables false
set_option linter.unusedSimpArgs false
set_option maxRecDepth 100000
set_option maxHeartbeats 4000000
-- (*quaestor/wire.Reader).take
theorem take_float_ok (rest : List UInt8) (e : Int) (n : Int) (hr : rest.length ≤ 140737488355328) (hn : n = 8) (hc : okT rest e n (floatE (rest.take n.toNat))) : Holds Try.prog 89 ⟨[pv 0 0, dv (.int .i64 n), dv (.func (.func 94) #[] #[])], [.box 76 [.d (dsl false false kU8 rest), .d (.val (.int .i64 e))]], slV false false kU8 (rest.take n.toNat), [.live (.box 76 [.d (dsl false false kU8 (rest.drop n.toNat)), .d (.val (.int .i64 0))])]⟩ := by
  refine Holds.of Try.func89 rfl (N := 54) Try.ntmps89 rfl fun w0 B0 S0 U0 => ?_
  show T _ (mkBase 54 1 w0 S0 U0 B0) ⟨[pv 0 0, dv (.int .i64 n), dv (.func (.func 94) #[] #[])], [.live (.box 76 [.d (dsl false false kU8 rest), .d (.val (.int .i64 e))])]⟩ _ _
  have htl : (rest.take n.toNat).length ≤ n.toNat := List.length_take_le _ _
  obtain ⟨hc1, hc2, hc3⟩ := hc
  have htm : (rest.take n.toNat).length = n.toNat := by rw [List.length_take]; omega
  refine T.seq ?_
  refine xR [] (by kernel_rfl) (by kernel_rfl) ?_
  refine nT ?_
  refine T.seq ?_
  refine T.seq ?_
  refine xR [hY 3 (b := false) (w := false) rfl,
    hY 4 (b := false) (w := false) rfl,
    hY 5 (b := false) (w := false) rfl,
    hY 6 (b := false) (w := false) rfl,
    hY 7 (b := false) (w := false) rfl,
    hP 8 (b := false) (w := false) rfl] (by kernel_rfl) (by kernel_rfl) ?_
  refine nT ?_
  by_cases hq1 : e ≠ 0
  · exact absurd hc1 hq1
  · refine T.condF (by kernel_rfl) (decide_eq_false hq1) ?_
    refine T.skip ?_
    refine nT ?_
    refine T.seq ?_
    refine T.seq ?_
    refine xR [] (by kernel_rfl) (by kernel_rfl) ?_
    refine nT ?_
    by_cases hq2 : n > ((rest.length : Nat) : Int)
    · exact absurd hc2 (by omega)
    · refine T.condF (by kernel_rfl) (decide_eq_false hq2) ?_
      refine T.skip ?_
      refine nT ?_
      refine T.seq ?_
      refine xR [hR 5 rfl rfl (q_slice false false kU8 rest (rest.take (n).toNat) 0 (n).toNat (lo := none) (hi := some (.tmp 31, n)) Try.underlying47 iat_5 rfl rfl rfl rfl (by omega) (by first | assumption | omega | (unfold maxLen; omega) | (simp [maxLen, -List.getD_eq_getElem?_getD] <;> omega) | decide) (by first | assumption | omega | (unfold maxLen; omega) | (simp [maxLen, -List.getD_eq_getElem?_getD] <;> omega) | decide) rfl (lt_of rfl) trivial)] (by kernel_rfl) (by kernel_rfl) ?_
      refine nT ?_
      refine T.seq ?_
      refine T.seq ?_
      refine xR [hR 3 rfl rfl (r_callV (fs := #[]) (cs := #[]) (wire_float false false (rest.take (n).toNat) (by first | assumption | omega | (unfold maxLen; omega) | (simp [maxLen, -List.getD_eq_getElem?_getD] <;> omega) | decide)) Try.func94 rfl (by decide) [] [] (l := [(.tmp 35, slV false false kU8 (rest.take (n).toNat))]) [] rfl 0 0 rfl rfl rfl rfl rfl rfl rfl rfl rfl rfl rfl ⟨.inl ⟨rfl, rfl⟩, trivial⟩ rfl (fun b hb => by cases hb) (.inl rfl) (lt_of rfl) trivial)] (by kernel_rfl) (by kernel_rfl) ?_
      refine nT ?_
      refine T.seq ?_
      refine xR [] (by kernel_rfl) (by kernel_rfl) ?_
      refine nT ?_
      by_cases hq3 : (floatE (rest.take (n).toNat)) ≠ 0
      · exact absurd hc3 hq3
      · refine T.condF (by kernel_rfl) (decide_eq_false hq3) ?_
        refine T.skip ?_
        refine nT ?_
        refine T.seq ?_
        refine xR [hR 6 rfl rfl (q_slice false false kU8 rest (rest.drop (n).toNat) (n).toNat rest.length (lo := some (.tmp 49, n)) (hi := none) Try.underlying47 iat_5 rfl rfl rfl (by omega) rfl (by first | assumption | omega | (unfold maxLen; omega) | (simp [maxLen, -List.getD_eq_getElem?_getD] <;> omega) | decide) (by first | assumption | omega | (unfold maxLen; omega) | (simp [maxLen, -List.getD_eq_getElem?_getD] <;> omega) | decide) (by rw [List.take_length]) (lt_of rfl) trivial)] (by kernel_rfl) (by kernel_rfl) ?_
        refine nT ?_
        refine T.seq ?_
        refine xR [] (by kernel_rfl) (by kernel_rfl) ?_
        refine nT ?_
        refine T.ret ?_
        exact tE (.inl rfl) [.t 6 (.one (.d (dsl false false kU8 (rest.take (n).toNat))))] ⟨⟨rfl, by kernel_rfl⟩, trivial⟩ [0] (by have e1 : ((rest.take n.toNat) : List UInt8) = (rest.take (n).toNat) := (by first | rfl | exact hc3 | exact hc3.symm); have hE := congrArg (fun (q1 : List UInt8) => (slV false false kU8 q1 : AV)) e1; exact hE) rfl rfl rfl rfl rfl ⟨⟨rfl, (by have e1 : ((rest.drop (n).toNat) : List UInt8) = (rest.drop n.toNat) := (by first | rfl | exact hc3 | exact hc3.symm); have e2 : (floatE (rest.take (n).toNat) : Int) = 0 := (by first | rfl | exact hc3 | exact hc3.symm); have hE := congr (congrArg (fun (q1 : List UInt8) (q2 : Int) => (.live (.box 76 [.d (dsl false false kU8 q1), .d (.val (.int .i64 q2))]) : HS)) e1) e2; exact Eq.trans (by kernel_rfl) hE)⟩, trivial⟩
end Go.Proofs.Ytlabmehgcfgigaa.Q
namespace Go.Proofs.Ytlabmehgcfgigaa.Q
open Go Go.RowKit
set_option linter.unusedVariables false
set_option linter.unusedSimpArgs false
set_option maxRecDepth 100000
set_option maxHeartbeats 4000000
-- (*quaestor/wire.Reader).take
theorem take_float_no (rest : List UInt8) (e : Int) (n : Int) (hr : rest.length ≤ 140737488355328) (hn : n = 8) (hc : ¬ okT rest e n (floatE (rest.take n.toNat))) : Holds Try.prog 89 ⟨[pv 0 0, dv (.int .i64 n), dv (.func (.func 94) #[] #[])], [.box 76 [.d (dsl false false kU8 rest), .d (.val (.int .i64 e))]], dv (.slice none 0 0), [.live (.box 76 [.d (dsl false false kU8 rest), .d (.val (.int .i64 (rdE rest e n (floatE (rest.take n.toNat)))))])]⟩ := by
  refine Holds.of Try.func89 rfl (N := 54) Try.ntmps89 rfl fun w0 B0 S0 U0 => ?_
  show T _ (mkBase 54 1 w0 S0 U0 B0) ⟨[pv 0 0, dv (.int .i64 n), dv (.func (.func 94) #[] #[])], [.live (.box 76 [.d (dsl false false kU8 rest), .d (.val (.int .i64 e))])]⟩ _ _
  have htl : (rest.take n.toNat).length ≤ n.toNat := List.length_take_le _ _
  refine T.seq ?_
  refine xR [] (by kernel_rfl) (by kernel_rfl) ?_
  refine nT ?_
  refine T.seq ?_
  refine T.seq ?_
  refine xR [hY 3 (b := false) (w := false) rfl,
    hY 4 (b := false) (w := false) rfl,
    hY 5 (b := false) (w := false) rfl,
    hY 6 (b := false) (w := false) rfl,
    hY 7 (b := false) (w := false) rfl,
    hP 8 (b := false) (w := false) rfl] (by kernel_rfl) (by kernel_rfl) ?_
  refine nT ?_
  by_cases hq1 : e ≠ 0
  · refine T.condT (by kernel_rfl) (decide_eq_true hq1) ?_
    refine T.seq ?_
    refine xR [] (by kernel_rfl) (by kernel_rfl) ?_
    refine nT ?_
    refine T.ret ?_
    refine rT ?_
    exact tE (.inl rfl) [.t 6 (.one (.d (.val (.slice none 0 0))))] ⟨⟨rfl, by kernel_rfl⟩, trivial⟩ [0] rfl rfl rfl rfl rfl rfl ⟨⟨rfl, (by have e1 : (e : Int) = (rdE rest e n (floatE (rest.take n.toNat))) := (by first | rfl | (simp only [rdE]; first | rw [if_pos (by assumption)] | (rw [if_neg (by assumption)]; first | rw [if_pos (by assumption)] | rw [if_neg (by assumption)]))); have hE := congrArg (fun (q1 : Int) => (.live (.box 76 [.d (dsl false false kU8 rest), .d (.val (.int .i64 q1))]) : HS)) e1; exact Eq.trans (by kernel_rfl) hE)⟩, trivial⟩
  · refine T.condF (by kernel_rfl) (decide_eq_false hq1) ?_
    refine T.skip ?_
    refine nT ?_
    refine T.seq ?_
    refine T.seq ?_
    refine xR [] (by kernel_rfl) (by kernel_rfl) ?_
    refine nT ?_
    by_cases hq2 : n > ((rest.length : Nat) : Int)
    · refine T.condT (by kernel_rfl) (decide_eq_true hq2) ?_
      refine T.seq ?_
      refine xR [] (by kernel_rfl) (by kernel_rfl) ?_
      refine nT ?_
      refine T.seq ?_
      refine xR [] (by kernel_rfl) (by kernel_rfl) ?_
      refine nT ?_
      refine T.ret ?_
      refine rT ?_
      exact tE (.inl rfl) [.t 6 (.one (.d (.val (.slice none 0 0))))] ⟨⟨rfl, by kernel_rfl⟩, trivial⟩ [0] rfl rfl rfl rfl rfl rfl ⟨⟨rfl, (by have e1 : (10 : Int) = (rdE rest e n (floatE (rest.take n.toNat))) := (by first | rfl | (simp only [rdE]; first | rw [if_pos (by assumption)] | (rw [if_neg (by assumption)]; first | rw [if_pos (by assumption)] | rw [if_neg (by assumption)]))); have hE := congrArg (fun (q1 : Int) => (.live (.box 76 [.d (dsl false false kU8 rest), .d (.val (.int .i64 q1))]) : HS)) e1; exact Eq.trans (by kernel_rfl) hE)⟩, trivial⟩
    · refine T.condF (by kernel_rfl) (decide_eq_false hq2) ?_
      refine T.skip ?_
      refine nT ?_
      refine T.seq ?_
      refine xR [hR 5 rfl rfl (q_slice false false kU8 rest (rest.take (n).toNat) 0 (n).toNat (lo := none) (hi := some (.tmp 31, n)) Try.underlying47 iat_5 rfl rfl rfl rfl (by omega) (by first | assumption | omega | (unfold maxLen; omega) | (simp [maxLen, -List.getD_eq_getElem?_getD] <;> omega) | decide) (by first | assumption | omega | (unfold maxLen; omega) | (simp [maxLen, -List.getD_eq_getElem?_getD] <;> omega) | decide) rfl (lt_of rfl) trivial)] (by kernel_rfl) (by kernel_rfl) ?_
      refine nT ?_
      refine T.seq ?_
      refine T.seq ?_
      refine xR [hR 3 rfl rfl (r_callV (fs := #[]) (cs := #[]) (wire_float false false (rest.take (n).toNat) (by first | assumption | omega | (unfold maxLen; omega) | (simp [maxLen, -List.getD_eq_getElem?_getD] <;> omega) | decide)) Try.func94 rfl (by decide) [] [] (l := [(.tmp 35, slV false false kU8 (rest.take (n).toNat))]) [] rfl 0 0 rfl rfl rfl rfl rfl rfl rfl rfl rfl rfl rfl ⟨.inl ⟨rfl, rfl⟩, trivial⟩ rfl (fun b hb => by cases hb) (.inl rfl) (lt_of rfl) trivial)] (by kernel_rfl) (by kernel_rfl) ?_
      refine nT ?_
      refine T.seq ?_
      refine xR [] (by kernel_rfl) (by kernel_rfl) ?_
      refine nT ?_
      by_cases hq3 : (floatE (rest.take (n).toNat)) ≠ 0
      · refine T.condT (by kernel_rfl) (decide_eq_true hq3) ?_
        refine T.seq ?_
        refine xR [] (by kernel_rfl) (by kernel_rfl) ?_
        refine nT ?_
        refine T.ret ?_
        refine rT ?_
        exact tE (.inl rfl) [.t 6 (.one (.d (.val (.slice none 0 0))))] ⟨⟨rfl, by kernel_rfl⟩, trivial⟩ [0] rfl rfl rfl rfl rfl rfl ⟨⟨rfl, (by have e1 : (floatE (rest.take (n).toNat) : Int) = (rdE rest e n (floatE (rest.take n.toNat))) := (by first | rfl | (simp only [rdE]; first | rw [if_pos (by assumption)] | (rw [if_neg (by assumption)]; first | rw [if_pos (by assumption)] | rw [if_neg (by assumption)]))); have hE := congrArg (fun (q1 : Int) => (.live (.box 76 [.d (dsl false false kU8 rest), .d (.val (.int .i64 q1))]) : HS)) e1; exact Eq.trans (by kernel_rfl) hE)⟩, trivial⟩
      · exact absurd ⟨by omega, by omega, Classical.not_not.1 hq3⟩ hc
end Go.Proofs.Ytlabmehgcfgigaa.Q
