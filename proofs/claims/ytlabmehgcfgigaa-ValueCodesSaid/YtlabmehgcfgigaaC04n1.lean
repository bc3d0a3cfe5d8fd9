import Derived.Test.YtlabmehgcfgigaaC04n0
namespace Go.Proofs.Ytlabmehgcfgigaa.Q
open Go Go.RowKit
set_option linter.unusedVariables false
set_option linter.unusedSimpArgs false
set_option maxRecDepth 100000
set_option maxHeartbeats 4000000
-- quaestor/wire.PutNum
theorem wire_PutNum (tb : Bool) (nb : Bool) (b : List UInt8) (x : Nat) (hb : b.length ≤ 140737488355000) (hx : x < 18446744073709551616) : Holds Try.prog 75 ⟨[slV tb nb kU8 b, dv (.float .f64 x)], [], ownV 0 kU8 0 (b ++ numB x).length, [.live (arrK 5 kU8 (b ++ numB x))]⟩ := by
  refine Holds.of Try.func75 rfl (N := 13) Try.ntmps75 rfl fun w0 B0 S0 U0 => ?_
  show T _ (mkBase 13 0 w0 S0 U0 B0) ⟨[slV tb nb kU8 b, dv (.float .f64 x)], []⟩ _ _
  refine T.seq ?_
  refine xR [] (by kernel_rfl) (by kernel_rfl) ?_
  refine nT ?_
  refine T.seq ?_
  refine xR [hR 1 rfl rfl (r_ext1 (u := .float .f64 x) (v := .int .u64 ((x : Nat) : Int)) (e := Extern.MathFloatBits.float64bits) Try.func84 (by kernel_rfl) (by kernel_rfl) (by kernel_rfl) (by kernel_rfl) (fun w => rfl) (lt_of rfl) trivial)] (by kernel_rfl) (by kernel_rfl) ?_
  refine nT ?_
  refine T.seq ?_
  refine T.seq ?_
  refine xR [hR 1 rfl rfl (r_call (math_IsNaN x ) Try.func83 rfl (by decide) [] [] (l := [(.tmp 8, dv (.float .f64 x))]) [] rfl 0 0 rfl rfl rfl rfl rfl rfl rfl rfl rfl ⟨.inl ⟨rfl, rfl⟩, trivial⟩ rfl (fun b hb => by cases hb) (.inl rfl) (lt_of rfl) trivial)] (by kernel_rfl) (by kernel_rfl) ?_
  refine nT ?_
  by_cases hq1 : (nanB x) = true
  · refine T.condT (by kernel_rfl) hq1 ?_
    refine xR [] (by kernel_rfl) (by kernel_rfl) ?_
    refine nT ?_
    refine T.seq ?_
    refine xR [hR 2 rfl rfl (r_call (wire_spell tb nb b 9221120237041090561 7 (by assumption) (by omega) (by omega)) Try.func97 rfl (by decide) [0] [] (l := [(.tmp 10, slV tb nb kU8 b), (.tmp 11, dv (.int .u64 9221120237041090561)), (.const (.int .i64 8), dv (.int .i64 8))]) [] rfl 0 1 rfl rfl rfl rfl rfl rfl rfl rfl rfl ⟨.inl ⟨rfl, rfl⟩, ⟨.inl ⟨rfl, rfl⟩, ⟨.inl ⟨rfl, rfl⟩, trivial⟩⟩⟩ rfl (fun b hb => by cases hb) (.inl rfl) (lt_of rfl) ⟨rfl, trivial⟩)] (by kernel_rfl) (by kernel_rfl) ?_
    refine nT ?_
    refine T.ret ?_
    exact tE (.inl rfl) [.t 4 (.one (.own 0 kU8.sz 0 (b ++ (spellB 9221120237041090561 8)).length))] ⟨⟨rfl, by kernel_rfl⟩, trivial⟩ [0] (by have e1 : ((b ++ numB x).length : Nat) = (b ++ (spellB 9221120237041090561 8)).length := (by (simp [numB, bitsF, *]; done)); have hE := congrArg (fun (q1 : Nat) => (ownV 0 kU8 0 q1 : AV)) e1; exact hE) rfl rfl rfl rfl rfl ⟨⟨rfl, (by have e1 : (b ++ (spellB 9221120237041090561 8) : List UInt8) = b ++ numB x := (by (simp [numB, bitsF, *]; done)); have hE := congrArg (fun (q1 : List UInt8) => (.live (arrK 5 kU8 q1) : HS)) e1; exact Eq.trans (by kernel_rfl) hE)⟩, trivial⟩
  · replace hq1 := Bool.eq_false_iff.2 hq1
    refine T.condF (by kernel_rfl) hq1 ?_
    refine T.skip ?_
    refine nT ?_
    refine T.seq ?_
    refine xR [hR 2 rfl rfl (r_call (wire_spell tb nb b x 7 (by assumption) (by assumption) (by omega)) Try.func97 rfl (by decide) [0] [] (l := [(.tmp 10, slV tb nb kU8 b), (.tmp 11, dv (.int .u64 ((x : Nat) : Int))), (.const (.int .i64 8), dv (.int .i64 8))]) [] rfl 0 1 rfl rfl rfl rfl rfl rfl rfl rfl rfl ⟨.inl ⟨rfl, rfl⟩, ⟨.inl ⟨rfl, rfl⟩, ⟨.inl ⟨rfl, rfl⟩, trivial⟩⟩⟩ rfl (fun b hb => by cases hb) (.inl rfl) (lt_of rfl) ⟨rfl, trivial⟩)] (by kernel_rfl) (by kernel_rfl) ?_
    refine nT ?_
    refine T.ret ?_
    exact tE (.inl rfl) [.t 4 (.one (.own 0 kU8.sz 0 (b ++ (spellB x 8)).length))] ⟨⟨rfl, by kernel_rfl⟩, trivial⟩ [0] (by have e1 : ((b ++ numB x).length : Nat) = (b ++ (spellB x 8)).length := (by (simp [numB, bitsF, *]; done)); have hE := congrArg (fun (q1 : Nat) => (ownV 0 kU8 0 q1 : AV)) e1; exact hE) rfl rfl rfl rfl rfl ⟨⟨rfl, (by have e1 : (b ++ (spellB x 8) : List UInt8) = b ++ numB x := (by (simp [numB, bitsF, *]; done)); have hE := congrArg (fun (q1 : List UInt8) => (.live (arrK 5 kU8 q1) : HS)) e1; exact Eq.trans (by kernel_rfl) hE)⟩, trivial⟩
end Go.Proofs.Ytlabmehgcfgigaa.Q
namespace Go.Proofs.Ytlabmehgcfgigaa.Q
open Go Go.RowKit
set_option linter.unusedVariables false
set_option linter.unusedSimpArgs false
set_option maxRecDepth 100000
set_option maxHeartbeats 4000000
-- quaestor/quaestorref01.bits
theorem ref01_bits (tb : Bool) (nb : Bool) (b : List UInt8) (n : Nat) (m : Nat) (hb : b.length ≤ 140737488355000) (hn : n < 18446744073709551616) (hm : m ≤ 8) : Holds Try.prog 100 ⟨[slV tb nb kU8 b, dv (.int .u64 ((n : Nat) : Int)), dv (.int .i64 ((m : Nat) : Int))], [], ownV 0 kU8 0 (b ++ (spellB n m)).length, [.live (arrK 5 kU8 (b ++ (spellB n m)))]⟩ := by
  refine Holds.of Try.func100 rfl (N := 27) Try.ntmps100 rfl fun w0 B0 S0 U0 => ?_
  show T _ (mkBase 27 0 w0 S0 U0 B0) ⟨[slV tb nb kU8 b, dv (.int .u64 ((n : Nat) : Int)), dv (.int .i64 ((m : Nat) : Int))], []⟩ _ _
  refine T.seq ?_
  refine xR [] (by kernel_rfl) (by kernel_rfl) ?_
  refine nT ?_
  refine T.seq ?_
  refine xR [hR 0 rfl rfl (q_buildSlice 0 5 kU8 kU8_ok ([] : List UInt8) [] (cs := []) Try.underlying47 iat_5 rfl zero_5 rfl rfl rfl (Nat.le_of_ble_eq_true rfl) part_ok (by kernel_rfl) (wk_eq (by kernel_rfl)) (lt_of rfl) trivial),
    hR 2 rfl rfl (q_appendO 0 1 5 1 kU8 kU8_ok ([] : List UInt8) b b ([] : List UInt8).length (sy := (.d (dsl tb nb kU8 b))) (rhs := []) elem_47 (by omega) (src_sl tb nb kU8 b) (by simp) (by (simp [maxLen, -List.getD_eq_getElem?_getD] <;> omega)) (by (simp [maxLen, -List.getD_eq_getElem?_getD] <;> omega)) (lt_of rfl) trivial)] (by kernel_rfl) (by kernel_rfl) ?_
  refine nT ?_
  refine T.seq ?_
  refine T.seq ?_
  refine xR [hR 1 rfl rfl (r_bin (u1 := .int .i64 ((m : Nat) : Int)) (u2 := .int .i64 1) (v := .int .i64 (((m : Nat) : Int) - 1)) (b_sub (by rw [IntKind.wrap_i64]; omega)) (lt_of rfl) ⟨rfl, trivial⟩)] (by kernel_rfl) (by kernel_rfl) ?_
  refine nT ?_
  refine T.block ?_
  refine T.loop (ι := Nat × (List UInt8)) (fun (x_ : Nat × (List UInt8)) => ⟨[slV tb nb kU8 b, dv (.int .u64 ((n : Nat) : Int)), dv (.int .i64 ((m : Nat) : Int)), aa, aa, aa, dv (.slice none 0 0), ownV 1 kU8 0 x_.2.length, dv (.int .i64 (((x_.1 : Nat) : Int) - 1))], [.dead, .live (arrK 5 kU8 x_.2)]⟩) (fun (x_ : Nat × (List UInt8)) => (x_.1 ≤ m) ∧ (x_.2 ++ spellB n x_.1 = b ++ spellB n m)) (fun (x_ : Nat × (List UInt8)) => x_.1) (m, b) ⟨(Nat.le_refl _), rfl⟩ (fun _ _ hG => Gs.into2 (s' := ⟨[slV tb nb kU8 b, dv (.int .u64 ((n : Nat) : Int)), dv (.int .i64 ((m : Nat) : Int)), aa, aa, aa, dv (.slice none 0 0), ownV 1 kU8 0 b.length, dv (.int .i64 (((m : Nat) : Int) - 1))], [.dead, .live (arrK 5 kU8 b)]⟩) [3, 1] (bm 9 455) (t1 := [slV tb nb kU8 b, dv (.int .u64 ((n : Nat) : Int)), dv (.int .i64 ((m : Nat) : Int)), aa, aa, aa, dv (.slice none 0 0), ownV 1 kU8 0 b.length, dv (.int .i64 (((m : Nat) : Int) - 1))]) (h1 := [.dead, .live (arrK 5 kU8 b)]) rfl rfl (by kernel_rfl) (by kernel_rfl) (by kernel_rfl) (by kernel_rfl) (by kernel_rfl) (by kernel_rfl) (by kernel_rfl) (by kernel_rfl) (by kernel_rfl) (by kernel_rfl) (by kernel_rfl) hG) ?_
  rintro ⟨j, acc⟩ ⟨hj, he⟩
  show T _ _ ⟨[slV tb nb kU8 b, dv (.int .u64 ((n : Nat) : Int)), dv (.int .i64 ((m : Nat) : Int)), aa, aa, aa, dv (.slice none 0 0), ownV 1 kU8 0 acc.length, dv (.int .i64 (((j : Nat) : Int) - 1))], [.dead, .live (arrK 5 kU8 acc)]⟩ _ _
  replace hj : j ≤ m := hj
  replace he : acc ++ spellB n j = b ++ spellB n m := he
  have hacc := spell_lenE he
  refine T.seq ?_
  refine T.seq ?_
  refine xR [] (by kernel_rfl) (by kernel_rfl) ?_
  refine nT ?_
  by_cases hq1 : (((j : Nat) : Int) - 1) ≥ 0
  · refine T.condT (by kernel_rfl) (decide_eq_true hq1) ?_
    refine T.skip ?_
    refine nT ?_
    refine T.seq ?_
    refine T.block ?_
    refine xR [hR 3 rfl rfl (r_bin (u1 := .int .i64 8) (u2 := .int .i64 (((j : Nat) : Int) - 1)) (v := .int .i64 (8 * (((j : Nat) : Int) - 1))) (b_mul (by rw [IntKind.wrap_i64]; omega)) (lt_of rfl) ⟨rfl, trivial⟩),
      hR 4 rfl rfl (r_bin (u1 := .int .u64 ((n : Nat) : Int)) (u2 := .int .i64 (8 * (((j : Nat) : Int) - 1))) (v := .int .u64 ((n / 2 ^ (8 * (((j : Nat) : Int) - 1)).toNat : Nat) : Int)) (b_shrN (n := (8 * (((j : Nat) : Int) - 1)).toNat) (by omega) (Nat.le_trans (by omega) (by decide : 64 ≤ _))) (lt_of rfl) trivial),
      hR 5 rfl rfl (r_conv (u := .int .u64 ((n / 2 ^ (8 * (((j : Nat) : Int) - 1)).toNat : Nat) : Int)) (v := .int .u8 (((UInt8.ofNat (n / 2 ^ (8 * (((j : Nat) : Int) - 1)).toNat)).toNat : Nat) : Int)) (c_byte Try.underlying64 Try.underlying5) (lt_of rfl) trivial),
      hR 6 rfl rfl (q_buildSlice 2 5 kU8 kU8_ok [(UInt8.ofNat (n / 2 ^ (8 * (((j : Nat) : Int) - 1)).toNat))] [⟨0, .tmp 23, .one (.d (.val (.int .u8 (((UInt8.ofNat (n / 2 ^ (8 * (((j : Nat) : Int) - 1)).toNat)).toNat : Nat) : Int)))), 0⟩] (cs := [.d (.val (.int .u8 (((UInt8.ofNat (n / 2 ^ (8 * (((j : Nat) : Int) - 1)).toNat)).toNat : Nat) : Int)))]) Try.underlying47 iat_5 rfl zero_5 rfl rfl rfl (Nat.le_of_ble_eq_true rfl) (part_cons rfl rfl (Nat.le_of_ble_eq_true rfl) part_ok) (by kernel_rfl) (wk_eq (by kernel_rfl)) (lt_of rfl) trivial),
      hR 7 rfl rfl (q_appendO 1 3 5 1 kU8 kU8_ok acc [(UInt8.ofNat (n / 2 ^ (8 * (((j : Nat) : Int) - 1)).toNat))] (acc ++ [(UInt8.ofNat (n / 2 ^ (8 * (((j : Nat) : Int) - 1)).toNat))]) acc.length (sy := (.own 2 kU8.sz 0 [(UInt8.ofNat (n / 2 ^ (8 * (((j : Nat) : Int) - 1)).toNat))].length)) (rhs := [(2, .live (arrK 5 kU8 [(UInt8.ofNat (n / 2 ^ (8 * (((j : Nat) : Int) - 1)).toNat))]))]) elem_47 (by omega) (src_own 2 5 kU8 [(UInt8.ofNat (n / 2 ^ (8 * (((j : Nat) : Int) - 1)).toNat))]) (by rw [List.take_length]) (by (simp [maxLen, -List.getD_eq_getElem?_getD] <;> omega)) (by (simp [maxLen, -List.getD_eq_getElem?_getD] <;> omega)) (lt_of rfl) trivial)] (by kernel_rfl) (by kernel_rfl) ?_
    refine nB ?_
    refine nT ?_
    refine xR [hR 1 rfl rfl (r_bin (u1 := .int .i64 (((j : Nat) : Int) - 1)) (u2 := .int .i64 1) (v := .int .i64 ((((j : Nat) : Int) - 1) - 1)) (b_sub (by rw [IntKind.wrap_i64]; omega)) (lt_of rfl) ⟨rfl, trivial⟩)] (by kernel_rfl) (by kernel_rfl) ?_
    refine nL (j - 1, acc ++ [UInt8.ofNat (n / 2 ^ (8 * (((j : Nat) : Int) - 1)).toNat)]) ⟨(show (j - 1) ≤ m from (by omega)), (show (acc ++ [UInt8.ofNat (n / 2 ^ (8 * (((j : Nat) : Int) - 1)).toNat)]) ++ spellB n (j - 1) = b ++ spellB n m from (spell_stepI he (by omega)))⟩ (show ((j - 1) : Nat) < j from (by omega)) (fun _ _ hG => Gs.into2 (s' := ⟨[slV tb nb kU8 b, dv (.int .u64 ((n : Nat) : Int)), dv (.int .i64 ((m : Nat) : Int)), aa, aa, aa, dv (.slice none 0 0), ownV 1 kU8 0 (acc ++ [UInt8.ofNat (n / 2 ^ (8 * (((j : Nat) : Int) - 1)).toNat)]).length, dv (.int .i64 (((j - 1 : Nat) : Int) - 1))], [.dead, .live (arrK 5 kU8 (acc ++ [UInt8.ofNat (n / 2 ^ (8 * (((j : Nat) : Int) - 1)).toNat)]))]⟩) [5, 3] (bm 9 455) (t1 := [slV tb nb kU8 b, dv (.int .u64 ((n : Nat) : Int)), dv (.int .i64 ((m : Nat) : Int)), aa, aa, aa, dv (.slice none 0 0), ownV 3 kU8 0 (acc ++ [UInt8.ofNat (n / 2 ^ (8 * (((j : Nat) : Int) - 1)).toNat)]).length, dv (.int .i64 (((j - 1 : Nat) : Int) - 1))]) (t2 := [slV tb nb kU8 b, dv (.int .u64 ((n : Nat) : Int)), dv (.int .i64 ((m : Nat) : Int)), aa, aa, aa, dv (.slice none 0 0), ownV 3 kU8 0 (acc ++ [(UInt8.ofNat (n / 2 ^ (8 * (((j : Nat) : Int) - 1)).toNat))]).length, dv (.int .i64 ((((j : Nat) : Int) - 1) - 1))]) (h1 := [.dead, .live (arrK 5 kU8 (acc ++ [UInt8.ofNat (n / 2 ^ (8 * (((j : Nat) : Int) - 1)).toNat)]))]) (h2 := [.dead, .live (arrK 5 kU8 (acc ++ [(UInt8.ofNat (n / 2 ^ (8 * (((j : Nat) : Int) - 1)).toNat))]))]) (by have e1 : ((acc ++ [UInt8.ofNat (n / 2 ^ (8 * (((j : Nat) : Int) - 1)).toNat)]).length : Nat) = (acc ++ [(UInt8.ofNat (n / 2 ^ (8 * (((j : Nat) : Int) - 1)).toNat))]).length := (by rfl); have e2 : (((j - 1 : Nat) : Int) - 1 : Int) = (((j : Nat) : Int) - 1) - 1 := (by omega); have hE := congr (congrArg (fun (q1 : Nat) (q2 : Int) => ([slV tb nb kU8 b, dv (.int .u64 ((n : Nat) : Int)), dv (.int .i64 ((m : Nat) : Int)), aa, aa, aa, dv (.slice none 0 0), ownV 3 kU8 0 q1, dv (.int .i64 q2)] : List AV)) e1) e2; exact hE) (by have e1 : (acc ++ [UInt8.ofNat (n / 2 ^ (8 * (((j : Nat) : Int) - 1)).toNat)] : List UInt8) = acc ++ [(UInt8.ofNat (n / 2 ^ (8 * (((j : Nat) : Int) - 1)).toNat))] := (by rfl); have hE := congrArg (fun (q1 : List UInt8) => ([.dead, .live (arrK 5 kU8 q1)] : List HS)) e1; exact hE) (by kernel_rfl) (by kernel_rfl) (by kernel_rfl) (by kernel_rfl) (by kernel_rfl) (by kernel_rfl) (by kernel_rfl) (by kernel_rfl) (by kernel_rfl) (by kernel_rfl) (by kernel_rfl) hG)
  · refine T.condF (by kernel_rfl) (decide_eq_false hq1) ?_
    refine T.exit ?_
    refine xT ?_
    refine xT ?_
    refine xH ?_
    refine nT ?_
    refine T.seq ?_
    refine xR [] (by kernel_rfl) (by kernel_rfl) ?_
    refine nT ?_
    refine T.ret ?_
    exact tE (.inl rfl) [.t 6 (.one (.own 1 kU8.sz 0 acc.length))] ⟨⟨rfl, by kernel_rfl⟩, trivial⟩ [1] (by have e1 : ((b ++ (spellB n m)).length : Nat) = acc.length := (by (rw [spell_end he (by omega)])); have hE := congrArg (fun (q1 : Nat) => (ownV 1 kU8 0 q1 : AV)) e1; exact hE) rfl rfl rfl rfl rfl ⟨⟨rfl, (by have e1 : (acc : List UInt8) = b ++ (spellB n m) := (by (rw [spell_end he (by omega)])); have hE := congrArg (fun (q1 : List UInt8) => (.live (arrK 5 kU8 q1) : HS)) e1; exact Eq.trans (by kernel_rfl) hE)⟩, trivial⟩
end Go.Proofs.Ytlabmehgcfgigaa.Q
namespace Go.Proofs.Ytlabmehgcfgigaa.Q
open Go Go.RowKit
set_option linter.unusedVariables false
set_option linter.unusedSimpArgs false
set_option maxRecDepth 100000
set_option maxHeartbeats 4000000
-- quaestor/quaestorref01.Int
theorem ref01_Int (tb : Bool) (nb : Bool) (b : List UInt8) (n : Int) (hb : b.length ≤ 140737488355000) : Holds Try.prog 76 ⟨[slV tb nb kU8 b, dv (.int .i64 n)], [], ownV 0 kU8 0 (b ++ intB n).length, [.live (arrK 5 kU8 (b ++ intB n))]⟩ := by
  refine Holds.of Try.func76 rfl (N := 9) Try.ntmps76 rfl fun w0 B0 S0 U0 => ?_
  show T _ (mkBase 9 0 w0 S0 U0 B0) ⟨[slV tb nb kU8 b, dv (.int .i64 n)], []⟩ _ _
  have hn := u64_lt n
  refine T.seq ?_
  refine xR [] (by kernel_rfl) (by kernel_rfl) ?_
  refine nT ?_
  refine T.seq ?_
  refine xR [hR 2 rfl rfl (r_conv (u := .int .i64 n) (v := .int .u64 ((u64 n : Nat) : Int)) (c_u64 Try.underlying2 Try.underlying64) (lt_of rfl) trivial),
    hR 3 rfl rfl (r_call (ref01_bits tb nb b (u64 n) 8 (by assumption) (by assumption) (by omega)) Try.func100 rfl (by decide) [0] [] (l := [(.tmp 5, slV tb nb kU8 b), (.tmp 7, dv (.int .u64 ((u64 n : Nat) : Int))), (.const (.int .i64 8), dv (.int .i64 8))]) [] rfl 0 1 rfl rfl rfl rfl rfl rfl rfl rfl rfl ⟨.inl ⟨rfl, rfl⟩, ⟨.inl ⟨rfl, rfl⟩, ⟨.inl ⟨rfl, rfl⟩, trivial⟩⟩⟩ rfl (fun b hb => by cases hb) (.inl rfl) (lt_of rfl) ⟨rfl, trivial⟩)] (by kernel_rfl) (by kernel_rfl) ?_
  refine nT ?_
  refine T.ret ?_
  exact tE (.inl rfl) [.t 4 (.one (.own 0 kU8.sz 0 (b ++ (spellB (u64 n) 8)).length))] ⟨⟨rfl, by kernel_rfl⟩, trivial⟩ [0] (by have e1 : ((b ++ intB n).length : Nat) = (b ++ (spellB (u64 n) 8)).length := (by rfl); have hE := congrArg (fun (q1 : Nat) => (ownV 0 kU8 0 q1 : AV)) e1; exact hE) rfl rfl rfl rfl rfl ⟨⟨rfl, (by have e1 : (b ++ (spellB (u64 n) 8) : List UInt8) = b ++ intB n := (by rfl); have hE := congrArg (fun (q1 : List UInt8) => (.live (arrK 5 kU8 q1) : HS)) e1; exact Eq.trans (by kernel_rfl) hE)⟩, trivial⟩
end Go.Proofs.Ytlabmehgcfgigaa.Q
namespace Go.Proofs.Ytlabmehgcfgigaa.Q
open Go Go.RowKit
set_option linter.unusedVariables false
set_option linter.unusedSimpArgs false
set_option maxRecDepth 100000
set_option maxHeartbeats 4000000
-- quaestor/quaestorref01.Bool
theorem ref01_Bool (tb : Bool) (nb : Bool) (b : List UInt8) (x : Bool) (hb : b.length ≤ 140737488355000) : Holds Try.prog 77 ⟨[slV tb nb kU8 b, dv (.bool x)], [], ownV 0 kU8 0 (b ++ boolB x).length, [.live (arrK 5 kU8 (b ++ boolB x))]⟩ := by
  refine Holds.of Try.func77 rfl (N := 10) Try.ntmps77 rfl fun w0 B0 S0 U0 => ?_
  show T _ (mkBase 10 0 w0 S0 U0 B0) ⟨[slV tb nb kU8 b, dv (.bool x)], []⟩ _ _
  refine T.seq ?_
  refine xR [] (by kernel_rfl) (by kernel_rfl) ?_
  refine nT ?_
  refine T.seq ?_
  refine T.seq ?_
  refine xR [] (by kernel_rfl) (by kernel_rfl) ?_
  refine nT ?_
  by_cases hq1 : x = true
  · refine T.condT (by kernel_rfl) hq1 ?_
    refine T.seq ?_
    refine xR [hR 1 rfl rfl (r_call (ref01_bits tb nb b 1 1 (by assumption) (by omega) (by omega)) Try.func100 rfl (by decide) [0] [] (l := [(.tmp 6, slV tb nb kU8 b), (.const (.int .u64 1), dv (.int .u64 1)), (.const (.int .i64 1), dv (.int .i64 1))]) [] rfl 0 1 rfl rfl rfl rfl rfl rfl rfl rfl rfl ⟨.inl ⟨rfl, rfl⟩, ⟨.inl ⟨rfl, rfl⟩, ⟨.inl ⟨rfl, rfl⟩, trivial⟩⟩⟩ rfl (fun b hb => by cases hb) (.inl rfl) (lt_of rfl) ⟨rfl, ⟨rfl, trivial⟩⟩)] (by kernel_rfl) (by kernel_rfl) ?_
    refine nT ?_
    refine T.ret ?_
    refine rT ?_
    exact tE (.inl rfl) [.t 4 (.one (.own 0 kU8.sz 0 (b ++ (spellB 1 1)).length))] ⟨⟨rfl, by kernel_rfl⟩, trivial⟩ [0] (by have e1 : ((b ++ boolB x).length : Nat) = (b ++ (spellB 1 1)).length := (by (simp [boolB, spell1, *]; done)); have hE := congrArg (fun (q1 : Nat) => (ownV 0 kU8 0 q1 : AV)) e1; exact hE) rfl rfl rfl rfl rfl ⟨⟨rfl, (by have e1 : (b ++ (spellB 1 1) : List UInt8) = b ++ boolB x := (by (simp [boolB, spell1, *]; done)); have hE := congrArg (fun (q1 : List UInt8) => (.live (arrK 5 kU8 q1) : HS)) e1; exact Eq.trans (by kernel_rfl) hE)⟩, trivial⟩
  · replace hq1 := Bool.eq_false_iff.2 hq1
    refine T.condF (by kernel_rfl) hq1 ?_
    refine T.skip ?_
    refine nT ?_
    refine T.seq ?_
    refine xR [hR 1 rfl rfl (r_call (ref01_bits tb nb b 0 1 (by assumption) (by omega) (by omega)) Try.func100 rfl (by decide) [0] [] (l := [(.tmp 8, slV tb nb kU8 b), (.const (.int .u64 0), dv (.int .u64 0)), (.const (.int .i64 1), dv (.int .i64 1))]) [] rfl 0 1 rfl rfl rfl rfl rfl rfl rfl rfl rfl ⟨.inl ⟨rfl, rfl⟩, ⟨.inl ⟨rfl, rfl⟩, ⟨.inl ⟨rfl, rfl⟩, trivial⟩⟩⟩ rfl (fun b hb => by cases hb) (.inl rfl) (lt_of rfl) ⟨rfl, ⟨rfl, trivial⟩⟩)] (by kernel_rfl) (by kernel_rfl) ?_
    refine nT ?_
    refine T.ret ?_
    exact tE (.inl rfl) [.t 4 (.one (.own 0 kU8.sz 0 (b ++ (spellB 0 1)).length))] ⟨⟨rfl, by kernel_rfl⟩, trivial⟩ [0] (by have e1 : ((b ++ boolB x).length : Nat) = (b ++ (spellB 0 1)).length := (by (simp [boolB, spell1, *]; done)); have hE := congrArg (fun (q1 : Nat) => (ownV 0 kU8 0 q1 : AV)) e1; exact hE) rfl rfl rfl rfl rfl ⟨⟨rfl, (by have e1 : (b ++ (spellB 0 1) : List UInt8) = b ++ boolB x := (by (simp [boolB, spell1, *]; done)); have hE := congrArg (fun (q1 : List UInt8) => (.live (arrK 5 kU8 q1) : HS)) e1; exact Eq.trans (by kernel_rfl) hE)⟩, trivial⟩
end Go.Proofs.Ytlabmehgcfgigaa.Q
namespace Go.Proofs.Ytlabmehgcfgigaa.Q
open Go Go.RowKit
set_option linter.unusedVariables false
set_option linter.unusedSimpArgs false
set_option maxRecDepth 100000
set_option maxHeartbeats 4000000
-- quaestor/quaestorref01.Count
theorem ref01_Count (tb : Bool) (nb : Bool) (b : List UInt8) (n : Int) (hb : b.length ≤ 140737488355000) : Holds Try.prog 101 ⟨[slV tb nb kU8 b, dv (.int .i64 n)], [], ownV 0 kU8 0 (b ++ cntB n).length, [.live (arrK 5 kU8 (b ++ cntB n))]⟩ := by
  refine Holds.of Try.func101 rfl (N := 11) Try.ntmps101 rfl fun w0 B0 S0 U0 => ?_
  show T _ (mkBase 11 0 w0 S0 U0 B0) ⟨[slV tb nb kU8 b, dv (.int .i64 n)], []⟩ _ _
  have hn := cntN_lt n
  refine T.seq ?_
  refine xR [] (by kernel_rfl) (by kernel_rfl) ?_
  refine nT ?_
  refine T.seq ?_
  refine xR [hR 2 rfl rfl (r_min (k := .i64) (a := n) (b := 4294967295) (lt_of rfl) ⟨rfl, trivial⟩),
    hR 3 rfl rfl (r_max (k := .i64) (a := 0) (b := min n 4294967295) (lt_of rfl) ⟨rfl, trivial⟩),
    hR 4 rfl rfl (r_conv (u := .int .i64 (max 0 (min n 4294967295))) (v := .int .u64 ((cntN n : Nat) : Int)) (c_int Try.underlying3 Try.underlying64 (by rw [IntKind.wrap_u64]; unfold cntN; omega)) (lt_of rfl) trivial),
    hR 5 rfl rfl (r_call (ref01_bits tb nb b (cntN n) 4 (by assumption) (by omega) (by omega)) Try.func100 rfl (by decide) [0] [] (l := [(.tmp 5, slV tb nb kU8 b), (.tmp 9, dv (.int .u64 ((cntN n : Nat) : Int))), (.const (.int .i64 4), dv (.int .i64 4))]) [] rfl 0 1 rfl rfl rfl rfl rfl rfl rfl rfl rfl ⟨.inl ⟨rfl, rfl⟩, ⟨.inl ⟨rfl, rfl⟩, ⟨.inl ⟨rfl, rfl⟩, trivial⟩⟩⟩ rfl (fun b hb => by cases hb) (.inl rfl) (lt_of rfl) ⟨rfl, trivial⟩)] (by kernel_rfl) (by kernel_rfl) ?_
  refine nT ?_
  refine T.ret ?_
  exact tE (.inl rfl) [.t 4 (.one (.own 0 kU8.sz 0 (b ++ (spellB (cntN n) 4)).length))] ⟨⟨rfl, by kernel_rfl⟩, trivial⟩ [0] (by have e1 : ((b ++ cntB n).length : Nat) = (b ++ (spellB (cntN n) 4)).length := (by rfl); have hE := congrArg (fun (q1 : Nat) => (ownV 0 kU8 0 q1 : AV)) e1; exact hE) rfl rfl rfl rfl rfl ⟨⟨rfl, (by have e1 : (b ++ (spellB (cntN n) 4) : List UInt8) = b ++ cntB n := (by rfl); have hE := congrArg (fun (q1 : List UInt8) => (.live (arrK 5 kU8 q1) : HS)) e1; exact Eq.trans (by kernel_rfl) hE)⟩, trivial⟩
end Go.Proofs.Ytlabmehgcfgigaa.Q
namespace Go.Proofs.Ytlabmehgcfgigaa.Q
open Go Go.RowKit
set_option linter.unusedVariables false
set_option linter.unusedSimpArgs false
set_option maxRecDepth 100000
set_option maxHeartbeats 4000000
-- quaestor/quaestorref01.Bytes
theorem ref01_Bytes (tb : Bool) (nb : Bool) (b : List UInt8) (tx : Bool) (nx : Bool) (x : List UInt8) (hb : b.length + x.length ≤ 140737488355000) : Holds Try.prog 78 ⟨[slV tb nb kU8 b, slV tx nx kU8 x], [], ownV 0 kU8 0 (b ++ bytesB x).length, [.live (arrK 5 kU8 (b ++ bytesB x))]⟩ := by
  refine Holds.of Try.func78 rfl (N := 13) Try.ntmps78 rfl fun w0 B0 S0 U0 => ?_
  show T _ (mkBase 13 0 w0 S0 U0 B0) ⟨[slV tb nb kU8 b, slV tx nx kU8 x], []⟩ _ _
  have hcl := cnt_len ((x.length : Nat) : Int)
  refine T.seq ?_
  refine xR [] (by kernel_rfl) (by kernel_rfl) ?_
  refine nT ?_
  refine T.seq ?_
  refine xR [hR 3 rfl rfl (r_call (ref01_Count tb nb b ((x.length : Nat) : Int) (by omega)) Try.func101 rfl (by decide) [0] [] (l := [(.tmp 6, slV tb nb kU8 b), (.tmp 8, dv (.int .i64 ((x.length : Nat) : Int)))]) [] rfl 0 1 rfl rfl rfl rfl rfl rfl rfl rfl rfl ⟨.inl ⟨rfl, rfl⟩, ⟨.inl ⟨rfl, rfl⟩, trivial⟩⟩ rfl (fun b hb => by cases hb) (.inl rfl) (lt_of rfl) trivial)] (by kernel_rfl) (by kernel_rfl) ?_
  refine nT ?_
  refine T.seq ?_
  refine xR [hR 2 rfl rfl (q_appendO 0 1 5 1 kU8 kU8_ok (b ++ cntB ((x.length : Nat) : Int)) x (b ++ cntB ((x.length : Nat) : Int) ++ x) (b ++ cntB ((x.length : Nat) : Int)).length (sy := (.d (dsl tx nx kU8 x))) (rhs := []) elem_47 (by omega) (src_sl tx nx kU8 x) (by rw [List.take_length]) (by (simp [maxLen, -List.getD_eq_getElem?_getD] <;> omega)) (by (simp [maxLen, -List.getD_eq_getElem?_getD] <;> omega)) (lt_of rfl) trivial)] (by kernel_rfl) (by kernel_rfl) ?_
  refine nT ?_
  refine T.ret ?_
  exact tE (.inl rfl) [.t 4 (.one (.own 1 kU8.sz 0 (b ++ cntB ((x.length : Nat) : Int) ++ x).length))] ⟨⟨rfl, by kernel_rfl⟩, trivial⟩ [1] (by have e1 : ((b ++ bytesB x).length : Nat) = (b ++ cntB ((x.length : Nat) : Int) ++ x).length := (by (simp only [bytesB, List.append_assoc])); have hE := congrArg (fun (q1 : Nat) => (ownV 1 kU8 0 q1 : AV)) e1; exact hE) rfl rfl rfl rfl rfl ⟨⟨rfl, (by have e1 : (b ++ cntB ((x.length : Nat) : Int) ++ x : List UInt8) = b ++ bytesB x := (by (simp only [bytesB, List.append_assoc])); have hE := congrArg (fun (q1 : List UInt8) => (.live (arrK 5 kU8 q1) : HS)) e1; exact Eq.trans (by kernel_rfl) hE)⟩, trivial⟩
end Go.Proofs.Ytlabmehgcfgigaa.Q
namespace Go.Proofs.Ytlabmehgcfgigaa.Q
open Go Go.RowKit
set_option linter.unusedVariables false
set_option linter.unusedSimpArgs false
set_option maxRecDepth 100000
set_option maxHeartbeats 4000000
-- quaestor/quaestorref01.Bits
theorem ref01_Bits (x : Nat) : Holds Try.prog 48 ⟨[dv (.float .f64 x)], [], dv (.int .u64 ((bitsF x : Nat) : Int)), []⟩ := by
  refine Holds.of Try.func48 rfl (N := 8) Try.ntmps48 rfl fun w0 B0 S0 U0 => ?_
  show T _ (mkBase 8 0 w0 S0 U0 B0) ⟨[dv (.float .f64 x)], []⟩ _ _
  refine T.seq ?_
  refine xR [] (by kernel_rfl) (by kernel_rfl) ?_
  refine nT ?_
  refine T.seq ?_
  refine T.seq ?_
  refine xR [hR 2 rfl rfl (r_bin (u1 := .float .f64 x) (u2 := .float .f64 x) (v := .bool (nanB x)) b_nan (lt_of rfl) trivial)] (by kernel_rfl) (by kernel_rfl) ?_
  refine nT ?_
  by_cases hq1 : (nanB x) = true
  · refine T.condT (by kernel_rfl) hq1 ?_
    refine T.seq ?_
    refine xR [] (by kernel_rfl) (by kernel_rfl) ?_
    refine nT ?_
    refine T.ret ?_
    refine rT ?_
    exact tE (.inl rfl) [.t 2 (.one (.d (.val (.int .u64 9221120237041090561))))] ⟨⟨rfl, by kernel_rfl⟩, trivial⟩ [] (by have e1 : (((bitsF x : Nat) : Int) : Int) = 9221120237041090561 := (by (simp [bitsF, *]; done)); have hE := congrArg (fun (q1 : Int) => (dv (.int .u64 q1) : AV)) e1; exact hE) rfl rfl rfl rfl rfl trivial
  · replace hq1 := Bool.eq_false_iff.2 hq1
    refine T.condF (by kernel_rfl) hq1 ?_
    refine T.skip ?_
    refine nT ?_
    refine T.seq ?_
    refine xR [hR 1 rfl rfl (r_ext1 (u := .float .f64 x) (v := .int .u64 ((x : Nat) : Int)) (e := Extern.MathFloatBits.float64bits) Try.func84 (by kernel_rfl) (by kernel_rfl) (by kernel_rfl) (by kernel_rfl) (fun w => rfl) (lt_of rfl) trivial)] (by kernel_rfl) (by kernel_rfl) ?_
    refine nT ?_
    refine T.ret ?_
    exact tE (.inl rfl) [.t 2 (.one (.d (.val (.int .u64 ((x : Nat) : Int)))))] ⟨⟨rfl, by kernel_rfl⟩, trivial⟩ [] (by have e1 : (((bitsF x : Nat) : Int) : Int) = ((x : Nat) : Int) := (by (simp [bitsF, *]; done)); have hE := congrArg (fun (q1 : Int) => (dv (.int .u64 q1) : AV)) e1; exact hE) rfl rfl rfl rfl rfl trivial
end Go.Proofs.Ytlabmehgcfgigaa.Q
namespace Go.Proofs.Ytlabmehgcfgigaa.Q
open Go Go.RowKit
set_option linter.unusedVariables false
set_option linter.unusedSimpArgs false
set_option maxRecDepth 100000
set_option maxHeartbeats 4000000
-- quaestor/quaestorref01.Num
theorem ref01_Num (tb : Bool) (nb : Bool) (b : List UInt8) (x : Nat) (hb : b.length ≤ 140737488355000) (hx : x < 18446744073709551616) : Holds Try.prog 79 ⟨[slV tb nb kU8 b, dv (.float .f64 x)], [], ownV 0 kU8 0 (b ++ numB x).length, [.live (arrK 5 kU8 (b ++ numB x))]⟩ := by
  refine Holds.of Try.func79 rfl (N := 9) Try.ntmps79 rfl fun w0 B0 S0 U0 => ?_
  show T _ (mkBase 9 0 w0 S0 U0 B0) ⟨[slV tb nb kU8 b, dv (.float .f64 x)], []⟩ _ _
  have hbx := bitsF_lt hx
  refine T.seq ?_
  refine xR [] (by kernel_rfl) (by kernel_rfl) ?_
  refine nT ?_
  refine T.seq ?_
  refine xR [hR 2 rfl rfl (r_call (ref01_Bits x ) Try.func48 rfl (by decide) [] [] (l := [(.tmp 6, dv (.float .f64 x))]) [] rfl 0 0 rfl rfl rfl rfl rfl rfl rfl rfl rfl ⟨.inl ⟨rfl, rfl⟩, trivial⟩ rfl (fun b hb => by cases hb) (.inl rfl) (lt_of rfl) trivial),
    hR 3 rfl rfl (r_call (ref01_bits tb nb b (bitsF x) 8 (by assumption) (by assumption) (by omega)) Try.func100 rfl (by decide) [0] [] (l := [(.tmp 5, slV tb nb kU8 b), (.tmp 7, dv (.int .u64 ((bitsF x : Nat) : Int))), (.const (.int .i64 8), dv (.int .i64 8))]) [] rfl 0 1 rfl rfl rfl rfl rfl rfl rfl rfl rfl ⟨.inl ⟨rfl, rfl⟩, ⟨.inl ⟨rfl, rfl⟩, ⟨.inl ⟨rfl, rfl⟩, trivial⟩⟩⟩ rfl (fun b hb => by cases hb) (.inl rfl) (lt_of rfl) ⟨rfl, trivial⟩)] (by kernel_rfl) (by kernel_rfl) ?_
  refine nT ?_
  refine T.ret ?_
  exact tE (.inl rfl) [.t 4 (.one (.own 0 kU8.sz 0 (b ++ (spellB (bitsF x) 8)).length))] ⟨⟨rfl, by kernel_rfl⟩, trivial⟩ [0] (by have e1 : ((b ++ numB x).length : Nat) = (b ++ (spellB (bitsF x) 8)).length := (by rfl); have hE := congrArg (fun (q1 : Nat) => (ownV 0 kU8 0 q1 : AV)) e1; exact hE) rfl rfl rfl rfl rfl ⟨⟨rfl, (by have e1 : (b ++ (spellB (bitsF x) 8) : List UInt8) = b ++ numB x := (by rfl); have hE := congrArg (fun (q1 : List UInt8) => (.live (arrK 5 kU8 q1) : HS)) e1; exact Eq.trans (by kernel_rfl) hE)⟩, trivial⟩
end Go.Proofs.Ytlabmehgcfgigaa.Q
namespace Go.Proofs.Ytlabmehgcfgigaa.Q
open Go Go.RowKit
set_option linter.unusedVariables false
set_option linter.unusedSimpArgs false
set_option maxRecDepth 100000
set_option maxHeartbeats 4000000
theorem iat_47 : Try.prog.info? 47 = some Try.t47 := by kernel_rfl
theorem fld_52_0 : FieldAt Try.prog 52 0 0 := ⟨_, _, _, Try.underlying52, rfl, iat_47, by decide, rfl⟩
theorem wide_47 : Wide Try.prog 47 none := ⟨_, Try.underlying47, (fun _ h => by cases h), (fun _ _ h => by cases h)⟩
theorem iat_3 : Try.prog.info? 3 = some Try.t3 := by kernel_rfl
theorem fld_52_1 : FieldAt Try.prog 52 1 1 := ⟨_, _, _, Try.underlying52, rfl, iat_3, by decide, rfl⟩
theorem wide_3 : Wide Try.prog 3 none := ⟨_, Try.underlying3, (fun _ h => by cases h), (fun _ _ h => by cases h)⟩
theorem wide_5 : Wide Try.prog 5 none := ⟨_, Try.underlying5, (fun _ h => by cases h), (fun _ _ h => by cases h)⟩
-- (*quaestor/quaestorref01.Reader).number
theorem ref01_number (B : List UInt8) (a : Nat) (e : Int) (m : Nat) (ha : a ≤ B.length) (hB : B.length ≤ 140737488350000) (hm : m ≤ 8) : Holds Try.prog 95 ⟨[pv 0 0, dv (.int .i64 ((m : Nat) : Int))], [.box 52 [.d (dsl false false kU8 B), .d (.val (.int .i64 ((a : Nat) : Int))), .d (.val (.int .i64 e))]], .tup [.one (.d (.val (.int .u64 ((rfN B a m : Nat) : Int)))), .one (.d (.val (.bool (decide (a + m ≤ B.length)))))], [.live (.box 52 [.d (dsl false false kU8 B), .d (.val (.int .i64 ((a : Nat) : Int))), .d (.val (.int .i64 e))])]⟩ := by
  refine Holds.of Try.func95 rfl (N := 42) Try.ntmps95 rfl fun w0 B0 S0 U0 => ?_
  show T _ (mkBase 42 1 w0 S0 U0 B0) ⟨[pv 0 0, dv (.int .i64 ((m : Nat) : Int))], [.live (.box 52 [.d (dsl false false kU8 B), .d (.val (.int .i64 ((a : Nat) : Int))), .d (.val (.int .i64 e))])]⟩ _ _
  refine T.seq ?_
  refine xR [] (by kernel_rfl) (by kernel_rfl) ?_
  refine nT ?_
  refine T.seq ?_
  refine T.seq ?_
  refine xD [[], [], [1], [1, 2], [1, 2, 3], [1, 2, 3, 4], [], [6], [6, 7], [6, 7, 8], [1, 2, 3, 4, 5, 6, 7, 8, 9], [0, 1, 2, 3, 4, 5, 6, 7, 8, 9, 10]] [hR 10 rfl rfl (r_bin (u1 := .int .i64 ((B.length : Nat) : Int)) (u2 := .int .i64 ((a : Nat) : Int)) (v := .int .i64 (((B.length : Nat) : Int) - ((a : Nat) : Int))) (b_sub (by rw [IntKind.wrap_i64]; omega)) (lt_of rfl) trivial)] (by kernel_rfl) (by kernel_rfl) (by kernel_rfl) (by kernel_rfl) (by kernel_rfl) (by kernel_rfl) ?_
  refine nT ?_
  by_cases hq1 : ((m : Nat) : Int) > (((B.length : Nat) : Int) - ((a : Nat) : Int))
  · refine T.condT (by kernel_rfl) (decide_eq_true hq1) ?_
    refine T.seq ?_
    refine xR [] (by kernel_rfl) (by kernel_rfl) ?_
    refine nT ?_
    refine T.ret ?_
    refine rT ?_
    exact tE (.inl rfl) [.t 4 (.one (.d (.val (.int .u64 0)))), .t 5 (.one (.d (.val (.bool false))))] ⟨⟨rfl, by kernel_rfl⟩, ⟨⟨rfl, by kernel_rfl⟩, trivial⟩⟩ [0] (by have e1 : (((rfN B a m : Nat) : Int) : Int) = 0 := (by (simp only [rfN]; rw [if_neg (by omega)]; rfl)); have e2 : ((decide (a + m ≤ B.length)) : Bool) = false := (by exact decide_eq_false (by omega)); have hE := congr (congrArg (fun (q1 : Int) (q2 : Bool) => (.tup [.one (.d (.val (.int .u64 q1))), .one (.d (.val (.bool q2)))] : AV)) e1) e2; exact hE) rfl rfl rfl rfl rfl ⟨⟨rfl, (by kernel_rfl)⟩, trivial⟩
  · refine T.condF (by kernel_rfl) (decide_eq_false hq1) ?_
    refine T.skip ?_
    refine nT ?_
    refine T.seq ?_
    refine xR [] (by kernel_rfl) (by kernel_rfl) ?_
    refine nT ?_
    refine T.seq ?_
    refine T.seq ?_
    refine xR [] (by kernel_rfl) (by kernel_rfl) ?_
    refine nT ?_
    refine T.block ?_
    refine T.loop (ι := Nat) (fun (k : Nat) => ⟨[pv 0 0, dv (.int .i64 ((m : Nat) : Int)), aa, aa, dv (.int .u64 0), dv (.bool false), dv (.int .u64 ((numL ((B.drop a).take k) : Nat) : Int)), dv (.int .i64 ((k : Nat) : Int)), aa, aa, aa, aa, aa, aa, aa, aa, aa, aa, aa, dv (.bool (decide (((m : Nat) : Int) > (((B.length : Nat) : Int) - ((a : Nat) : Int)))))], [.live (.box 52 [.d (dsl false false kU8 B), .d (.val (.int .i64 ((a : Nat) : Int))), .d (.val (.int .i64 e))])]⟩) (fun (k : Nat) => (k ≤ m)) (fun (k : Nat) => m - k) (0) (Nat.zero_le _) (fun _ _ hG => Gs.into2 (s' := ⟨[pv 0 0, dv (.int .i64 ((m : Nat) : Int)), aa, aa, dv (.int .u64 0), dv (.bool false), dv (.int .u64 ((numL ((B.drop a).take 0) : Nat) : Int)), dv (.int .i64 0), aa, aa, aa, aa, aa, aa, aa, aa, aa, aa, aa, dv (.bool (decide (((m : Nat) : Int) > (((B.length : Nat) : Int) - ((a : Nat) : Int)))))], [.live (.box 52 [.d (dsl false false kU8 B), .d (.val (.int .i64 ((a : Nat) : Int))), .d (.val (.int .i64 e))])]⟩) [0] (bm 20 524531) (t1 := [pv 0 0, dv (.int .i64 ((m : Nat) : Int)), aa, aa, dv (.int .u64 0), dv (.bool false), dv (.int .u64 ((numL ((B.drop a).take 0) : Nat) : Int)), dv (.int .i64 0), aa, aa, aa, aa, aa, aa, aa, aa, aa, aa, aa, dv (.bool (decide (((m : Nat) : Int) > (((B.length : Nat) : Int) - ((a : Nat) : Int)))))]) (t2 := [pv 0 0, dv (.int .i64 ((m : Nat) : Int)), aa, aa, dv (.int .u64 0), dv (.bool false), dv (.int .u64 0), dv (.int .i64 0), aa, aa, aa, aa, aa, aa, aa, aa, aa, aa, aa, dv (.bool (decide (((m : Nat) : Int) > (((B.length : Nat) : Int) - ((a : Nat) : Int)))))]) (h1 := [.live (.box 52 [.d (dsl false false kU8 B), .d (.val (.int .i64 ((a : Nat) : Int))), .d (.val (.int .i64 e))])]) (by have e1 : (((numL ((B.drop a).take 0) : Nat) : Int) : Int) = 0 := (by rfl); have hE := congrArg (fun (q1 : Int) => ([pv 0 0, dv (.int .i64 ((m : Nat) : Int)), aa, aa, dv (.int .u64 0), dv (.bool false), dv (.int .u64 q1), dv (.int .i64 0), aa, aa, aa, aa, aa, aa, aa, aa, aa, aa, aa, dv (.bool (decide (((m : Nat) : Int) > (((B.length : Nat) : Int) - ((a : Nat) : Int)))))] : List AV)) e1; exact hE) rfl (by kernel_rfl) (by kernel_rfl) (by kernel_rfl) (by kernel_rfl) (by kernel_rfl) (by kernel_rfl) (by kernel_rfl) (by kernel_rfl) (by kernel_rfl) (by kernel_rfl) (by kernel_rfl) hG) ?_
    rintro k hk
    show T _ _ ⟨[pv 0 0, dv (.int .i64 ((m : Nat) : Int)), aa, aa, dv (.int .u64 0), dv (.bool false), dv (.int .u64 ((numL ((B.drop a).take k) : Nat) : Int)), dv (.int .i64 ((k : Nat) : Int)), aa, aa, aa, aa, aa, aa, aa, aa, aa, aa, aa, dv (.bool (decide (((m : Nat) : Int) > (((B.length : Nat) : Int) - ((a : Nat) : Int)))))], [.live (.box 52 [.d (dsl false false kU8 B), .d (.val (.int .i64 ((a : Nat) : Int))), .d (.val (.int .i64 e))])]⟩ _ _
    replace hk : k ≤ m := hk
    have hk8 : numL ((B.drop a).take k) < 18446744073709551616 := numL_lt8 (Nat.le_trans (List.length_take_le _ _) (by omega))
    refine T.seq ?_
    refine T.seq ?_
    refine xR [] (by kernel_rfl) (by kernel_rfl) ?_
    refine nT ?_
    by_cases hq2 : ((k : Nat) : Int) < ((m : Nat) : Int)
    · have hk7 : numL ((B.drop a).take k) < 72057594037927936 := numL_lt7 (Nat.le_trans (List.length_take_le _ _) (by omega)); have hbt := UInt8.toNat_lt (B.getD (a + k) 0)
      refine T.condT (by kernel_rfl) (decide_eq_true hq2) ?_
      refine T.skip ?_
      refine nT ?_
      refine T.seq ?_
      refine T.block ?_
      refine xD [[], [0], [], [2], [2, 3], [2, 3, 4], [], [6], [6, 7], [6, 7, 8], [], [6, 7, 8, 9, 10], [2, 3, 4, 5, 6, 7, 8, 9, 10, 11], [2, 3, 4, 5, 6, 7, 8, 9, 10, 11, 12], [2, 3, 4, 5, 6, 7, 8, 9, 10, 11, 12, 13], [0, 1, 2, 3, 4, 5, 6, 7, 8, 9, 10, 11, 12, 13, 14], [0, 1, 2, 3, 4, 5, 6, 7, 8, 9, 10, 11, 12, 13, 14, 15]] [hR 1 rfl rfl (r_bin (u1 := .int .u64 ((numL ((B.drop a).take k) : Nat) : Int)) (u2 := .int .u64 8) (v := .int .u64 (((numL ((B.drop a).take k)) * 2 ^ 8 : Nat) : Int)) (b_shlN (n := 8) rfl (Nat.le_trans (by omega) (by decide : 64 ≤ _)) (by (rw [IntKind.wrap_u64]; omega))) (lt_of rfl) ⟨rfl, trivial⟩),
        hR 11 rfl rfl (r_bin (u1 := .int .i64 ((a : Nat) : Int)) (u2 := .int .i64 ((k : Nat) : Int)) (v := .int .i64 ((a + k : Nat) : Int)) (b_add (by rw [IntKind.wrap_i64]; omega)) (lt_of rfl) trivial),
        hR 12 rfl rfl (q_index false false kU8 B (a + k) (k := .i64) (i := ((a + k : Nat) : Int)) Try.underlying47 iat_5 rfl rfl (by omega) (lt_of rfl) trivial),
        hR 14 rfl rfl (r_conv (u := .int .u8 (((B.getD (a + k) 0).toNat : Nat) : Int)) (v := .int .u64 (((B.getD (a + k) 0).toNat : Nat) : Int)) (c_int Try.underlying5 Try.underlying64 (by (rw [IntKind.wrap_u64]; omega))) (lt_of rfl) trivial),
        hR 15 rfl rfl (r_bin (u1 := .int .u64 (((numL ((B.drop a).take k)) * 2 ^ 8 : Nat) : Int)) (u2 := .int .u64 (((B.getD (a + k) 0).toNat : Nat) : Int)) (v := .int .u64 ((((numL ((B.drop a).take k)) * 2 ^ 8) ||| (B.getD (a + k) 0).toNat : Nat) : Int)) (b_orU (by omega) (by omega)) (lt_of rfl) trivial)] (by kernel_rfl) (by kernel_rfl) (by kernel_rfl) (by kernel_rfl) (by kernel_rfl) (by kernel_rfl) ?_
      refine nB ?_
      refine nT ?_
      refine xR [hR 1 rfl rfl (r_bin (u1 := .int .i64 ((k : Nat) : Int)) (u2 := .int .i64 1) (v := .int .i64 ((k + 1 : Nat) : Int)) (b_add (by rw [IntKind.wrap_i64]; omega)) (lt_of rfl) ⟨rfl, trivial⟩)] (by kernel_rfl) (by kernel_rfl) ?_
      refine nL (k + 1) (show (k + 1) ≤ m from (by omega)) (show (m - (k + 1) : Nat) < m - k from (by omega)) (fun _ _ hG => Gs.into2 (s' := ⟨[pv 0 0, dv (.int .i64 ((m : Nat) : Int)), aa, aa, dv (.int .u64 0), dv (.bool false), dv (.int .u64 ((numL ((B.drop a).take (k + 1)) : Nat) : Int)), dv (.int .i64 ((k + 1 : Nat) : Int)), aa, aa, aa, aa, aa, aa, aa, aa, aa, aa, aa, dv (.bool (decide (((m : Nat) : Int) > (((B.length : Nat) : Int) - ((a : Nat) : Int)))))], [.live (.box 52 [.d (dsl false false kU8 B), .d (.val (.int .i64 ((a : Nat) : Int))), .d (.val (.int .i64 e))])]⟩) [0] (bm 20 524531) (t1 := [pv 0 0, dv (.int .i64 ((m : Nat) : Int)), aa, aa, dv (.int .u64 0), dv (.bool false), dv (.int .u64 ((numL ((B.drop a).take (k + 1)) : Nat) : Int)), dv (.int .i64 ((k + 1 : Nat) : Int)), aa, aa, aa, aa, aa, aa, aa, aa, aa, aa, aa, dv (.bool (decide (((m : Nat) : Int) > (((B.length : Nat) : Int) - ((a : Nat) : Int)))))]) (t2 := [pv 0 0, dv (.int .i64 ((m : Nat) : Int)), aa, aa, dv (.int .u64 0), dv (.bool false), dv (.int .u64 ((((numL ((B.drop a).take k)) * 2 ^ 8) ||| (B.getD (a + k) 0).toNat : Nat) : Int)), dv (.int .i64 ((k + 1 : Nat) : Int)), aa, aa, aa, aa, aa, aa, aa, aa, aa, aa, aa, dv (.bool (decide (((m : Nat) : Int) > (((B.length : Nat) : Int) - ((a : Nat) : Int)))))]) (h1 := [.live (.box 52 [.d (dsl false false kU8 B), .d (.val (.int .i64 ((a : Nat) : Int))), .d (.val (.int .i64 e))])]) (by have e1 : (((numL ((B.drop a).take (k + 1)) : Nat) : Int) : Int) = ((((numL ((B.drop a).take k)) * 2 ^ 8) ||| (B.getD (a + k) 0).toNat : Nat) : Int) := (by (rw [numL_dropk (by omega)])); have hE := congrArg (fun (q1 : Int) => ([pv 0 0, dv (.int .i64 ((m : Nat) : Int)), aa, aa, dv (.int .u64 0), dv (.bool false), dv (.int .u64 q1), dv (.int .i64 ((k + 1 : Nat) : Int)), aa, aa, aa, aa, aa, aa, aa, aa, aa, aa, aa, dv (.bool (decide (((m : Nat) : Int) > (((B.length : Nat) : Int) - ((a : Nat) : Int)))))] : List AV)) e1; exact hE) rfl (by kernel_rfl) (by kernel_rfl) (by kernel_rfl) (by kernel_rfl) (by kernel_rfl) (by kernel_rfl) (by kernel_rfl) (by kernel_rfl) (by kernel_rfl) (by kernel_rfl) (by kernel_rfl) hG)
    · refine T.condF (by kernel_rfl) (decide_eq_false hq2) ?_
      refine T.exit ?_
      refine xT ?_
      refine xT ?_
      refine xH ?_
      refine nT ?_
      refine T.seq ?_
      refine xR [] (by kernel_rfl) (by kernel_rfl) ?_
      refine nT ?_
      refine T.ret ?_
      exact tE (.inl rfl) [.t 4 (.one (.d (.val (.int .u64 ((numL ((B.drop a).take k) : Nat) : Int))))), .t 5 (.one (.d (.val (.bool true))))] ⟨⟨rfl, by kernel_rfl⟩, ⟨⟨rfl, by kernel_rfl⟩, trivial⟩⟩ [0] (by have e1 : (((rfN B a m : Nat) : Int) : Int) = ((numL ((B.drop a).take k) : Nat) : Int) := (by (have hke : k = m := (by omega); subst hke; rw [rfN_ok (by omega)])); have e2 : ((decide (a + m ≤ B.length)) : Bool) = true := (by exact decide_eq_true (by omega)); have hE := congr (congrArg (fun (q1 : Int) (q2 : Bool) => (.tup [.one (.d (.val (.int .u64 q1))), .one (.d (.val (.bool q2)))] : AV)) e1) e2; exact hE) rfl rfl rfl rfl rfl ⟨⟨rfl, (by kernel_rfl)⟩, trivial⟩
end Go.Proofs.Ytlabmehgcfgigaa.Q
namespace Go.Proofs.Ytlabmehgcfgigaa.Q
open Go Go.RowKit
set_option linter.unusedVariables false
set_option linter.unusedSimpArgs false
set_option maxRecDepth 100000
set_option maxHeartbeats 4000000
theorem iat_32 : Try.prog.info? 32 = some Try.t32 := by kernel_rfl
theorem fld_52_2 : FieldAt Try.prog 52 2 2 := ⟨_, _, _, Try.underlying52, rfl, iat_32, by decide, rfl⟩
theorem wide_32 : Wide Try.prog 32 none := ⟨_, Try.underlying32, (fun _ h => by cases h), (fun _ _ h => by cases h)⟩
theorem cells_3 : Cells Try.prog 3 1 := ⟨_, iat_3, rfl⟩
theorem cells_32 : Cells Try.prog 32 1 := ⟨_, iat_32, rfl⟩
-- (*quaestor/quaestorref01.Reader).Int
theorem ref01_rInt (B : List UInt8) (a : Nat) (e : Int) (ha : a ≤ B.length) (hB : B.length ≤ 140737488350000) : Holds Try.prog 67 ⟨[pv 0 0], [.box 52 [.d (dsl false false kU8 B), .d (.val (.int .i64 ((a : Nat) : Int))), .d (.val (.int .i64 e))]], dv (.int .i64 (rdI (B.drop a) e)), [.live (.box 52 [.d (dsl false false kU8 B), .d (.val (.int .i64 ((rfA B a e 8 0 : Nat) : Int))), .d (.val (.int .i64 (rdE (B.drop a) e 8 0)))])]⟩ := by
  refine Holds.of Try.func67 rfl (N := 29) Try.ntmps67 rfl fun w0 B0 S0 U0 => ?_
  show T _ (mkBase 29 1 w0 S0 U0 B0) ⟨[pv 0 0], [.live (.box 52 [.d (dsl false false kU8 B), .d (.val (.int .i64 ((a : Nat) : Int))), .d (.val (.int .i64 e))])]⟩ _ _
  have hn8 := rfN_lt B a (m := 8) (by decide)
  refine T.seq ?_
  refine xR [] (by kernel_rfl) (by kernel_rfl) ?_
  refine nT ?_
  refine T.seq ?_
  refine T.seq ?_
  refine xR [] (by kernel_rfl) (by kernel_rfl) ?_
  refine nT ?_
  by_cases hq1 : e ≠ 0
  · have hr := rf_e (B := B) (a := a) hq1 8 0
    refine T.condT (by kernel_rfl) (decide_eq_true hq1) ?_
    refine T.seq ?_
    refine xR [] (by kernel_rfl) (by kernel_rfl) ?_
    refine nT ?_
    refine T.ret ?_
    refine rT ?_
    exact tE (.inl rfl) [.t 2 (.one (.d (.val (.int .i64 0))))] ⟨⟨rfl, by kernel_rfl⟩, trivial⟩ [0] (by have e1 : (rdI (B.drop a) e : Int) = 0 := (by (simp only [rdI]; (rw [if_neg hr.1]; done))); have hE := congrArg (fun (q1 : Int) => (dv (.int .i64 q1) : AV)) e1; exact hE) rfl rfl rfl rfl rfl ⟨⟨rfl, (by have e1 : (((a : Nat) : Int) : Int) = ((rfA B a e 8 0 : Nat) : Int) := (by (rw [rfA_no hr.1])); have e2 : (e : Int) = (rdE (B.drop a) e 8 0) := (by exact hr.2.symm); have hE := congr (congrArg (fun (q1 : Int) (q2 : Int) => (.live (.box 52 [.d (dsl false false kU8 B), .d (.val (.int .i64 q1)), .d (.val (.int .i64 q2))]) : HS)) e1) e2; exact Eq.trans (by kernel_rfl) hE)⟩, trivial⟩
  · refine T.condF (by kernel_rfl) (decide_eq_false hq1) ?_
    refine T.skip ?_
    refine nT ?_
    refine T.seq ?_
    refine xR [hR 1 rfl rfl (r_call (ref01_number B a e 8 (by assumption) (by assumption) (by omega)) Try.func95 rfl (by decide) [0] [] (l := [(.tmp 11, pv 0 0), (.const (.int .i64 8), dv (.int .i64 8))]) [] rfl 1 1 rfl rfl rfl rfl rfl rfl rfl rfl rfl ⟨.inl ⟨rfl, rfl⟩, ⟨.inl ⟨rfl, rfl⟩, trivial⟩⟩ rfl (fun b hb => by cases hb) (.inl rfl) (lt_of rfl) ⟨rfl, trivial⟩)] (by kernel_rfl) (by kernel_rfl) ?_
    refine nT ?_
    refine T.seq ?_
    refine T.seq ?_
    refine xR [] (by kernel_rfl) (by kernel_rfl) ?_
    refine nT ?_
    by_cases hq2 : a + 8 ≤ B.length
    · have hr := rf_ok (n := 8) (k := 8) (m := 0) rfl (by assumption) hq2 rfl
      refine T.condF (by kernel_rfl) (congrArg Bool.not (decide_eq_true hq2)) ?_
      refine T.skip ?_
      refine nT ?_
      refine T.seq ?_
      refine xR [hR 4 rfl rfl (r_bin (u1 := .int .i64 ((a : Nat) : Int)) (u2 := .int .i64 8) (v := .int .i64 ((a + 8 : Nat) : Int)) (b_add (by rw [IntKind.wrap_i64]; omega)) (lt_of rfl) ⟨rfl, trivial⟩)] (by kernel_rfl) (by kernel_rfl) ?_
      refine nT ?_
      refine T.seq ?_
      refine xR [hR 1 rfl rfl (r_conv (u := .int .u64 ((rfN B a 8 : Nat) : Int)) (v := .int .i64 (toI64 (rfN B a 8))) (c_i64 (by assumption) Try.underlying64 Try.underlying2) (lt_of rfl) trivial)] (by kernel_rfl) (by kernel_rfl) ?_
      refine nT ?_
      refine T.ret ?_
      exact tE (.inl rfl) [.t 2 (.one (.d (.val (.int .i64 (toI64 (rfN B a 8))))))] ⟨⟨rfl, by kernel_rfl⟩, trivial⟩ [0] (by have e1 : (rdI (B.drop a) e : Int) = toI64 (rfN B a 8) := (by (simp only [rdI]; (rw [if_pos hr.1, ← rfN_ok (by assumption)]; done))); have hE := congrArg (fun (q1 : Int) => (dv (.int .i64 q1) : AV)) e1; exact hE) rfl rfl rfl rfl rfl ⟨⟨rfl, (by have e1 : (((a + 8 : Nat) : Int) : Int) = ((rfA B a e 8 0 : Nat) : Int) := (by (rw [rfA_ok hr.1]; rfl)); have e2 : (e : Int) = (rdE (B.drop a) e 8 0) := (by (rw [hr.2]; omega)); have hE := congr (congrArg (fun (q1 : Int) (q2 : Int) => (.live (.box 52 [.d (dsl false false kU8 B), .d (.val (.int .i64 q1)), .d (.val (.int .i64 q2))]) : HS)) e1) e2; exact Eq.trans (by kernel_rfl) hE)⟩, trivial⟩
    · have hr := rf_short (n := 8) (k := 8) rfl (by assumption) hq2 ha 0
      refine T.condT (by kernel_rfl) (congrArg Bool.not (decide_eq_false hq2)) ?_
      refine T.seq ?_
      refine xR [] (by kernel_rfl) (by kernel_rfl) ?_
      refine nT ?_
      refine T.seq ?_
      refine xR [] (by kernel_rfl) (by kernel_rfl) ?_
      refine nT ?_
      refine T.ret ?_
      refine rT ?_
      exact tE (.inl rfl) [.t 2 (.one (.d (.val (.int .i64 0))))] ⟨⟨rfl, by kernel_rfl⟩, trivial⟩ [0] (by have e1 : (rdI (B.drop a) e : Int) = 0 := (by (simp only [rdI]; (rw [if_neg hr.1]; done))); have hE := congrArg (fun (q1 : Int) => (dv (.int .i64 q1) : AV)) e1; exact hE) rfl rfl rfl rfl rfl ⟨⟨rfl, (by have e1 : (((a : Nat) : Int) : Int) = ((rfA B a e 8 0 : Nat) : Int) := (by (rw [rfA_no hr.1])); have e2 : (10 : Int) = (rdE (B.drop a) e 8 0) := (by exact hr.2.symm); have hE := congr (congrArg (fun (q1 : Int) (q2 : Int) => (.live (.box 52 [.d (dsl false false kU8 B), .d (.val (.int .i64 q1)), .d (.val (.int .i64 q2))]) : HS)) e1) e2; exact Eq.trans (by kernel_rfl) hE)⟩, trivial⟩
end Go.Proofs.Ytlabmehgcfgigaa.Q
namespace Go.Proofs.Ytlabmehgcfgigaa.Q
open Go Go.RowKit
set_option linter.unusedVariables false
set_option linter.unusedSimpArgs false
set_option maxRecDepth 100000
set_option maxHeartbeats 4000000
-- (*quaestor/quaestorref01.Reader).Bool
theorem ref01_rBool (B : List UInt8) (a : Nat) (e : Int) (ha : a ≤ B.length) (hB : B.length ≤ 140737488350000) : Holds Try.prog 69 ⟨[pv 0 0], [.box 52 [.d (dsl false false kU8 B), .d (.val (.int .i64 ((a : Nat) : Int))), .d (.val (.int .i64 e))]], dv (.bool (rdB (B.drop a) e)), [.live (.box 52 [.d (dsl false false kU8 B), .d (.val (.int .i64 ((rfA B a e 1 (truthE ((B.drop a).take 1)) : Nat) : Int))), .d (.val (.int .i64 (rdE (B.drop a) e 1 (truthE ((B.drop a).take 1)))))])]⟩ := by
  refine Holds.of Try.func69 rfl (N := 34) Try.ntmps69 rfl fun w0 B0 S0 U0 => ?_
  show T _ (mkBase 34 1 w0 S0 U0 B0) ⟨[pv 0 0], [.live (.box 52 [.d (dsl false false kU8 B), .d (.val (.int .i64 ((a : Nat) : Int))), .d (.val (.int .i64 e))])]⟩ _ _
  refine T.seq ?_
  refine xR [] (by kernel_rfl) (by kernel_rfl) ?_
  refine nT ?_
  refine T.seq ?_
  refine T.seq ?_
  refine xR [] (by kernel_rfl) (by kernel_rfl) ?_
  refine nT ?_
  by_cases hq1 : e ≠ 0
  · have hr := rf_e (B := B) (a := a) hq1 1 (truthE ((B.drop a).take 1))
    refine T.condT (by kernel_rfl) (decide_eq_true hq1) ?_
    refine T.seq ?_
    refine xR [] (by kernel_rfl) (by kernel_rfl) ?_
    refine nT ?_
    refine T.ret ?_
    refine rT ?_
    exact tE (.inl rfl) [.t 2 (.one (.d (.val (.bool false))))] ⟨⟨rfl, by kernel_rfl⟩, trivial⟩ [0] (by have e1 : ((rdB (B.drop a) e) : Bool) = false := (by (rw [rdB_no hr.1])); have hE := congrArg (fun (q1 : Bool) => (dv (.bool q1) : AV)) e1; exact hE) rfl rfl rfl rfl rfl ⟨⟨rfl, (by have e1 : (((a : Nat) : Int) : Int) = ((rfA B a e 1 (truthE ((B.drop a).take 1)) : Nat) : Int) := (by (rw [rfA_no hr.1])); have e2 : (e : Int) = (rdE (B.drop a) e 1 (truthE ((B.drop a).take 1))) := (by exact hr.2.symm); have hE := congr (congrArg (fun (q1 : Int) (q2 : Int) => (.live (.box 52 [.d (dsl false false kU8 B), .d (.val (.int .i64 q1)), .d (.val (.int .i64 q2))]) : HS)) e1) e2; exact Eq.trans (by kernel_rfl) hE)⟩, trivial⟩
  · refine T.condF (by kernel_rfl) (decide_eq_false hq1) ?_
    refine T.skip ?_
    refine nT ?_
    refine T.seq ?_
    refine xR [hR 1 rfl rfl (r_call (ref01_number B a e 1 (by assumption) (by assumption) (by omega)) Try.func95 rfl (by decide) [0] [] (l := [(.tmp 11, pv 0 0), (.const (.int .i64 1), dv (.int .i64 1))]) [] rfl 1 1 rfl rfl rfl rfl rfl rfl rfl rfl rfl ⟨.inl ⟨rfl, rfl⟩, ⟨.inl ⟨rfl, rfl⟩, trivial⟩⟩ rfl (fun b hb => by cases hb) (.inl rfl) (lt_of rfl) ⟨rfl, trivial⟩)] (by kernel_rfl) (by kernel_rfl) ?_
    refine nT ?_
    refine T.seq ?_
    refine T.seq ?_
    refine xR [] (by kernel_rfl) (by kernel_rfl) ?_
    refine nT ?_
    by_cases hq2 : a + 1 ≤ B.length
    · refine T.condF (by kernel_rfl) (congrArg Bool.not (decide_eq_true hq2)) ?_
      refine T.skip ?_
      refine nT ?_
      refine T.seq ?_
      refine T.seq ?_
      refine xR [] (by kernel_rfl) (by kernel_rfl) ?_
      refine nT ?_
      by_cases hq3 : ((rfN B a 1 : Nat) : Int) > 1
      · have hr := rf_m (n := 1) (k := 1) (c := 12) (m := (truthE ((B.drop a).take 1))) rfl (by assumption) (by assumption) (by rw [truth_of (by assumption), if_pos (by assumption)]) (by decide)
        refine T.condT (by kernel_rfl) (decide_eq_true hq3) ?_
        refine T.seq ?_
        refine xR [] (by kernel_rfl) (by kernel_rfl) ?_
        refine nT ?_
        refine T.seq ?_
        refine xR [] (by kernel_rfl) (by kernel_rfl) ?_
        refine nT ?_
        refine T.ret ?_
        refine rT ?_
        exact tE (.inl rfl) [.t 2 (.one (.d (.val (.bool false))))] ⟨⟨rfl, by kernel_rfl⟩, trivial⟩ [0] (by have e1 : ((rdB (B.drop a) e) : Bool) = false := (by (rw [rdB_no hr.1])); have hE := congrArg (fun (q1 : Bool) => (dv (.bool q1) : AV)) e1; exact hE) rfl rfl rfl rfl rfl ⟨⟨rfl, (by have e1 : (((a : Nat) : Int) : Int) = ((rfA B a e 1 (truthE ((B.drop a).take 1)) : Nat) : Int) := (by (rw [rfA_no hr.1])); have e2 : (12 : Int) = (rdE (B.drop a) e 1 (truthE ((B.drop a).take 1))) := (by exact hr.2.symm); have hE := congr (congrArg (fun (q1 : Int) (q2 : Int) => (.live (.box 52 [.d (dsl false false kU8 B), .d (.val (.int .i64 q1)), .d (.val (.int .i64 q2))]) : HS)) e1) e2; exact Eq.trans (by kernel_rfl) hE)⟩, trivial⟩
      · have hr := rf_ok (n := 1) (k := 1) (m := (truthE ((B.drop a).take 1))) rfl (by assumption) (by assumption) (by rw [truth_of (by assumption), if_neg (by assumption)])
        refine T.condF (by kernel_rfl) (decide_eq_false hq3) ?_
        refine T.skip ?_
        refine nT ?_
        refine T.seq ?_
        refine xR [hR 4 rfl rfl (r_bin (u1 := .int .i64 ((a : Nat) : Int)) (u2 := .int .i64 1) (v := .int .i64 ((a + 1 : Nat) : Int)) (b_add (by rw [IntKind.wrap_i64]; omega)) (lt_of rfl) ⟨rfl, trivial⟩)] (by kernel_rfl) (by kernel_rfl) ?_
        refine nT ?_
        refine T.seq ?_
        refine xR [] (by kernel_rfl) (by kernel_rfl) ?_
        refine nT ?_
        refine T.ret ?_
        exact tE (.inl rfl) [.t 2 (.one (.d (.val (.bool (decide (((rfN B a 1 : Nat) : Int) = 1))))))] ⟨⟨rfl, by kernel_rfl⟩, trivial⟩ [0] (by have e1 : ((rdB (B.drop a) e) : Bool) = (decide (((rfN B a 1 : Nat) : Int) = 1)) := (by (rw [rdB_ok hr.1, bool_of (by assumption)])); have hE := congrArg (fun (q1 : Bool) => (dv (.bool q1) : AV)) e1; exact hE) rfl rfl rfl rfl rfl ⟨⟨rfl, (by have e1 : (((a + 1 : Nat) : Int) : Int) = ((rfA B a e 1 (truthE ((B.drop a).take 1)) : Nat) : Int) := (by (rw [rfA_ok hr.1]; rfl)); have e2 : (e : Int) = (rdE (B.drop a) e 1 (truthE ((B.drop a).take 1))) := (by (rw [hr.2]; omega)); have hE := congr (congrArg (fun (q1 : Int) (q2 : Int) => (.live (.box 52 [.d (dsl false false kU8 B), .d (.val (.int .i64 q1)), .d (.val (.int .i64 q2))]) : HS)) e1) e2; exact Eq.trans (by kernel_rfl) hE)⟩, trivial⟩
    · have hr := rf_short (n := 1) (k := 1) rfl (by assumption) hq2 ha (truthE ((B.drop a).take 1))
      refine T.condT (by kernel_rfl) (congrArg Bool.not (decide_eq_false hq2)) ?_
      refine T.seq ?_
      refine xR [] (by kernel_rfl) (by kernel_rfl) ?_
      refine nT ?_
      refine T.seq ?_
      refine xR [] (by kernel_rfl) (by kernel_rfl) ?_
      refine nT ?_
      refine T.ret ?_
      refine rT ?_
      exact tE (.inl rfl) [.t 2 (.one (.d (.val (.bool false))))] ⟨⟨rfl, by kernel_rfl⟩, trivial⟩ [0] (by have e1 : ((rdB (B.drop a) e) : Bool) = false := (by (rw [rdB_no hr.1])); have hE := congrArg (fun (q1 : Bool) => (dv (.bool q1) : AV)) e1; exact hE) rfl rfl rfl rfl rfl ⟨⟨rfl, (by have e1 : (((a : Nat) : Int) : Int) = ((rfA B a e 1 (truthE ((B.drop a).take 1)) : Nat) : Int) := (by (rw [rfA_no hr.1])); have e2 : (10 : Int) = (rdE (B.drop a) e 1 (truthE ((B.drop a).take 1))) := (by exact hr.2.symm); have hE := congr (congrArg (fun (q1 : Int) (q2 : Int) => (.live (.box 52 [.d (dsl false false kU8 B), .d (.val (.int .i64 q1)), .d (.val (.int .i64 q2))]) : HS)) e1) e2; exact Eq.trans (by kernel_rfl) hE)⟩, trivial⟩
end Go.Proofs.Ytlabmehgcfgigaa.Q
