import Derived.Test.YtdclfhahcfefeaaC11n17
namespace Go.Proofs.Ytdclfhahcfefeaa.Q
open Go Go.RowKit
set_option linter.unusedVariables false
set_option linter.unusedSimpArgs false
set_option maxRecDepth 100000
set_option maxHeartbeats 4000000
theorem wide_5 : Wide Try.prog 5 none := ⟨_, Try.underlying5, (fun _ h => by cases h), (fun _ _ h => by cases h)⟩
-- quaestor/wire.number
theorem wire_number (tb : Bool) (nb : Bool) (b : List UInt8) (hb : b.length ≤ 8) : Holds Try.prog 75 ⟨[slV tb nb kU8 b], [], dv (.int .u64 ((numL b : Nat) : Int)), []⟩ := by
  refine Holds.of Try.func75 rfl (N := 18) Try.ntmps75 rfl fun w0 B0 S0 U0 => ?_
  show T _ (mkBase 18 0 w0 S0 U0 B0) ⟨[slV tb nb kU8 b], []⟩ _ _
  refine T.seq ?_
  refine xR [] (by kernel_rfl) (by kernel_rfl) ?_
  refine nT ?_
  refine T.seq ?_
  refine T.seq ?_
  refine xR [] (by kernel_rfl) (by kernel_rfl) ?_
  refine nT ?_
  refine T.block ?_
  refine T.loop (ι := Nat) (fun (k : Nat) => ⟨[slV tb nb kU8 b, aa, dv (.int .u64 ((numL (b.take k) : Nat) : Int)), aa, aa, slV tb nb kU8 b, dv (.int .i64 ((b.length : Nat) : Int)), dv (.int .i64 ((k : Nat) : Int))], []⟩) (fun (k : Nat) => (k ≤ b.length)) (fun (k : Nat) => b.length - k) (0) (Nat.zero_le _) (fun _ _ hG => Gs.into2 (s' := ⟨[slV tb nb kU8 b, aa, dv (.int .u64 ((numL (b.take 0) : Nat) : Int)), aa, aa, slV tb nb kU8 b, dv (.int .i64 ((b.length : Nat) : Int)), dv (.int .i64 0)], []⟩) [] (bm 8 229) (t1 := [slV tb nb kU8 b, aa, dv (.int .u64 ((numL (b.take 0) : Nat) : Int)), aa, aa, slV tb nb kU8 b, dv (.int .i64 ((b.length : Nat) : Int)), dv (.int .i64 0)]) (t2 := [slV tb nb kU8 b, aa, dv (.int .u64 0), aa, aa, slV tb nb kU8 b, dv (.int .i64 ((b.length : Nat) : Int)), dv (.int .i64 0)]) (h1 := []) (by have e1 : (((numL (b.take 0) : Nat) : Int) : Int) = 0 := (by rfl); have hE := congrArg (fun (q1 : Int) => ([slV tb nb kU8 b, aa, dv (.int .u64 q1), aa, aa, slV tb nb kU8 b, dv (.int .i64 ((b.length : Nat) : Int)), dv (.int .i64 0)] : List AV)) e1; exact hE) rfl (by kernel_rfl) (by kernel_rfl) (by kernel_rfl) (by kernel_rfl) (by kernel_rfl) (by kernel_rfl) (by kernel_rfl) (by kernel_rfl) (by kernel_rfl) (by kernel_rfl) (by kernel_rfl) hG) ?_
  rintro k hk
  show T _ _ ⟨[slV tb nb kU8 b, aa, dv (.int .u64 ((numL (b.take k) : Nat) : Int)), aa, aa, slV tb nb kU8 b, dv (.int .i64 ((b.length : Nat) : Int)), dv (.int .i64 ((k : Nat) : Int))], []⟩ _ _
  replace hk : k ≤ b.length := hk
  have hk8 : numL (b.take k) < 18446744073709551616 := numL_lt8 (by simp only [List.length_take]; omega)
  refine T.seq ?_
  refine xR [] (by kernel_rfl) (by kernel_rfl) ?_
  refine nT ?_
  refine T.seq ?_
  by_cases hq1 : ((k : Nat) : Int) < ((b.length : Nat) : Int)
  · have hk7 : numL (b.take k) < 72057594037927936 := numL_lt7 (by simp only [List.length_take]; omega); have hbt := UInt8.toNat_lt (b.getD k 0)
    refine T.condT (by kernel_rfl) (decide_eq_true hq1) ?_
    refine T.skip ?_
    refine nT ?_
    refine T.seq ?_
    refine T.block ?_
    refine T.seq ?_
    refine xR [hR 0 rfl rfl (q_index tb nb kU8 b k (k := .i64) (i := ((k : Nat) : Int)) Try.underlying58 iat_5 rfl rfl (by first | assumption | omega | (unfold maxLen; omega) | (simp [maxLen, -List.getD_eq_getElem?_getD] <;> omega) | decide) (lt_of rfl) trivial)] (by kernel_rfl) (by kernel_rfl) ?_
    refine nT ?_
    refine xR [hR 1 rfl rfl (r_bin (u1 := .int .u64 ((numL (b.take k) : Nat) : Int)) (u2 := .int .u64 8) (v := .int .u64 (((numL (b.take k)) * 2 ^ 8 : Nat) : Int)) (b_shlN (n := 8) rfl (Nat.le_trans (by first | assumption | omega | (unfold maxLen; omega) | (simp [maxLen, -List.getD_eq_getElem?_getD] <;> omega) | decide) (by decide : 64 ≤ _)) (by first | rfl | (rw [IntKind.wrap_u64]; omega))) (lt_of rfl) ⟨rfl, trivial⟩),
      hR 3 rfl rfl (r_conv (u := .int .u8 (((b.getD k 0).toNat : Nat) : Int)) (v := .int .u64 (((b.getD k 0).toNat : Nat) : Int)) (c_int Try.underlying5 Try.underlying113 (by first | rfl | (rw [IntKind.wrap_u64]; omega))) (lt_of rfl) trivial),
      hR 4 rfl rfl (r_bin (u1 := .int .u64 (((numL (b.take k)) * 2 ^ 8 : Nat) : Int)) (u2 := .int .u64 (((b.getD k 0).toNat : Nat) : Int)) (v := .int .u64 ((((numL (b.take k)) * 2 ^ 8) ||| (b.getD k 0).toNat : Nat) : Int)) (b_orU (by first | assumption | omega | (unfold maxLen; omega) | (simp [maxLen, -List.getD_eq_getElem?_getD] <;> omega) | decide) (by first | assumption | omega | (unfold maxLen; omega) | (simp [maxLen, -List.getD_eq_getElem?_getD] <;> omega) | decide)) (lt_of rfl) trivial)] (by kernel_rfl) (by kernel_rfl) ?_
    refine nB ?_
    refine nT ?_
    refine xR [hR 0 rfl rfl (r_bin (u1 := .int .i64 ((k : Nat) : Int)) (u2 := .int .i64 1) (v := .int .i64 ((k + 1 : Nat) : Int)) (b_add (by rw [IntKind.wrap_i64]; omega)) (lt_of rfl) ⟨rfl, trivial⟩)] (by kernel_rfl) (by kernel_rfl) ?_
    refine nL (k + 1) (show (k + 1) ≤ b.length from (by omega)) (show (b.length - (k + 1) : Nat) < b.length - k from (by omega)) (fun _ _ hG => Gs.into2 (s' := ⟨[slV tb nb kU8 b, aa, dv (.int .u64 ((numL (b.take (k + 1)) : Nat) : Int)), aa, aa, slV tb nb kU8 b, dv (.int .i64 ((b.length : Nat) : Int)), dv (.int .i64 ((k + 1 : Nat) : Int))], []⟩) [] (bm 8 229) (t1 := [slV tb nb kU8 b, aa, dv (.int .u64 ((numL (b.take (k + 1)) : Nat) : Int)), aa, aa, slV tb nb kU8 b, dv (.int .i64 ((b.length : Nat) : Int)), dv (.int .i64 ((k + 1 : Nat) : Int))]) (t2 := [slV tb nb kU8 b, aa, dv (.int .u64 ((((numL (b.take k)) * 2 ^ 8) ||| (b.getD k 0).toNat : Nat) : Int)), aa, aa, slV tb nb kU8 b, dv (.int .i64 ((b.length : Nat) : Int)), dv (.int .i64 ((k + 1 : Nat) : Int))]) (h1 := []) (by have e1 : (((numL (b.take (k + 1)) : Nat) : Int) : Int) = ((((numL (b.take k)) * 2 ^ 8) ||| (b.getD k 0).toNat : Nat) : Int) := (by first | rfl | (rw [numL_take (by omega)])); have hE := congrArg (fun (q1 : Int) => ([slV tb nb kU8 b, aa, dv (.int .u64 q1), aa, aa, slV tb nb kU8 b, dv (.int .i64 ((b.length : Nat) : Int)), dv (.int .i64 ((k + 1 : Nat) : Int))] : List AV)) e1; exact hE) rfl (by kernel_rfl) (by kernel_rfl) (by kernel_rfl) (by kernel_rfl) (by kernel_rfl) (by kernel_rfl) (by kernel_rfl) (by kernel_rfl) (by kernel_rfl) (by kernel_rfl) (by kernel_rfl) hG)
  · refine T.condF (by kernel_rfl) (decide_eq_false hq1) ?_
    refine T.exit ?_
    refine xT ?_
    refine xT ?_
    refine xH ?_
    refine nT ?_
    refine T.seq ?_
    refine xR [] (by kernel_rfl) (by kernel_rfl) ?_
    refine nT ?_
    refine T.ret ?_
    exact tE (.inl rfl) [.t 2 (.one (.d (.val (.int .u64 ((numL (b.take k) : Nat) : Int)))))] ⟨⟨rfl, by kernel_rfl⟩, trivial⟩ [] (by have e1 : (((numL b : Nat) : Int) : Int) = ((numL (b.take k) : Nat) : Int) := (by first | rfl | (rw [List.take_of_length_le (by omega)])); have hE := congrArg (fun (q1 : Int) => (dv (.int .u64 q1) : AV)) e1; exact hE) rfl rfl rfl rfl rfl trivial
end Go.Proofs.Ytdclfhahcfefeaa.Q
namespace Go.Proofs.Ytdclfhahcfefeaa.Q
open Go Go.RowKit
set_option linter.unusedVariables false
set_option linter.unusedSimpArgs false
set_option maxRecDepth 100000
set_option maxHeartbeats 4000000
-- quaestor/wire.any
theorem wire_any (tb : Bool) (nb : Bool) (b : List UInt8) : Holds Try.prog 74 ⟨[slV tb nb kU8 b], [], dv (.int .i64 0), []⟩ := by
  refine Holds.of Try.func74 rfl (N := 3) Try.ntmps74 rfl fun w0 B0 S0 U0 => ?_
  show T _ (mkBase 3 0 w0 S0 U0 B0) ⟨[slV tb nb kU8 b], []⟩ _ _
  refine T.seq ?_
  refine xR [] (by kernel_rfl) (by kernel_rfl) ?_
  refine nT ?_
  refine T.seq ?_
  refine xR [] (by kernel_rfl) (by kernel_rfl) ?_
  refine nT ?_
  refine T.ret ?_
  exact tE (.inl rfl) [.t 2 (.one (.d (.val (.int .i64 0))))] ⟨⟨rfl, by kernel_rfl⟩, trivial⟩ [] rfl rfl rfl rfl rfl rfl trivial
end Go.Proofs.Ytdclfhahcfefeaa.Q
namespace Go.Proofs.Ytdclfhahcfefeaa.Q
open Go Go.RowKit
set_option linter.unusedVariables false
set_option linter.unusedSimpArgs false
set_option maxRecDepth 100000
set_option maxHeartbeats 4000000
-- (quaestor/wire.limit).may
theorem wire_may (most : Int) (tb : Bool) (nb : Bool) (b : List UInt8) (hb : b.length ≤ 4) : Holds Try.prog 88 ⟨[dv (.int .i64 most), slV tb nb kU8 b], [], dv (.int .i64 (limE most b)), []⟩ := by
  refine Holds.of Try.func88 rfl (N := 11) Try.ntmps88 rfl fun w0 B0 S0 U0 => ?_
  show T _ (mkBase 11 0 w0 S0 U0 B0) ⟨[dv (.int .i64 most), slV tb nb kU8 b], []⟩ _ _
  have hnb := numL_lt4 hb
  refine T.seq ?_
  refine xR [] (by kernel_rfl) (by kernel_rfl) ?_
  refine nT ?_
  refine T.seq ?_
  refine T.seq ?_
  refine xR [hR 1 rfl rfl (r_call (wire_number tb nb b (by first | assumption | omega | (unfold maxLen; omega) | (simp [maxLen, -List.getD_eq_getElem?_getD] <;> omega) | decide)) Try.func75 rfl (by decide) [] [] (l := [(.tmp 5, slV tb nb kU8 b)]) [] rfl 0 0 rfl rfl rfl rfl rfl rfl rfl rfl rfl ⟨.inl ⟨rfl, rfl⟩, trivial⟩ rfl (fun b hb => by cases hb) (.inl rfl) (lt_of rfl) trivial),
    hR 2 rfl rfl (r_conv (u := .int .u64 ((numL b : Nat) : Int)) (v := .int .i64 ((numL b : Nat) : Int)) (c_int Try.underlying113 Try.underlying3 (by rw [IntKind.wrap_i64]; omega)) (lt_of rfl) trivial),
    hR 4 rfl rfl (r_max (k := .i64) (a := most) (b := 0) (lt_of rfl) ⟨rfl, trivial⟩)] (by kernel_rfl) (by kernel_rfl) ?_
  refine nT ?_
  by_cases hq1 : ((numL b : Nat) : Int) > (max most 0)
  · refine T.condT (by kernel_rfl) (decide_eq_true hq1) ?_
    refine T.seq ?_
    refine xR [] (by kernel_rfl) (by kernel_rfl) ?_
    refine nT ?_
    refine T.ret ?_
    refine rT ?_
    exact tE (.inl rfl) [.t 4 (.one (.d (.val (.int .i64 11))))] ⟨⟨rfl, by kernel_rfl⟩, trivial⟩ [] (by have e1 : (limE most b : Int) = 11 := (by first | rfl | (simp only [limE]; first | rw [if_pos (by assumption)] | rw [if_neg (by assumption)])); have hE := congrArg (fun (q1 : Int) => (dv (.int .i64 q1) : AV)) e1; exact hE) rfl rfl rfl rfl rfl trivial
  · refine T.condF (by kernel_rfl) (decide_eq_false hq1) ?_
    refine T.skip ?_
    refine nT ?_
    refine T.seq ?_
    refine xR [] (by kernel_rfl) (by kernel_rfl) ?_
    refine nT ?_
    refine T.ret ?_
    exact tE (.inl rfl) [.t 4 (.one (.d (.val (.int .i64 0))))] ⟨⟨rfl, by kernel_rfl⟩, trivial⟩ [] (by have e1 : (limE most b : Int) = 0 := (by first | rfl | (simp only [limE]; first | rw [if_pos (by assumption)] | rw [if_neg (by assumption)])); have hE := congrArg (fun (q1 : Int) => (dv (.int .i64 q1) : AV)) e1; exact hE) rfl rfl rfl rfl rfl trivial
end Go.Proofs.Ytdclfhahcfefeaa.Q
namespace Go.Proofs.Ytdclfhahcfefeaa.Q
open Go Go.RowKit
set_option linter.unusedVariables false
set_option linter.unusedSimpArgs false
set_option maxRecDepth 100000
set_option maxHeartbeats 4000000
theorem iat_115 : Try.prog.info? 115 = some Try.t115 := by kernel_rfl
theorem zero_115 : Zero Try.prog 115 [.slice none 0 0, .int .i64 0] := ⟨_, _, iat_115, rfl, rfl⟩
theorem places_115 : Places Try.prog 115 [(0, 1), (1, 1)] := ⟨_, Try.underlying115, ⟨⟨rfl, _, iat_58, rfl⟩, ⟨⟨rfl, _, iat_43, rfl⟩, trivial⟩⟩⟩
-- quaestor/wire.New
theorem wire_New (tb : Bool) (nb : Bool) (b : List UInt8) (hb : b.length ≤ 140737488355328) : Holds Try.prog 48 ⟨[slV tb nb kU8 b], [], pv 0 0, [.live (.box 115 [.d (dsl false false kU8 b), .d (.val (.int .i64 0))])]⟩ := by
  refine Holds.of Try.func48 rfl (N := 7) Try.ntmps48 rfl fun w0 B0 S0 U0 => ?_
  show T _ (mkBase 7 0 w0 S0 U0 B0) ⟨[slV tb nb kU8 b], []⟩ _ _
  refine T.seq ?_
  refine xR [] (by kernel_rfl) (by kernel_rfl) ?_
  refine nT ?_
  refine T.seq ?_
  refine xR [hR 1 rfl rfl (r_call (clone_u8 tb nb b (by first | assumption | omega | (unfold maxLen; omega) | (simp [maxLen, -List.getD_eq_getElem?_getD] <;> omega) | decide)) Try.func67 rfl (by decide) [0] [] (l := [(.tmp 3, slV tb nb kU8 b)]) [] rfl 0 1 rfl rfl rfl rfl rfl rfl rfl rfl rfl ⟨.inl ⟨rfl, rfl⟩, trivial⟩ rfl (fun b hb => by cases hb) (.inl rfl) (lt_of rfl) trivial)] (by kernel_rfl) (by kernel_rfl) ?_
  refine nT ?_
  refine T.ret ?_
  refine Ends.turn (s' := ⟨[slV tb nb kU8 b, aa, pv 1 0], [.live (arrK 5 kU8 b), .live (.box 115 [.own 0 kU8.sz 0 b.length, .d (.val (.int .i64 0))])]⟩) (fun _ _ hG => Gs.norm (by kernel_rfl) hG) ?_
  refine Ends.turn (s' := ⟨[slV tb nb kU8 b, aa, pv 1 0], [.dead, .live (.box 115 [.d (dsl false false kU8 b), .d (.val (.int .i64 0))])]⟩) (fun _ _ hG => Gs.freeze (s := ⟨[slV tb nb kU8 b, aa, pv 1 0], [.live (arrK 5 kU8 b), .live (.box 115 [.own 0 kU8.sz 0 b.length, .d (.val (.int .i64 0))])]⟩) 0 (el := elOf kU8 b) (sz := kU8.sz) (n := b.length) rfl ⟨(.inl rfl), ⟨(.inl rfl), ⟨(.inl rfl), trivial⟩⟩⟩ ⟨(.inl ⟨rfl, rfl⟩), ⟨(.inr ⟨by decide, .inr ⟨rfl, ⟨(.inr ⟨rfl, rfl, rfl, (fun h => by cases h), rfl, rfl, by omega, fun i j _ => by rw [Nat.zero_add]⟩), ⟨(.inl rfl), trivial⟩⟩⟩⟩), trivial⟩⟩ hG) ?_
  exact tE (.inl rfl) [.t 2 (.one (.ptr 1 0))] ⟨⟨rfl, by kernel_rfl⟩, trivial⟩ [1] rfl rfl rfl rfl rfl rfl ⟨⟨rfl, (by kernel_rfl)⟩, trivial⟩
end Go.Proofs.Ytdclfhahcfefeaa.Q
namespace Go.Proofs.Ytdclfhahcfefeaa.Q
open Go Go.RowKit
set_option linter.unusedVariables false
set_option linter.unusedSimpArgs false
set_option maxRecDepth 100000
set_option maxHeartbeats 4000000
theorem fld_115_1 : FieldAt Try.prog 115 1 1 := ⟨_, _, _, Try.underlying115, rfl, iat_43, by decide, rfl⟩
theorem fld_115_0 : FieldAt Try.prog 115 0 0 := ⟨_, _, _, Try.underlying115, rfl, iat_58, by decide, rfl⟩
theorem cells_43 : Cells Try.prog 43 1 := ⟨_, iat_43, rfl⟩
-- (*quaestor/wire.Reader).take
theorem take_any_ok (rest : List UInt8) (e : Int) (n : Int) (hr : rest.length ≤ 140737488355328) (hn : 0 ≤ n) (hc : okT rest e n 0) : Holds Try.prog 73 ⟨[pv 0 0, dv (.int .i64 n), dv (.func (.func 74) #[] #[])], [.box 115 [.d (dsl false false kU8 rest), .d (.val (.int .i64 e))]], slV false false kU8 (rest.take n.toNat), [.live (.box 115 [.d (dsl false false kU8 (rest.drop n.toNat)), .d (.val (.int .i64 0))])]⟩ := by
  refine Holds.of Try.func73 rfl (N := 54) Try.ntmps73 rfl fun w0 B0 S0 U0 => ?_
  show T _ (mkBase 54 1 w0 S0 U0 B0) ⟨[pv 0 0, dv (.int .i64 n), dv (.func (.func 74) #[] #[])], [.live (.box 115 [.d (dsl false false kU8 rest), .d (.val (.int .i64 e))])]⟩ _ _
  have htl : (rest.take n.toNat).length ≤ n.toNat := List.length_take_le _ _
  obtain ⟨hc1, hc2, hc3⟩ := hc
  have htm : (rest.take n.toNat).length = n.toNat := by rw [List.length_take]; omega
  refine T.seq ?_
  refine xR [] (by kernel_rfl) (by kernel_rfl) ?_
  refine nT ?_
  refine T.seq ?_
  refine T.seq ?_
  refine xR [hY 3 (b := false) (w := false) rfl,
    hY 4 (b := false) (w := false) rfl,
    hY 5 (b := false) (w := false) rfl,
    hY 6 (b := false) (w := false) rfl,
    hY 7 (b := false) (w := false) rfl,
    hP 8 (b := false) (w := false) rfl] (by kernel_rfl) (by kernel_rfl) ?_
  refine nT ?_
  by_cases hq1 : e ≠ 0
  · exact absurd hc1 hq1
  · refine T.condF (by kernel_rfl) (decide_eq_false hq1) ?_
    refine T.skip ?_
    refine nT ?_
    refine T.seq ?_
    refine T.seq ?_
    refine xR [] (by kernel_rfl) (by kernel_rfl) ?_
    refine nT ?_
    by_cases hq2 : n > ((rest.length : Nat) : Int)
    · exact absurd hc2 (by omega)
    · refine T.condF (by kernel_rfl) (decide_eq_false hq2) ?_
      refine T.skip ?_
      refine nT ?_
      refine T.seq ?_
      refine xR [hR 5 rfl rfl (q_slice false false kU8 rest (rest.take (n).toNat) 0 (n).toNat (lo := none) (hi := some (.tmp 31, n)) Try.underlying58 iat_5 rfl rfl rfl rfl (by omega) (by first | assumption | omega | (unfold maxLen; omega) | (simp [maxLen, -List.getD_eq_getElem?_getD] <;> omega) | decide) (by first | assumption | omega | (unfold maxLen; omega) | (simp [maxLen, -List.getD_eq_getElem?_getD] <;> omega) | decide) rfl (lt_of rfl) trivial)] (by kernel_rfl) (by kernel_rfl) ?_
      refine nT ?_
      refine T.seq ?_
      refine T.seq ?_
      refine xR [hR 3 rfl rfl (r_callV (fs := #[]) (cs := #[]) (wire_any false false (rest.take (n).toNat) ) Try.func74 rfl (by decide) [] [] (l := [(.tmp 35, slV false false kU8 (rest.take (n).toNat))]) [] rfl 0 0 rfl rfl rfl rfl rfl rfl rfl rfl rfl rfl rfl ⟨.inl ⟨rfl, rfl⟩, trivial⟩ rfl (fun b hb => by cases hb) (.inl rfl) (lt_of rfl) trivial)] (by kernel_rfl) (by kernel_rfl) ?_
      refine nT ?_
      refine T.seq ?_
      refine xR [] (by kernel_rfl) (by kernel_rfl) ?_
      refine nT ?_
      refine T.condF (b := false) (by kernel_rfl) rfl ?_
      refine T.skip ?_
      refine nT ?_
      refine T.seq ?_
      refine xR [hR 6 rfl rfl (q_slice false false kU8 rest (rest.drop (n).toNat) (n).toNat rest.length (lo := some (.tmp 49, n)) (hi := none) Try.underlying58 iat_5 rfl rfl rfl (by omega) rfl (by first | assumption | omega | (unfold maxLen; omega) | (simp [maxLen, -List.getD_eq_getElem?_getD] <;> omega) | decide) (by first | assumption | omega | (unfold maxLen; omega) | (simp [maxLen, -List.getD_eq_getElem?_getD] <;> omega) | decide) (by rw [List.take_length]) (lt_of rfl) trivial)] (by kernel_rfl) (by kernel_rfl) ?_
      refine nT ?_
      refine T.seq ?_
      refine xR [] (by kernel_rfl) (by kernel_rfl) ?_
      refine nT ?_
      refine T.ret ?_
      exact tE (.inl rfl) [.t 6 (.one (.d (dsl false false kU8 (rest.take (n).toNat))))] ⟨⟨rfl, by kernel_rfl⟩, trivial⟩ [0] (by have e1 : ((rest.take n.toNat) : List UInt8) = (rest.take (n).toNat) := (by first | rfl | exact hc3 | exact hc3.symm); have hE := congrArg (fun (q1 : List UInt8) => (slV false false kU8 q1 : AV)) e1; exact hE) rfl rfl rfl rfl rfl ⟨⟨rfl, (by have e1 : ((rest.drop (n).toNat) : List UInt8) = (rest.drop n.toNat) := (by first | rfl | exact hc3 | exact hc3.symm); have hE := congrArg (fun (q1 : List UInt8) => (.live (.box 115 [.d (dsl false false kU8 q1), .d (.val (.int .i64 0))]) : HS)) e1; exact Eq.trans (by kernel_rfl) hE)⟩, trivial⟩
end Go.Proofs.Ytdclfhahcfefeaa.Q
namespace Go.Proofs.Ytdclfhahcfefeaa.Q
open Go Go.RowKit
set_option linter.unusedVariables false
set_option linter.unusedSimpArgs false
set_option maxRecDepth 100000
set_option maxHeartbeats 4000000
-- (*quaestor/wire.Reader).take
theorem take_any_no (rest : List UInt8) (e : Int) (n : Int) (hr : rest.length ≤ 140737488355328) (hn : 0 ≤ n) (hc : ¬ okT rest e n 0) : Holds Try.prog 73 ⟨[pv 0 0, dv (.int .i64 n), dv (.func (.func 74) #[] #[])], [.box 115 [.d (dsl false false kU8 rest), .d (.val (.int .i64 e))]], dv (.slice none 0 0), [.live (.box 115 [.d (dsl false false kU8 rest), .d (.val (.int .i64 (rdE rest e n 0)))])]⟩ := by
  refine Holds.of Try.func73 rfl (N := 54) Try.ntmps73 rfl fun w0 B0 S0 U0 => ?_
  show T _ (mkBase 54 1 w0 S0 U0 B0) ⟨[pv 0 0, dv (.int .i64 n), dv (.func (.func 74) #[] #[])], [.live (.box 115 [.d (dsl false false kU8 rest), .d (.val (.int .i64 e))])]⟩ _ _
  have htl : (rest.take n.toNat).length ≤ n.toNat := List.length_take_le _ _
  refine T.seq ?_
  refine xR [] (by kernel_rfl) (by kernel_rfl) ?_
  refine nT ?_
  refine T.seq ?_
  refine T.seq ?_
  refine xR [hY 3 (b := false) (w := false) rfl,
    hY 4 (b := false) (w := false) rfl,
    hY 5 (b := false) (w := false) rfl,
    hY 6 (b := false) (w := false) rfl,
    hY 7 (b := false) (w := false) rfl,
    hP 8 (b := false) (w := false) rfl] (by kernel_rfl) (by kernel_rfl) ?_
  refine nT ?_
  by_cases hq1 : e ≠ 0
  · refine T.condT (by kernel_rfl) (decide_eq_true hq1) ?_
    refine T.seq ?_
    refine xR [] (by kernel_rfl) (by kernel_rfl) ?_
    refine nT ?_
    refine T.ret ?_
    refine rT ?_
    exact tE (.inl rfl) [.t 6 (.one (.d (.val (.slice none 0 0))))] ⟨⟨rfl, by kernel_rfl⟩, trivial⟩ [0] rfl rfl rfl rfl rfl rfl ⟨⟨rfl, (by have e1 : (e : Int) = (rdE rest e n 0) := (by first | rfl | (simp only [rdE]; first | rw [if_pos (by assumption)] | (rw [if_neg (by assumption)]; first | rw [if_pos (by assumption)] | rw [if_neg (by assumption)]))); have hE := congrArg (fun (q1 : Int) => (.live (.box 115 [.d (dsl false false kU8 rest), .d (.val (.int .i64 q1))]) : HS)) e1; exact Eq.trans (by kernel_rfl) hE)⟩, trivial⟩
  · refine T.condF (by kernel_rfl) (decide_eq_false hq1) ?_
    refine T.skip ?_
    refine nT ?_
    refine T.seq ?_
    refine T.seq ?_
    refine xR [] (by kernel_rfl) (by kernel_rfl) ?_
    refine nT ?_
    by_cases hq2 : n > ((rest.length : Nat) : Int)
    · refine T.condT (by kernel_rfl) (decide_eq_true hq2) ?_
      refine T.seq ?_
      refine xR [] (by kernel_rfl) (by kernel_rfl) ?_
      refine nT ?_
      refine T.seq ?_
      refine xR [] (by kernel_rfl) (by kernel_rfl) ?_
      refine nT ?_
      refine T.ret ?_
      refine rT ?_
      exact tE (.inl rfl) [.t 6 (.one (.d (.val (.slice none 0 0))))] ⟨⟨rfl, by kernel_rfl⟩, trivial⟩ [0] rfl rfl rfl rfl rfl rfl ⟨⟨rfl, (by have e1 : (10 : Int) = (rdE rest e n 0) := (by first | rfl | (simp only [rdE]; first | rw [if_pos (by assumption)] | (rw [if_neg (by assumption)]; first | rw [if_pos (by assumption)] | rw [if_neg (by assumption)]))); have hE := congrArg (fun (q1 : Int) => (.live (.box 115 [.d (dsl false false kU8 rest), .d (.val (.int .i64 q1))]) : HS)) e1; exact Eq.trans (by kernel_rfl) hE)⟩, trivial⟩
    · exact absurd ⟨by omega, by omega, rfl⟩ hc
end Go.Proofs.Ytdclfhahcfefeaa.Q
namespace Go.Proofs.Ytdclfhahcfefeaa.Q
open Go Go.RowKit
set_option linter.unusedVariables false
set_option linter.unusedSimpArgs false
set_option maxRecDepth 100000
set_option maxHeartbeats 4000000
-- (*quaestor/wire.Reader).take
theorem take_limit_ok (rest : List UInt8) (e : Int) (n : Int) (most : Int) (hr : rest.length ≤ 140737488355328) (hn : n = 4) (hc : okT rest e n (limE most (rest.take n.toNat))) : Holds Try.prog 73 ⟨[pv 0 0, dv (.int .i64 n), dv (.func (.func 88) #[.int .i64 most] #[])], [.box 115 [.d (dsl false false kU8 rest), .d (.val (.int .i64 e))]], slV false false kU8 (rest.take n.toNat), [.live (.box 115 [.d (dsl false false kU8 (rest.drop n.toNat)), .d (.val (.int .i64 0))])]⟩ := by
  refine Holds.of Try.func73 rfl (N := 54) Try.ntmps73 rfl fun w0 B0 S0 U0 => ?_
  show T _ (mkBase 54 1 w0 S0 U0 B0) ⟨[pv 0 0, dv (.int .i64 n), dv (.func (.func 88) #[.int .i64 most] #[])], [.live (.box 115 [.d (dsl false false kU8 rest), .d (.val (.int .i64 e))])]⟩ _ _
  have htl : (rest.take n.toNat).length ≤ n.toNat := List.length_take_le _ _
  obtain ⟨hc1, hc2, hc3⟩ := hc
  have htm : (rest.take n.toNat).length = n.toNat := by rw [List.length_take]; omega
  refine T.seq ?_
  refine xR [] (by kernel_rfl) (by kernel_rfl) ?_
  refine nT ?_
  refine T.seq ?_
  refine T.seq ?_
  refine xR [hY 3 (b := false) (w := false) rfl,
    hY 4 (b := false) (w := false) rfl,
    hY 5 (b := false) (w := false) rfl,
    hY 6 (b := false) (w := false) rfl,
    hY 7 (b := false) (w := false) rfl,
    hP 8 (b := false) (w := false) rfl] (by kernel_rfl) (by kernel_rfl) ?_
  refine nT ?_
  by_cases hq1 : e ≠ 0
  · exact absurd hc1 hq1
  · refine T.condF (by kernel_rfl) (decide_eq_false hq1) ?_
    refine T.skip ?_
    refine nT ?_
    refine T.seq ?_
    refine T.seq ?_
    refine xR [] (by kernel_rfl) (by kernel_rfl) ?_
    refine nT ?_
    by_cases hq2 : n > ((rest.length : Nat) : Int)
    · exact absurd hc2 (by omega)
    · refine T.condF (by kernel_rfl) (decide_eq_false hq2) ?_
      refine T.skip ?_
      refine nT ?_
      refine T.seq ?_
      refine xR [hR 5 rfl rfl (q_slice false false kU8 rest (rest.take (n).toNat) 0 (n).toNat (lo := none) (hi := some (.tmp 31, n)) Try.underlying58 iat_5 rfl rfl rfl rfl (by omega) (by first | assumption | omega | (unfold maxLen; omega) | (simp [maxLen, -List.getD_eq_getElem?_getD] <;> omega) | decide) (by first | assumption | omega | (unfold maxLen; omega) | (simp [maxLen, -List.getD_eq_getElem?_getD] <;> omega) | decide) rfl (lt_of rfl) trivial)] (by kernel_rfl) (by kernel_rfl) ?_
      refine nT ?_
      refine T.seq ?_
      refine T.seq ?_
      refine xR [hR 3 rfl rfl (r_callV (fs := #[.int .i64 most]) (cs := #[]) (wire_may most false false (rest.take (n).toNat) (by first | assumption | omega | (unfold maxLen; omega) | (simp [maxLen, -List.getD_eq_getElem?_getD] <;> omega) | decide)) Try.func88 rfl (by decide) [] [] (l := [(.tmp 35, slV false false kU8 (rest.take (n).toNat))]) [] rfl 0 0 rfl rfl rfl rfl rfl rfl rfl rfl rfl rfl rfl ⟨.inl ⟨rfl, rfl⟩, ⟨.inl ⟨rfl, rfl⟩, trivial⟩⟩ rfl (fun b hb => by cases hb) (.inl rfl) (lt_of rfl) trivial)] (by kernel_rfl) (by kernel_rfl) ?_
      refine nT ?_
      refine T.seq ?_
      refine xR [] (by kernel_rfl) (by kernel_rfl) ?_
      refine nT ?_
      by_cases hq3 : (limE most (rest.take (n).toNat)) ≠ 0
      · exact absurd hc3 hq3
      · refine T.condF (by kernel_rfl) (decide_eq_false hq3) ?_
        refine T.skip ?_
        refine nT ?_
        refine T.seq ?_
        refine xR [hR 6 rfl rfl (q_slice false false kU8 rest (rest.drop (n).toNat) (n).toNat rest.length (lo := some (.tmp 49, n)) (hi := none) Try.underlying58 iat_5 rfl rfl rfl (by omega) rfl (by first | assumption | omega | (unfold maxLen; omega) | (simp [maxLen, -List.getD_eq_getElem?_getD] <;> omega) | decide) (by first | assumption | omega | (unfold maxLen; omega) | (simp [maxLen, -List.getD_eq_getElem?_getD] <;> omega) | decide) (by rw [List.take_length]) (lt_of rfl) trivial)] (by kernel_rfl) (by kernel_rfl) ?_
        refine nT ?_
        refine T.seq ?_
        refine xR [] (by kernel_rfl) (by kernel_rfl) ?_
        refine nT ?_
        refine T.ret ?_
        exact tE (.inl rfl) [.t 6 (.one (.d (dsl false false kU8 (rest.take (n).toNat))))] ⟨⟨rfl, by kernel_rfl⟩, trivial⟩ [0] (by have e1 : ((rest.take n.toNat) : List UInt8) = (rest.take (n).toNat) := (by first | rfl | exact hc3 | exact hc3.symm); have hE := congrArg (fun (q1 : List UInt8) => (slV false false kU8 q1 : AV)) e1; exact hE) rfl rfl rfl rfl rfl ⟨⟨rfl, (by have e1 : ((rest.drop (n).toNat) : List UInt8) = (rest.drop n.toNat) := (by first | rfl | exact hc3 | exact hc3.symm); have e2 : (limE most (rest.take (n).toNat) : Int) = 0 := (by first | rfl | exact hc3 | exact hc3.symm); have hE := congr (congrArg (fun (q1 : List UInt8) (q2 : Int) => (.live (.box 115 [.d (dsl false false kU8 q1), .d (.val (.int .i64 q2))]) : HS)) e1) e2; exact Eq.trans (by kernel_rfl) hE)⟩, trivial⟩
end Go.Proofs.Ytdclfhahcfefeaa.Q
namespace Go.Proofs.Ytdclfhahcfefeaa.Q
open Go Go.RowKit
set_option linter.unusedVariables false
set_option linter.unusedSimpArgs false
set_option maxRecDepth 100000
set_option maxHeartbeats 4000000
-- (*quaestor/wire.Reader).take
theorem take_limit_no (rest : List UInt8) (e : Int) (n : Int) (most : Int) (hr : rest.length ≤ 140737488355328) (hn : n = 4) (hc : ¬ okT rest e n (limE most (rest.take n.toNat))) : Holds Try.prog 73 ⟨[pv 0 0, dv (.int .i64 n), dv (.func (.func 88) #[.int .i64 most] #[])], [.box 115 [.d (dsl false false kU8 rest), .d (.val (.int .i64 e))]], dv (.slice none 0 0), [.live (.box 115 [.d (dsl false false kU8 rest), .d (.val (.int .i64 (rdE rest e n (limE most (rest.take n.toNat)))))])]⟩ := by
  refine Holds.of Try.func73 rfl (N := 54) Try.ntmps73 rfl fun w0 B0 S0 U0 => ?_
  show T _ (mkBase 54 1 w0 S0 U0 B0) ⟨[pv 0 0, dv (.int .i64 n), dv (.func (.func 88) #[.int .i64 most] #[])], [.live (.box 115 [.d (dsl false false kU8 rest), .d (.val (.int .i64 e))])]⟩ _ _
  have htl : (rest.take n.toNat).length ≤ n.toNat := List.length_take_le _ _
  refine T.seq ?_
  refine xR [] (by kernel_rfl) (by kernel_rfl) ?_
  refine nT ?_
  refine T.seq ?_
  refine T.seq ?_
  refine xR [hY 3 (b := false) (w := false) rfl,
    hY 4 (b := false) (w := false) rfl,
    hY 5 (b := false) (w := false) rfl,
    hY 6 (b := false) (w := false) rfl,
    hY 7 (b := false) (w := false) rfl,
    hP 8 (b := false) (w := false) rfl] (by kernel_rfl) (by kernel_rfl) ?_
  refine nT ?_
  by_cases hq1 : e ≠ 0
  · refine T.condT (by kernel_rfl) (decide_eq_true hq1) ?_
    refine T.seq ?_
    refine xR [] (by kernel_rfl) (by kernel_rfl) ?_
    refine nT ?_
    refine T.ret ?_
    refine rT ?_
    exact tE (.inl rfl) [.t 6 (.one (.d (.val (.slice none 0 0))))] ⟨⟨rfl, by kernel_rfl⟩, trivial⟩ [0] rfl rfl rfl rfl rfl rfl ⟨⟨rfl, (by have e1 : (e : Int) = (rdE rest e n (limE most (rest.take n.toNat))) := (by first | rfl | (simp only [rdE]; first | rw [if_pos (by assumption)] | (rw [if_neg (by assumption)]; first | rw [if_pos (by assumption)] | rw [if_neg (by assumption)]))); have hE := congrArg (fun (q1 : Int) => (.live (.box 115 [.d (dsl false false kU8 rest), .d (.val (.int .i64 q1))]) : HS)) e1; exact Eq.trans (by kernel_rfl) hE)⟩, trivial⟩
  · refine T.condF (by kernel_rfl) (decide_eq_false hq1) ?_
    refine T.skip ?_
    refine nT ?_
    refine T.seq ?_
    refine T.seq ?_
    refine xR [] (by kernel_rfl) (by kernel_rfl) ?_
    refine nT ?_
    by_cases hq2 : n > ((rest.length : Nat) : Int)
    · refine T.condT (by kernel_rfl) (decide_eq_true hq2) ?_
      refine T.seq ?_
      refine xR [] (by kernel_rfl) (by kernel_rfl) ?_
      refine nT ?_
      refine T.seq ?_
      refine xR [] (by kernel_rfl) (by kernel_rfl) ?_
      refine nT ?_
      refine T.ret ?_
      refine rT ?_
      exact tE (.inl rfl) [.t 6 (.one (.d (.val (.slice none 0 0))))] ⟨⟨rfl, by kernel_rfl⟩, trivial⟩ [0] rfl rfl rfl rfl rfl rfl ⟨⟨rfl, (by have e1 : (10 : Int) = (rdE rest e n (limE most (rest.take n.toNat))) := (by first | rfl | (simp only [rdE]; first | rw [if_pos (by assumption)] | (rw [if_neg (by assumption)]; first | rw [if_pos (by assumption)] | rw [if_neg (by assumption)]))); have hE := congrArg (fun (q1 : Int) => (.live (.box 115 [.d (dsl false false kU8 rest), .d (.val (.int .i64 q1))]) : HS)) e1; exact Eq.trans (by kernel_rfl) hE)⟩, trivial⟩
    · refine T.condF (by kernel_rfl) (decide_eq_false hq2) ?_
      refine T.skip ?_
      refine nT ?_
      refine T.seq ?_
      refine xR [hR 5 rfl rfl (q_slice false false kU8 rest (rest.take (n).toNat) 0 (n).toNat (lo := none) (hi := some (.tmp 31, n)) Try.underlying58 iat_5 rfl rfl rfl rfl (by omega) (by first | assumption | omega | (unfold maxLen; omega) | (simp [maxLen, -List.getD_eq_getElem?_getD] <;> omega) | decide) (by first | assumption | omega | (unfold maxLen; omega) | (simp [maxLen, -List.getD_eq_getElem?_getD] <;> omega) | decide) rfl (lt_of rfl) trivial)] (by kernel_rfl) (by kernel_rfl) ?_
      refine nT ?_
      refine T.seq ?_
      refine T.seq ?_
      refine xR [hR 3 rfl rfl (r_callV (fs := #[.int .i64 most]) (cs := #[]) (wire_may most false false (rest.take (n).toNat) (by first | assumption | omega | (unfold maxLen; omega) | (simp [maxLen, -List.getD_eq_getElem?_getD] <;> omega) | decide)) Try.func88 rfl (by decide) [] [] (l := [(.tmp 35, slV false false kU8 (rest.take (n).toNat))]) [] rfl 0 0 rfl rfl rfl rfl rfl rfl rfl rfl rfl rfl rfl ⟨.inl ⟨rfl, rfl⟩, ⟨.inl ⟨rfl, rfl⟩, trivial⟩⟩ rfl (fun b hb => by cases hb) (.inl rfl) (lt_of rfl) trivial)] (by kernel_rfl) (by kernel_rfl) ?_
      refine nT ?_
      refine T.seq ?_
      refine xR [] (by kernel_rfl) (by kernel_rfl) ?_
      refine nT ?_
      by_cases hq3 : (limE most (rest.take (n).toNat)) ≠ 0
      · refine T.condT (by kernel_rfl) (decide_eq_true hq3) ?_
        refine T.seq ?_
        refine xR [] (by kernel_rfl) (by kernel_rfl) ?_
        refine nT ?_
        refine T.ret ?_
        refine rT ?_
        exact tE (.inl rfl) [.t 6 (.one (.d (.val (.slice none 0 0))))] ⟨⟨rfl, by kernel_rfl⟩, trivial⟩ [0] rfl rfl rfl rfl rfl rfl ⟨⟨rfl, (by have e1 : (limE most (rest.take (n).toNat) : Int) = (rdE rest e n (limE most (rest.take n.toNat))) := (by first | rfl | (simp only [rdE]; first | rw [if_pos (by assumption)] | (rw [if_neg (by assumption)]; first | rw [if_pos (by assumption)] | rw [if_neg (by assumption)]))); have hE := congrArg (fun (q1 : Int) => (.live (.box 115 [.d (dsl false false kU8 rest), .d (.val (.int .i64 q1))]) : HS)) e1; exact Eq.trans (by kernel_rfl) hE)⟩, trivial⟩
      · exact absurd ⟨by omega, by omega, Classical.not_not.1 hq3⟩ hc
end Go.Proofs.Ytdclfhahcfefeaa.Q
namespace Go.Proofs.Ytdclfhahcfefeaa.Q
open Go Go.RowKit
set_option linter.unusedVariables false
set_option linter.unusedSimpArgs false
set_option maxRecDepth 100000
set_option maxHeartbeats 4000000
-- (*quaestor/wire.Reader).Int
theorem rd_Int (rest : List UInt8) (e : Int) (hr : rest.length ≤ 140737488355328) : Holds Try.prog 49 ⟨[pv 0 0], [.box 115 [.d (dsl false false kU8 rest), .d (.val (.int .i64 e))]], dv (.int .i64 (rdI rest e)), [.live (.box 115 [.d (dsl false false kU8 (rdR rest e 8 0)), .d (.val (.int .i64 (rdE rest e 8 0)))])]⟩ := by
  refine Holds.of Try.func49 rfl (N := 11) Try.ntmps49 rfl fun w0 B0 S0 U0 => ?_
  show T _ (mkBase 11 1 w0 S0 U0 B0) ⟨[pv 0 0], [.live (.box 115 [.d (dsl false false kU8 rest), .d (.val (.int .i64 e))])]⟩ _ _
  have hi8 : numL (rest.take 8) < 18446744073709551616 := numL_lt8 (List.length_take_le _ _)
  refine T.seq ?_
  refine xR [] (by kernel_rfl) (by kernel_rfl) ?_
  refine nT ?_
  refine T.seq ?_
  refine T.seq ?_
  by_cases hq1 : okT rest e 8 0
  · have hk := id hq1; simp only [okT] at hk
    refine xR [hR 1 rfl rfl (r_call (take_any_ok rest e 8 (by first | assumption | omega | (unfold maxLen; omega) | (simp [maxLen, -List.getD_eq_getElem?_getD] <;> omega) | decide) (by first | assumption | omega | (unfold maxLen; omega) | (simp [maxLen, -List.getD_eq_getElem?_getD] <;> omega) | decide) (by first | assumption | omega | (unfold maxLen; omega) | (simp [maxLen, -List.getD_eq_getElem?_getD] <;> omega) | decide)) Try.func73 rfl (by decide) [0] [] (l := [(.tmp 4, pv 0 0), (.const (.int .i64 8), dv (.int .i64 8)), (.func 74, dv (.func (.func 74) #[] #[]))]) [] rfl 1 1 rfl rfl rfl rfl rfl rfl rfl rfl rfl ⟨.inl ⟨rfl, rfl⟩, ⟨.inl ⟨rfl, rfl⟩, ⟨.inl ⟨rfl, rfl⟩, trivial⟩⟩⟩ rfl (fun b hb => by cases hb) (.inl rfl) (lt_of rfl) ⟨rfl, ⟨rfl, trivial⟩⟩)] (by kernel_rfl) (by kernel_rfl) ?_
    refine nT ?_
    refine T.seq ?_
    refine xR [hR 1 rfl rfl (r_neNil (s := .d (dsl false false kU8 (rest.take 8))) Try.underlying58 (.inr (by first | assumption | omega | (unfold maxLen; omega) | (simp [maxLen, -List.getD_eq_getElem?_getD] <;> omega) | decide)) (lt_of rfl) ⟨rfl, trivial⟩)] (by kernel_rfl) (by kernel_rfl) ?_
    refine nT ?_
    refine T.condT (b := true) (by kernel_rfl) rfl ?_
    refine T.seq ?_
    refine xR [hR 1 rfl rfl (r_call (wire_number false false (rest.take 8) (by first | assumption | omega | (unfold maxLen; omega) | (simp [maxLen, -List.getD_eq_getElem?_getD] <;> omega) | decide)) Try.func75 rfl (by decide) [] [] (l := [(.tmp 8, slV false false kU8 (rest.take 8))]) [] rfl 0 0 rfl rfl rfl rfl rfl rfl rfl rfl rfl ⟨.inl ⟨rfl, rfl⟩, trivial⟩ rfl (fun b hb => by cases hb) (.inl rfl) (lt_of rfl) trivial),
      hR 2 rfl rfl (r_conv (u := .int .u64 ((numL (rest.take 8) : Nat) : Int)) (v := .int .i64 (toI64 (numL (rest.take 8)))) (c_i64 (by first | assumption | omega | (unfold maxLen; omega) | (simp [maxLen, -List.getD_eq_getElem?_getD] <;> omega) | decide) Try.underlying113 Try.underlying2) (lt_of rfl) trivial)] (by kernel_rfl) (by kernel_rfl) ?_
    refine nT ?_
    refine T.ret ?_
    refine rT ?_
    exact tE (.inl rfl) [.t 2 (.one (.d (.val (.int .i64 (toI64 (numL (rest.take 8)))))))] ⟨⟨rfl, by kernel_rfl⟩, trivial⟩ [0] (by have e1 : (rdI rest e : Int) = toI64 (numL (rest.take 8)) := (by first | rfl | (rw [rdE_ok (by assumption)]) | (rw [rdR_ok (by assumption)]; first | done | rfl) | (rw [rdR_no (by assumption)]) | (simp only [rdI]; first | (rw [if_pos (by assumption)]; done) | (rw [if_pos (by assumption)]; rfl) | (rw [if_neg (by assumption)]; first | done | rfl) | (simp [*]; done)) | (simp [rdB, *]; done)); have hE := congrArg (fun (q1 : Int) => (dv (.int .i64 q1) : AV)) e1; exact hE) rfl rfl rfl rfl rfl ⟨⟨rfl, (by have e1 : ((rest.drop 8) : List UInt8) = (rdR rest e 8 0) := (by first | rfl | (rw [rdE_ok (by assumption)]) | (rw [rdR_ok (by assumption)]; first | done | rfl) | (rw [rdR_no (by assumption)]) | (simp only [rdI]; first | (rw [if_pos (by assumption)]; done) | (rw [if_pos (by assumption)]; rfl) | (rw [if_neg (by assumption)]; first | done | rfl) | (simp [*]; done)) | (simp [rdB, *]; done)); have e2 : (0 : Int) = (rdE rest e 8 0) := (by first | rfl | (rw [rdE_ok (by assumption)]) | (rw [rdR_ok (by assumption)]; first | done | rfl) | (rw [rdR_no (by assumption)]) | (simp only [rdI]; first | (rw [if_pos (by assumption)]; done) | (rw [if_pos (by assumption)]; rfl) | (rw [if_neg (by assumption)]; first | done | rfl) | (simp [*]; done)) | (simp [rdB, *]; done)); have hE := congr (congrArg (fun (q1 : List UInt8) (q2 : Int) => (.live (.box 115 [.d (dsl false false kU8 q1), .d (.val (.int .i64 q2))]) : HS)) e1) e2; exact Eq.trans (by kernel_rfl) hE)⟩, trivial⟩
  · refine xR [hR 1 rfl rfl (r_call (take_any_no rest e 8 (by first | assumption | omega | (unfold maxLen; omega) | (simp [maxLen, -List.getD_eq_getElem?_getD] <;> omega) | decide) (by first | assumption | omega | (unfold maxLen; omega) | (simp [maxLen, -List.getD_eq_getElem?_getD] <;> omega) | decide) (by first | assumption | omega | (unfold maxLen; omega) | (simp [maxLen, -List.getD_eq_getElem?_getD] <;> omega) | decide)) Try.func73 rfl (by decide) [0] [] (l := [(.tmp 4, pv 0 0), (.const (.int .i64 8), dv (.int .i64 8)), (.func 74, dv (.func (.func 74) #[] #[]))]) [] rfl 1 1 rfl rfl rfl rfl rfl rfl rfl rfl rfl ⟨.inl ⟨rfl, rfl⟩, ⟨.inl ⟨rfl, rfl⟩, ⟨.inl ⟨rfl, rfl⟩, trivial⟩⟩⟩ rfl (fun b hb => by cases hb) (.inl rfl) (lt_of rfl) ⟨rfl, ⟨rfl, trivial⟩⟩)] (by kernel_rfl) (by kernel_rfl) ?_
    refine nT ?_
    refine T.seq ?_
    refine xR [hR 1 rfl rfl (r_bin (u1 := .slice none 0 0) (u2 := .slice none 0 0) (v := .bool false) (b_neqNilS Try.underlying58) (lt_of rfl) ⟨rfl, trivial⟩)] (by kernel_rfl) (by kernel_rfl) ?_
    refine nT ?_
    refine T.condF (b := false) (by kernel_rfl) rfl ?_
    refine T.skip ?_
    refine nT ?_
    refine T.seq ?_
    refine xR [] (by kernel_rfl) (by kernel_rfl) ?_
    refine nT ?_
    refine T.ret ?_
    exact tE (.inl rfl) [.t 2 (.one (.d (.val (.int .i64 0))))] ⟨⟨rfl, by kernel_rfl⟩, trivial⟩ [0] (by have e1 : (rdI rest e : Int) = 0 := (by first | rfl | (rw [rdE_ok (by assumption)]) | (rw [rdR_ok (by assumption)]; first | done | rfl) | (rw [rdR_no (by assumption)]) | (simp only [rdI]; first | (rw [if_pos (by assumption)]; done) | (rw [if_pos (by assumption)]; rfl) | (rw [if_neg (by assumption)]; first | done | rfl) | (simp [*]; done)) | (simp [rdB, *]; done)); have hE := congrArg (fun (q1 : Int) => (dv (.int .i64 q1) : AV)) e1; exact hE) rfl rfl rfl rfl rfl ⟨⟨rfl, (by have e1 : (rest : List UInt8) = (rdR rest e 8 0) := (by first | rfl | (rw [rdE_ok (by assumption)]) | (rw [rdR_ok (by assumption)]; first | done | rfl) | (rw [rdR_no (by assumption)]) | (simp only [rdI]; first | (rw [if_pos (by assumption)]; done) | (rw [if_pos (by assumption)]; rfl) | (rw [if_neg (by assumption)]; first | done | rfl) | (simp [*]; done)) | (simp [rdB, *]; done)); have hE := congrArg (fun (q1 : List UInt8) => (.live (.box 115 [.d (dsl false false kU8 q1), .d (.val (.int .i64 (rdE rest e 8 0)))]) : HS)) e1; exact Eq.trans (by kernel_rfl) hE)⟩, trivial⟩
end Go.Proofs.Ytdclfhahcfefeaa.Q
namespace Go.Proofs.Ytdclfhahcfefeaa.Q
open Go Go.RowKit
set_option linter.unusedVariables false
set_option linter.unusedSimpArgs false
set_option maxRecDepth 100000
set_option maxHeartbeats 4000000
-- (*quaestor/wire.Reader).Count
theorem rd_Count (rest : List UInt8) (e : Int) (most : Int) (hr : rest.length ≤ 140737488355328) : Holds Try.prog 76 ⟨[pv 0 0, dv (.int .i64 most)], [.box 115 [.d (dsl false false kU8 rest), .d (.val (.int .i64 e))]], dv (.int .i64 ((rdC rest e most : Nat) : Int)), [.live (.box 115 [.d (dsl false false kU8 (rdR rest e 4 (limE most (rest.take 4)))), .d (.val (.int .i64 (rdE rest e 4 (limE most (rest.take 4)))))])]⟩ := by
  refine Holds.of Try.func76 rfl (N := 15) Try.ntmps76 rfl fun w0 B0 S0 U0 => ?_
  show T _ (mkBase 15 1 w0 S0 U0 B0) ⟨[pv 0 0, dv (.int .i64 most)], [.live (.box 115 [.d (dsl false false kU8 rest), .d (.val (.int .i64 e))])]⟩ _ _
  have hi4 : numL (rest.take 4) < 4294967296 := numL_lt4 (List.length_take_le _ _)
  refine T.seq ?_
  refine xR [] (by kernel_rfl) (by kernel_rfl) ?_
  refine nT ?_
  refine T.seq ?_
  refine T.seq ?_
  by_cases hq1 : okT rest e 4 (limE most (rest.take 4))
  · have hk := id hq1; simp only [okT] at hk
    refine xR [hR 2 rfl rfl (r_makeFunc (fs := [(.tmp 7, .int .i64 most)]) (cs := []) rfl rfl (lt_of rfl) trivial),
      hR 3 rfl rfl (r_call (take_limit_ok rest e 4 most (by first | assumption | omega | (unfold maxLen; omega) | (simp [maxLen, -List.getD_eq_getElem?_getD] <;> omega) | decide) (by first | assumption | omega | (unfold maxLen; omega) | (simp [maxLen, -List.getD_eq_getElem?_getD] <;> omega) | decide) (by first | assumption | omega | (unfold maxLen; omega) | (simp [maxLen, -List.getD_eq_getElem?_getD] <;> omega) | decide)) Try.func73 rfl (by decide) [0] [] (l := [(.tmp 6, pv 0 0), (.const (.int .i64 4), dv (.int .i64 4)), (.tmp 8, dv (.func (.func 88) #[.int .i64 most] #[]))]) [] rfl 1 1 rfl rfl rfl rfl rfl rfl rfl rfl rfl ⟨.inl ⟨rfl, rfl⟩, ⟨.inl ⟨rfl, rfl⟩, ⟨.inl ⟨rfl, rfl⟩, trivial⟩⟩⟩ rfl (fun b hb => by cases hb) (.inl rfl) (lt_of rfl) ⟨rfl, trivial⟩)] (by kernel_rfl) (by kernel_rfl) ?_
    refine nT ?_
    refine T.seq ?_
    refine xR [hR 1 rfl rfl (r_neNil (s := .d (dsl false false kU8 (rest.take 4))) Try.underlying58 (.inr (by first | assumption | omega | (unfold maxLen; omega) | (simp [maxLen, -List.getD_eq_getElem?_getD] <;> omega) | decide)) (lt_of rfl) ⟨rfl, trivial⟩)] (by kernel_rfl) (by kernel_rfl) ?_
    refine nT ?_
    refine T.condT (b := true) (by kernel_rfl) rfl ?_
    refine T.seq ?_
    refine xR [hR 1 rfl rfl (r_call (wire_number false false (rest.take 4) (by first | assumption | omega | (unfold maxLen; omega) | (simp [maxLen, -List.getD_eq_getElem?_getD] <;> omega) | decide)) Try.func75 rfl (by decide) [] [] (l := [(.tmp 12, slV false false kU8 (rest.take 4))]) [] rfl 0 0 rfl rfl rfl rfl rfl rfl rfl rfl rfl ⟨.inl ⟨rfl, rfl⟩, trivial⟩ rfl (fun b hb => by cases hb) (.inl rfl) (lt_of rfl) trivial),
      hR 2 rfl rfl (r_conv (u := .int .u64 ((numL (rest.take 4) : Nat) : Int)) (v := .int .i64 ((numL (rest.take 4) : Nat) : Int)) (c_int Try.underlying113 Try.underlying3 (by rw [IntKind.wrap_i64]; omega)) (lt_of rfl) trivial)] (by kernel_rfl) (by kernel_rfl) ?_
    refine nT ?_
    refine T.ret ?_
    refine rT ?_
    exact tE (.inl rfl) [.t 4 (.one (.d (.val (.int .i64 ((numL (rest.take 4) : Nat) : Int)))))] ⟨⟨rfl, by kernel_rfl⟩, trivial⟩ [0] (by have e1 : (((rdC rest e most : Nat) : Int) : Int) = ((numL (rest.take 4) : Nat) : Int) := (by first | rfl | (rw [rdE_ok (by assumption)]) | (rw [rdR_ok (by assumption)]; first | done | rfl) | (rw [rdR_no (by assumption)]) | (simp only [rdC]; first | (rw [if_pos (by assumption)]; done) | (rw [if_pos (by assumption)]; rfl) | (rw [if_neg (by assumption)]; first | done | rfl) | (simp [*]; done)) | (simp [rdB, *]; done)); have hE := congrArg (fun (q1 : Int) => (dv (.int .i64 q1) : AV)) e1; exact hE) rfl rfl rfl rfl rfl ⟨⟨rfl, (by have e1 : ((rest.drop 4) : List UInt8) = (rdR rest e 4 (limE most (rest.take 4))) := (by first | rfl | (rw [rdE_ok (by assumption)]) | (rw [rdR_ok (by assumption)]; first | done | rfl) | (rw [rdR_no (by assumption)]) | (simp only [rdC]; first | (rw [if_pos (by assumption)]; done) | (rw [if_pos (by assumption)]; rfl) | (rw [if_neg (by assumption)]; first | done | rfl) | (simp [*]; done)) | (simp [rdB, *]; done)); have e2 : (0 : Int) = (rdE rest e 4 (limE most (rest.take 4))) := (by first | rfl | (rw [rdE_ok (by assumption)]) | (rw [rdR_ok (by assumption)]; first | done | rfl) | (rw [rdR_no (by assumption)]) | (simp only [rdC]; first | (rw [if_pos (by assumption)]; done) | (rw [if_pos (by assumption)]; rfl) | (rw [if_neg (by assumption)]; first | done | rfl) | (simp [*]; done)) | (simp [rdB, *]; done)); have hE := congr (congrArg (fun (q1 : List UInt8) (q2 : Int) => (.live (.box 115 [.d (dsl false false kU8 q1), .d (.val (.int .i64 q2))]) : HS)) e1) e2; exact Eq.trans (by kernel_rfl) hE)⟩, trivial⟩
  · refine xR [hR 2 rfl rfl (r_makeFunc (fs := [(.tmp 7, .int .i64 most)]) (cs := []) rfl rfl (lt_of rfl) trivial),
      hR 3 rfl rfl (r_call (take_limit_no rest e 4 most (by first | assumption | omega | (unfold maxLen; omega) | (simp [maxLen, -List.getD_eq_getElem?_getD] <;> omega) | decide) (by first | assumption | omega | (unfold maxLen; omega) | (simp [maxLen, -List.getD_eq_getElem?_getD] <;> omega) | decide) (by first | assumption | omega | (unfold maxLen; omega) | (simp [maxLen, -List.getD_eq_getElem?_getD] <;> omega) | decide)) Try.func73 rfl (by decide) [0] [] (l := [(.tmp 6, pv 0 0), (.const (.int .i64 4), dv (.int .i64 4)), (.tmp 8, dv (.func (.func 88) #[.int .i64 most] #[]))]) [] rfl 1 1 rfl rfl rfl rfl rfl rfl rfl rfl rfl ⟨.inl ⟨rfl, rfl⟩, ⟨.inl ⟨rfl, rfl⟩, ⟨.inl ⟨rfl, rfl⟩, trivial⟩⟩⟩ rfl (fun b hb => by cases hb) (.inl rfl) (lt_of rfl) ⟨rfl, trivial⟩)] (by kernel_rfl) (by kernel_rfl) ?_
    refine nT ?_
    refine T.seq ?_
    refine xR [hR 1 rfl rfl (r_bin (u1 := .slice none 0 0) (u2 := .slice none 0 0) (v := .bool false) (b_neqNilS Try.underlying58) (lt_of rfl) ⟨rfl, trivial⟩)] (by kernel_rfl) (by kernel_rfl) ?_
    refine nT ?_
    refine T.condF (b := false) (by kernel_rfl) rfl ?_
    refine T.skip ?_
    refine nT ?_
    refine T.seq ?_
    refine xR [] (by kernel_rfl) (by kernel_rfl) ?_
    refine nT ?_
    refine T.ret ?_
    exact tE (.inl rfl) [.t 4 (.one (.d (.val (.int .i64 0))))] ⟨⟨rfl, by kernel_rfl⟩, trivial⟩ [0] (by have e1 : (((rdC rest e most : Nat) : Int) : Int) = 0 := (by first | rfl | (rw [rdE_ok (by assumption)]) | (rw [rdR_ok (by assumption)]; first | done | rfl) | (rw [rdR_no (by assumption)]) | (simp only [rdC]; first | (rw [if_pos (by assumption)]; done) | (rw [if_pos (by assumption)]; rfl) | (rw [if_neg (by assumption)]; first | done | rfl) | (simp [*]; done)) | (simp [rdB, *]; done)); have hE := congrArg (fun (q1 : Int) => (dv (.int .i64 q1) : AV)) e1; exact hE) rfl rfl rfl rfl rfl ⟨⟨rfl, (by have e1 : (rest : List UInt8) = (rdR rest e 4 (limE most (rest.take 4))) := (by first | rfl | (rw [rdE_ok (by assumption)]) | (rw [rdR_ok (by assumption)]; first | done | rfl) | (rw [rdR_no (by assumption)]) | (simp only [rdC]; first | (rw [if_pos (by assumption)]; done) | (rw [if_pos (by assumption)]; rfl) | (rw [if_neg (by assumption)]; first | done | rfl) | (simp [*]; done)) | (simp [rdB, *]; done)); have hE := congrArg (fun (q1 : List UInt8) => (.live (.box 115 [.d (dsl false false kU8 q1), .d (.val (.int .i64 (rdE rest e 4 (limE most (rest.take 4)))))]) : HS)) e1; exact Eq.trans (by kernel_rfl) hE)⟩, trivial⟩
end Go.Proofs.Ytdclfhahcfefeaa.Q
namespace Go.Proofs.Ytdclfhahcfefeaa.Q
open Go Go.RowKit
set_option linter.unusedVariables false
set_option linter.unusedSimpArgs false
set_option maxRecDepth 100000
set_option maxHeartbeats 4000000
-- (*quaestor/wire.Reader).End
theorem rd_End (rest : List UInt8) (e : Int) (hr : rest.length ≤ 140737488355328) : Holds Try.prog 51 ⟨[pv 0 0], [.box 115 [.d (dsl false false kU8 rest), .d (.val (.int .i64 e))]], .tup [], [.live (.box 115 [.d (dsl false false kU8 rest), .d (.val (.int .i64 (rdX rest e)))])]⟩ := by
  refine Holds.of Try.func51 rfl (N := 22) Try.ntmps51 rfl fun w0 B0 S0 U0 => ?_
  show T _ (mkBase 22 1 w0 S0 U0 B0) ⟨[pv 0 0], [.live (.box 115 [.d (dsl false false kU8 rest), .d (.val (.int .i64 e))])]⟩ _ _
  refine T.seq ?_
  by_cases hq1 : e = 0
  · refine xR [hY 3 (b := true) (w := true) rfl,
      hY 4 (b := true) (w := true) rfl,
      hY 5 (b := true) (w := true) rfl,
      hY 6 (b := true) (w := true) rfl,
      hY 7 (b := true) (w := true) rfl,
      hP 8 (b := true) (w := true) rfl,
      hY 10 (decide_eq_true hq1),
      hY 11 (decide_eq_true hq1),
      hY 12 (decide_eq_true hq1),
      hY 13 (decide_eq_true hq1),
      hY 14 (decide_eq_true hq1),
      hY 15 (decide_eq_true hq1),
      hP 16 (decide_eq_true hq1)] (by kernel_rfl) (by kernel_rfl) ?_
    refine nT ?_
    by_cases hq2 : ((rest.length : Nat) : Int) > 0
    · refine T.condT (by kernel_rfl) (decide_eq_true hq2) ?_
      refine xR [] (by kernel_rfl) (by kernel_rfl) ?_
      exact tE (.inr rfl) [] trivial [0] rfl rfl rfl rfl rfl rfl ⟨⟨rfl, (by have e1 : (13 : Int) = (rdX rest e) := (by first | rfl | (simp only [rdX]; first | rw [if_pos ⟨by assumption, by assumption⟩] | rw [if_neg (fun h => by first | exact absurd h.1 (by assumption) | exact absurd h.2 (by assumption))])); have hE := congrArg (fun (q1 : Int) => (.live (.box 115 [.d (dsl false false kU8 rest), .d (.val (.int .i64 q1))]) : HS)) e1; exact Eq.trans (by kernel_rfl) hE)⟩, trivial⟩
    · refine T.condF (by kernel_rfl) (decide_eq_false hq2) ?_
      refine T.skip ?_
      exact tE (.inr rfl) [] trivial [0] rfl rfl rfl rfl rfl rfl ⟨⟨rfl, (by have e1 : (e : Int) = (rdX rest e) := (by first | rfl | (simp only [rdX]; first | rw [if_pos ⟨by assumption, by assumption⟩] | rw [if_neg (fun h => by first | exact absurd h.1 (by assumption) | exact absurd h.2 (by assumption))])); have hE := congrArg (fun (q1 : Int) => (.live (.box 115 [.d (dsl false false kU8 rest), .d (.val (.int .i64 q1))]) : HS)) e1; exact Eq.trans (by kernel_rfl) hE)⟩, trivial⟩
  · refine xR [hY 3 (b := true) (w := true) rfl,
      hY 4 (b := true) (w := true) rfl,
      hY 5 (b := true) (w := true) rfl,
      hY 6 (b := true) (w := true) rfl,
      hY 7 (b := true) (w := true) rfl,
      hP 8 (b := true) (w := true) rfl,
      hN 10 true (decide_eq_false hq1),
      hN 11 true (decide_eq_false hq1),
      hN 12 true (decide_eq_false hq1),
      hN 13 true (decide_eq_false hq1),
      hN 14 true (decide_eq_false hq1),
      hN 15 true (decide_eq_false hq1),
      hP 16 (decide_eq_false hq1)] (by kernel_rfl) (by kernel_rfl) ?_
    refine nT ?_
    refine T.condF (b := false) (by kernel_rfl) rfl ?_
    refine T.skip ?_
    exact tE (.inr rfl) [] trivial [0] rfl rfl rfl rfl rfl rfl ⟨⟨rfl, (by have e1 : (e : Int) = (rdX rest e) := (by first | rfl | (simp only [rdX]; first | rw [if_pos ⟨by assumption, by assumption⟩] | rw [if_neg (fun h => by first | exact absurd h.1 (by assumption) | exact absurd h.2 (by assumption))])); have hE := congrArg (fun (q1 : Int) => (.live (.box 115 [.d (dsl false false kU8 rest), .d (.val (.int .i64 q1))]) : HS)) e1; exact Eq.trans (by kernel_rfl) hE)⟩, trivial⟩
end Go.Proofs.Ytdclfhahcfefeaa.Q
namespace Go.Proofs.Ytdclfhahcfefeaa.Q
open Go Go.RowKit
set_option linter.unusedVariables false
set_option linter.unusedSimpArgs false
set_option maxRecDepth 100000
set_option maxHeartbeats 4000000
-- (*quaestor/wire.Reader).Err
theorem rd_Err (rest : List UInt8) (e : Int) : Holds Try.prog 52 ⟨[pv 0 0], [.box 115 [.d (dsl false false kU8 rest), .d (.val (.int .i64 e))]], dv (.int .i64 e), [.live (.box 115 [.d (dsl false false kU8 rest), .d (.val (.int .i64 e))])]⟩ := by
  refine Holds.of Try.func52 rfl (N := 9) Try.ntmps52 rfl fun w0 B0 S0 U0 => ?_
  show T _ (mkBase 9 1 w0 S0 U0 B0) ⟨[pv 0 0], [.live (.box 115 [.d (dsl false false kU8 rest), .d (.val (.int .i64 e))])]⟩ _ _
  refine T.seq ?_
  refine xR [] (by kernel_rfl) (by kernel_rfl) ?_
  refine nT ?_
  refine T.seq ?_
  refine T.seq ?_
  refine xR [] (by kernel_rfl) (by kernel_rfl) ?_
  refine nT ?_
  refine T.condF (b := false) (by kernel_rfl) rfl ?_
  refine T.skip ?_
  refine nT ?_
  refine T.seq ?_
  refine xR [] (by kernel_rfl) (by kernel_rfl) ?_
  refine nT ?_
  refine T.ret ?_
  exact tE (.inl rfl) [.t 2 (.one (.d (.val (.int .i64 e))))] ⟨⟨rfl, by kernel_rfl⟩, trivial⟩ [0] rfl rfl rfl rfl rfl rfl ⟨⟨rfl, (by kernel_rfl)⟩, trivial⟩
end Go.Proofs.Ytdclfhahcfefeaa.Q
