import Derived.Test.YtdclfhahcfefeaaC11n14
namespace Go.Proofs.Ytdclfhahcfefeaa.Q
open Go Go.RowKit
set_option linter.unusedVariables false
set_option linter.unusedSimpArgs false
set_option maxRecDepth 100000
set_option maxHeartbeats 4000000
theorem wide_5 : Wide Try.prog 5 none := ⟨_, Try.underlying5, (fun _ h => by cases h), (fun _ _ h => by cases h)⟩
-- quaestor/wire.number
theorem wire_number (tb : Bool) (nb : Bool) (b : List UInt8) (hb : b.length ≤ 8) : Holds Try.prog 75 ⟨[slV tb nb kU8 b], [], dv (.int .u64 ((numL b : Nat) : Int)), []⟩ := by
  refine Holds.of Try.func75 rfl (N := 18) Try.ntmps75 rfl fun w0 B0 S0 U0 => ?_
  show T _ (mkBase 18 0 w0 S0 U0 B0) ⟨[slV tb nb kU8 b], []⟩ _ _
  refine T.seq ?_
  refine xR [] (by kernel_rfl) (by kernel_rfl) ?_
  refine nT ?_
  refine T.seq ?_
  refine T.seq ?_
  refine xR [] (by kernel_rfl) (by kernel_rfl) ?_
  refine nT ?_
  refine T.block ?_
  refine T.loop (ι := Nat) (fun (k : Nat) => ⟨[slV tb nb kU8 b, aa, dv (.int .u64 ((numL (b.take k) : Nat) : Int)), aa, aa, slV tb nb kU8 b, dv (.int .i64 ((b.length : Nat) : Int)), dv (.int .i64 ((k : Nat) : Int))], []⟩) (fun (k : Nat) => (k ≤ b.length)) (fun (k : Nat) => b.length - k) (0) (Nat.zero_le _) (fun _ _ hG => Gs.into2 (s' := ⟨[slV tb nb kU8 b, aa, dv (.int .u64 ((numL (b.take 0) : Nat) : Int)), aa, aa, slV tb nb kU8 b, dv (.int .i64 ((b.length : Nat) : Int)), dv (.int .i64 0)], []⟩) [] (bm 8 229) (t1 := [slV tb nb kU8 b, aa, dv (.int .u64 ((numL (b.take 0) : Nat) : Int)), aa, aa, slV tb nb kU8 b, dv (.int .i64 ((b.length : Nat) : Int)), dv (.int .i64 0)]) (t2 := [slV tb nb kU8 b, aa, dv (.int .u64 0), aa, aa, slV tb nb kU8 b, dv (.int .i64 ((b.length : Nat) : Int)), dv (.int .i64 0)]) (h1 := []) (by have e1 : (((numL (b.take 0) : Nat) : Int) : Int) = 0 := (by rfl); have hE := congrArg (fun (q1 : Int) => ([slV tb nb kU8 b, aa, dv (.int .u64 q1), aa, aa, slV tb nb kU8 b, dv (.int .i64 ((b.length : Nat) : Int)), dv (.int .i64 0)] : List AV)) e1; exact hE) rfl (by kernel_rfl) (by kernel_rfl) (by kernel_rfl) (by kernel_rfl) (by kernel_rfl) (by kernel_rfl) (by kernel_rfl) (by kernel_rfl) (by kernel_rfl) (by kernel_rfl) (by kernel_rfl) hG) ?_
  rintro k hk
  show T _ _ ⟨[slV tb nb kU8 b, aa, dv (.int .u64 ((numL (b.take k) : Nat) : Int)), aa, aa, slV tb nb kU8 b, dv (.int .i64 ((b.length : Nat) : Int)), dv (.int .i64 ((k : Nat) : Int))], []⟩ _ _
  replace hk : k ≤ b.length := hk
  have hk8 : numL (b.take k) < 18446744073709551616 := numL_lt8 (by simp only [List.length_take]; omega)
  refine T.seq ?_
  refine xR [] (by kernel_rfl) (by kernel_rfl) ?_
  refine nT ?_
  refine T.seq ?_
  by_cases hq1 : ((k : Nat) : Int) < ((b.length : Nat) : Int)
  · have hk7 : numL (b.take k) < 72057594037927936 := numL_lt7 (by simp only [List.length_take]; omega); have hbt := UInt8.toNat_lt (b.getD k 0)
    refine T.condT (by kernel_rfl) (decide_eq_true hq1) ?_
    refine T.skip ?_
    refine nT ?_
    refine T.seq ?_
    refine T.block ?_
    refine T.seq ?_
    refine xR [hR 0 rfl rfl (q_index tb nb kU8 b k (k := .i64) (i := ((k : Nat) : Int)) Try.underlying58 iat_5 rfl rfl (by omega) (lt_of rfl) trivial)] (by kernel_rfl) (by kernel_rfl) ?_
    refine nT ?_
    refine xR [hR 1 rfl rfl (r_bin (u1 := .int .u64 ((numL (b.take k) : Nat) : Int)) (u2 := .int .u64 8) (v := .int .u64 (((numL (b.take k)) * 2 ^ 8 : Nat) : Int)) (b_shlN (n := 8) rfl (Nat.le_trans (by omega) (by decide : 64 ≤ _)) (by (rw [IntKind.wrap_u64]; omega))) (lt_of rfl) ⟨rfl, trivial⟩),
      hR 3 rfl rfl (r_conv (u := .int .u8 (((b.getD k 0).toNat : Nat) : Int)) (v := .int .u64 (((b.getD k 0).toNat : Nat) : Int)) (c_int Try.underlying5 Try.underlying113 (by (rw [IntKind.wrap_u64]; omega))) (lt_of rfl) trivial),
      hR 4 rfl rfl (r_bin (u1 := .int .u64 (((numL (b.take k)) * 2 ^ 8 : Nat) : Int)) (u2 := .int .u64 (((b.getD k 0).toNat : Nat) : Int)) (v := .int .u64 ((((numL (b.take k)) * 2 ^ 8) ||| (b.getD k 0).toNat : Nat) : Int)) (b_orU (by omega) (by omega)) (lt_of rfl) trivial)] (by kernel_rfl) (by kernel_rfl) ?_
    refine nB ?_
    refine nT ?_
    refine xR [hR 0 rfl rfl (r_bin (u1 := .int .i64 ((k : Nat) : Int)) (u2 := .int .i64 1) (v := .int .i64 ((k + 1 : Nat) : Int)) (b_add (by rw [IntKind.wrap_i64]; omega)) (lt_of rfl) ⟨rfl, trivial⟩)] (by kernel_rfl) (by kernel_rfl) ?_
    refine nL (k + 1) (show (k + 1) ≤ b.length from (by omega)) (show (b.length - (k + 1) : Nat) < b.length - k from (by omega)) (fun _ _ hG => Gs.into2 (s' := ⟨[slV tb nb kU8 b, aa, dv (.int .u64 ((numL (b.take (k + 1)) : Nat) : Int)), aa, aa, slV tb nb kU8 b, dv (.int .i64 ((b.length : Nat) : Int)), dv (.int .i64 ((k + 1 : Nat) : Int))], []⟩) [] (bm 8 229) (t1 := [slV tb nb kU8 b, aa, dv (.int .u64 ((numL (b.take (k + 1)) : Nat) : Int)), aa, aa, slV tb nb kU8 b, dv (.int .i64 ((b.length : Nat) : Int)), dv (.int .i64 ((k + 1 : Nat) : Int))]) (t2 := [slV tb nb kU8 b, aa, dv (.int .u64 ((((numL (b.take k)) * 2 ^ 8) ||| (b.getD k 0).toNat : Nat) : Int)), aa, aa, slV tb nb kU8 b, dv (.int .i64 ((b.length : Nat) : Int)), dv (.int .i64 ((k + 1 : Nat) : Int))]) (h1 := []) (by have e1 : (((numL (b.take (k + 1)) : Nat) : Int) : Int) = ((((numL (b.take k)) * 2 ^ 8) ||| (b.getD k 0).toNat : Nat) : Int) := (by (rw [numL_take (by omega)])); have hE := congrArg (fun (q1 : Int) => ([slV tb nb kU8 b, aa, dv (.int .u64 q1), aa, aa, slV tb nb kU8 b, dv (.int .i64 ((b.length : Nat) : Int)), dv (.int .i64 ((k + 1 : Nat) : Int))] : List AV)) e1; exact hE) rfl (by kernel_rfl) (by kernel_rfl) (by kernel_rfl) (by kernel_rfl) (by kernel_rfl) (by kernel_rfl) (by kernel_rfl) (by kernel_rfl) (by kernel_rfl) (by kernel_rfl) (by kernel_rfl) hG)
  · refine T.condF (by kernel_rfl) (decide_eq_false hq1) ?_
    refine T.exit ?_
    refine xT ?_
    refine xT ?_
    refine xH ?_
    refine nT ?_
    refine T.seq ?_
    refine xR [] (by kernel_rfl) (by kernel_rfl) ?_
    refine nT ?_
    refine T.ret ?_
    exact tE (.inl rfl) [.t 2 (.one (.d (.val (.int .u64 ((numL (b.take k) : Nat) : Int)))))] ⟨⟨rfl, by kernel_rfl⟩, trivial⟩ [] (by have e1 : (((numL b : Nat) : Int) : Int) = ((numL (b.take k) : Nat) : Int) := (by (rw [List.take_of_length_le (by omega)])); have hE := congrArg (fun (q1 : Int) => (dv (.int .u64 q1) : AV)) e1; exact hE) rfl rfl rfl rfl rfl trivial
end Go.Proofs.Ytdclfhahcfefeaa.Q
namespace Go.Proofs.Ytdclfhahcfefeaa.Q
open Go Go.RowKit
set_option linter.unusedVariables false
set_option linter.unusedSimpArgs false
set_option maxRecDepth 100000
set_option maxHeartbeats 4000000
-- quaestor/wire.any
theorem wire_any (tb : Bool) (nb : Bool) (b : List UInt8) : Holds Try.prog 74 ⟨[slV tb nb kU8 b], [], dv (.int .i64 0), []⟩ := by
  refine Holds.of Try.func74 rfl (N := 3) Try.ntmps74 rfl fun w0 B0 S0 U0 => ?_
  show T _ (mkBase 3 0 w0 S0 U0 B0) ⟨[slV tb nb kU8 b], []⟩ _ _
  refine T.seq ?_
  refine xR [] (by kernel_rfl) (by kernel_rfl) ?_
  refine nT ?_
  refine T.seq ?_
  refine xR [] (by kernel_rfl) (by kernel_rfl) ?_
  refine nT ?_
  refine T.ret ?_
  exact tE (.inl rfl) [.t 2 (.one (.d (.val (.int .i64 0))))] ⟨⟨rfl, by kernel_rfl⟩, trivial⟩ [] rfl rfl rfl rfl rfl rfl trivial
end Go.Proofs.Ytdclfhahcfefeaa.Q
namespace Go.Proofs.Ytdclfhahcfefeaa.Q
open Go Go.RowKit
set_option linter.unusedVariables false
set_option linter.unusedSimpArgs false
set_option maxRecDepth 100000
set_option maxHeartbeats 4000000
-- (quaestor/wire.limit).may
theorem wire_may (most : Int) (tb : Bool) (nb : Bool) (b : List UInt8) (hb : b.length ≤ 4) : Holds Try.prog 88 ⟨[dv (.int .i64 most), slV tb nb kU8 b], [], dv (.int .i64 (limE most b)), []⟩ := by
  refine Holds.of Try.func88 rfl (N := 11) Try.ntmps88 rfl fun w0 B0 S0 U0 => ?_
  show T _ (mkBase 11 0 w0 S0 U0 B0) ⟨[dv (.int .i64 most), slV tb nb kU8 b], []⟩ _ _
  have hnb := numL_lt4 hb
  refine T.seq ?_
  refine xR [] (by kernel_rfl) (by kernel_rfl) ?_
  refine nT ?_
  refine T.seq ?_
  refine T.seq ?_
  refine xR [hR 1 rfl rfl (r_call (wire_number tb nb b (by omega)) Try.func75 rfl (by decide) [] [] (l := [(.tmp 5, slV tb nb kU8 b)]) [] rfl 0 0 rfl rfl rfl rfl rfl rfl rfl rfl rfl ⟨.inl ⟨rfl, rfl⟩, trivial⟩ rfl (fun b hb => by cases hb) (.inl rfl) (lt_of rfl) trivial),
    hR 2 rfl rfl (r_conv (u := .int .u64 ((numL b : Nat) : Int)) (v := .int .i64 ((numL b : Nat) : Int)) (c_int Try.underlying113 Try.underlying3 (by rw [IntKind.wrap_i64]; omega)) (lt_of rfl) trivial),
    hR 4 rfl rfl (r_max (k := .i64) (a := most) (b := 0) (lt_of rfl) ⟨rfl, trivial⟩)] (by kernel_rfl) (by kernel_rfl) ?_
  refine nT ?_
  by_cases hq1 : ((numL b : Nat) : Int) > (max most 0)
  · refine T.condT (by kernel_rfl) (decide_eq_true hq1) ?_
    refine T.seq ?_
    refine xR [] (by kernel_rfl) (by kernel_rfl) ?_
    refine nT ?_
    refine T.ret ?_
    refine rT ?_
    exact tE (.inl rfl) [.t 4 (.one (.d (.val (.int .i64 11))))] ⟨⟨rfl, by kernel_rfl⟩, trivial⟩ [] (by have e1 : (limE most b : Int) = 11 := (by (simp only [limE]; rw [if_pos (by assumption)])); have hE := congrArg (fun (q1 : Int) => (dv (.int .i64 q1) : AV)) e1; exact hE) rfl rfl rfl rfl rfl trivial
  · refine T.condF (by kernel_rfl) (decide_eq_false hq1) ?_
    refine T.skip ?_
    refine nT ?_
    refine T.seq ?_
    refine xR [] (by kernel_rfl) (by kernel_rfl) ?_
    refine nT ?_
    refine T.ret ?_
    exact tE (.inl rfl) [.t 4 (.one (.d (.val (.int .i64 0))))] ⟨⟨rfl, by kernel_rfl⟩, trivial⟩ [] (by have e1 : (limE most b : Int) = 0 := (by (simp only [limE]; rw [if_neg (by assumption)])); have hE := congrArg (fun (q1 : Int) => (dv (.int .i64 q1) : AV)) e1; exact hE) rfl rfl rfl rfl rfl trivial
end Go.Proofs.Ytdclfhahcfefeaa.Q
namespace Go.Proofs.Ytdclfhahcfefeaa.Q
open Go Go.RowKit
set_option linter.unusedVariables false
set_option linter.unusedSimpArgs false
set_option maxRecDepth 100000
set_option maxHeartbeats 4000000
theorem iat_115 : Try.prog.info? 115 = some Try.t115 := by kernel_rfl
theorem zero_115 : Zero Try.prog 115 [.slice none 0 0, .int .i64 0] := ⟨_, _, iat_115, rfl, rfl⟩
theorem places_115 : Places Try.prog 115 [(0, 1), (1, 1)] := ⟨_, Try.underlying115, ⟨⟨rfl, _, iat_58, rfl⟩, ⟨⟨rfl, _, iat_43, rfl⟩, trivial⟩⟩⟩
-- quaestor/wire.New
theorem wire_New (tb : Bool) (nb : Bool) (b : List UInt8) (hb : b.length ≤ 140737488355328) : Holds Try.prog 48 ⟨[slV tb nb kU8 b], [], pv 0 0, [.live (.box 115 [.d (dsl false false kU8 b), .d (.val (.int .i64 0))])]⟩ := by
  refine Holds.of Try.func48 rfl (N := 7) Try.ntmps48 rfl fun w0 B0 S0 U0 => ?_
  show T _ (mkBase 7 0 w0 S0 U0 B0) ⟨[slV tb nb kU8 b], []⟩ _ _
  refine T.seq ?_
  refine xR [] (by kernel_rfl) (by kernel_rfl) ?_
  refine nT ?_
  refine T.seq ?_
  refine xR [hR 1 rfl rfl (r_call (clone_u8 tb nb b (by assumption)) Try.func67 rfl (by decide) [0] [] (l := [(.tmp 3, slV tb nb kU8 b)]) [] rfl 0 1 rfl rfl rfl rfl rfl rfl rfl rfl rfl ⟨.inl ⟨rfl, rfl⟩, trivial⟩ rfl (fun b hb => by cases hb) (.inl rfl) (lt_of rfl) trivial)] (by kernel_rfl) (by kernel_rfl) ?_
  refine nT ?_
  refine T.ret ?_
  refine Ends.turn (s' := ⟨[slV tb nb kU8 b, aa, pv 1 0], [.live (arrK 5 kU8 b), .live (.box 115 [.own 0 kU8.sz 0 b.length, .d (.val (.int .i64 0))])]⟩) (fun _ _ hG => Gs.norm (by kernel_rfl) hG) ?_
  refine Ends.turn (s' := ⟨[slV tb nb kU8 b, aa, pv 1 0], [.dead, .live (.box 115 [.d (dsl false false kU8 b), .d (.val (.int .i64 0))])]⟩) (fun _ _ hG => Gs.freeze (s := ⟨[slV tb nb kU8 b, aa, pv 1 0], [.live (arrK 5 kU8 b), .live (.box 115 [.own 0 kU8.sz 0 b.length, .d (.val (.int .i64 0))])]⟩) 0 (el := elOf kU8 b) (sz := kU8.sz) (n := b.length) rfl ⟨(.inl rfl), ⟨(.inl rfl), ⟨(.inl rfl), trivial⟩⟩⟩ ⟨(.inl ⟨rfl, rfl⟩), ⟨(.inr ⟨by decide, .inr ⟨rfl, ⟨(.inr ⟨rfl, rfl, rfl, (fun h => by cases h), rfl, rfl, by omega, fun i j _ => by rw [Nat.zero_add]⟩), ⟨(.inl rfl), trivial⟩⟩⟩⟩), trivial⟩⟩ hG) ?_
  exact tE (.inl rfl) [.t 2 (.one (.ptr 1 0))] ⟨⟨rfl, by kernel_rfl⟩, trivial⟩ [1] rfl rfl rfl rfl rfl rfl ⟨⟨rfl, (by kernel_rfl)⟩, trivial⟩
end Go.Proofs.Ytdclfhahcfefeaa.Q
namespace Go.Proofs.Ytdclfhahcfefeaa.Q
open Go Go.RowKit
set_option linter.unusedVariables false
set_option linter.unusedSimpArgs false
set_option maxRecDepth 100000
set_option maxHeartbeats 4000000
theorem fld_115_1 : FieldAt Try.prog 115 1 1 := ⟨_, _, _, Try.underlying115, rfl, iat_43, by decide, rfl⟩
theorem fld_115_0 : FieldAt Try.prog 115 0 0 := ⟨_, _, _, Try.underlying115, rfl, iat_58, by decide, rfl⟩
theorem cells_43 : Cells Try.prog 43 1 := ⟨_, iat_43, rfl⟩
-- (*quaestor/wire.Reader).take
theorem take_any_ok (rest : List UInt8) (e : Int) (n : Int) (hr : rest.length ≤ 140737488355328) (hn : 0 ≤ n) (hc : okT rest e n 0) : Holds Try.prog 73 ⟨[pv 0 0, dv (.int .i64 n), dv (.func (.func 74) #[] #[])], [.box 115 [.d (dsl false false kU8 rest), .d (.val (.int .i64 e))]], slV false false kU8 (rest.take n.toNat), [.live (.box 115 [.d (dsl false false kU8 (rest.drop n.toNat)), .d (.val (.int .i64 0))])]⟩ := by
  refine Holds.of Try.func73 rfl (N := 54) Try.ntmps73 rfl fun w0 B0 S0 U0 => ?_
  show T _ (mkBase 54 1 w0 S0 U0 B0) ⟨[pv 0 0, dv (.int .i64 n), dv (.func (.func 74) #[] #[])], [.live (.box 115 [.d (dsl false false kU8 rest), .d (.val (.int .i64 e))])]⟩ _ _
  have htl : (rest.take n.toNat).length ≤ n.toNat := List.length_take_le _ _
  obtain ⟨hc1, hc2, hc3⟩ := hc
  have htm : (rest.take n.toNat).length = n.toNat := by rw [List.length_take]; omega
  refine T.seq ?_
  refine xR [] (by kernel_rfl) (by kernel_rfl) ?_
  refine nT ?_
  refine T.seq ?_
  refine T.seq ?_
  refine xR [hY 3 (b := false) (w := false) rfl,
    hY 4 (b := false) (w := false) rfl,
    hY 5 (b := false) (w := false) rfl,
    hY 6 (b := false) (w := false) rfl,
    hY 7 (b := false) (w := false) rfl,
    hP 8 (b := false) (w := false) rfl] (by kernel_rfl) (by kernel_rfl) ?_
  refine nT ?_
  by_cases hq1 : e ≠ 0
  · exact absurd hc1 hq1
  · refine T.condF (by kernel_rfl) (decide_eq_false hq1) ?_
    refine T.skip ?_
    refine nT ?_
    refine T.seq ?_
    refine T.seq ?_
    refine xR [] (by kernel_rfl) (by kernel_rfl) ?_
    refine nT ?_
    by_cases hq2 : n > ((rest.length : Nat) : Int)
    · exact absurd hc2 (by omega)
    · refine T.condF (by kernel_rfl) (decide_eq_false hq2) ?_
      refine T.skip ?_
      refine nT ?_
      refine T.seq ?_
      refine xR [hR 5 rfl rfl (q_slice false false kU8 rest (rest.take (n).toNat) 0 (n).toNat (lo := none) (hi := some (.tmp 31, n)) Try.underlying58 iat_5 rfl rfl rfl rfl (by omega) (by omega) (by omega) rfl (lt_of rfl) trivial)] (by kernel_rfl) (by kernel_rfl) ?_
      refine nT ?_
      refine T.seq ?_
      refine T.seq ?_
      refine xR [hR 3 rfl rfl (r_callV (fs := #[]) (cs := #[]) (wire_any false false (rest.take (n).toNat) ) Try.func74 rfl (by decide) [] [] (l := [(.tmp 35, slV false false kU8 (rest.take (n).toNat))]) [] rfl 0 0 rfl rfl rfl rfl rfl rfl rfl rfl rfl rfl rfl ⟨.inl ⟨rfl, rfl⟩, trivial⟩ rfl (fun b hb => by cases hb) (.inl rfl) (lt_of rfl) trivial)] (by kernel_rfl) (by kernel_rfl) ?_
      refine nT ?_
      refine T.seq ?_
      refine xR [] (by kernel_rfl) (by kernel_rfl) ?_
      refine nT ?_
      refine T.condF (b := false) (by kernel_rfl) rfl ?_
      refine T.skip ?_
      refine nT ?_
      refine T.seq ?_
      refine xR [hR 6 rfl rfl (q_slice false false kU8 rest (rest.drop (n).toNat) (n).toNat rest.length (lo := some (.tmp 49, n)) (hi := none) Try.underlying58 iat_5 rfl rfl rfl (by omega) rfl (by omega) (by omega) (by rw [List.take_length]) (lt_of rfl) trivial)] (by kernel_rfl) (by kernel_rfl) ?_
      refine nT ?_
      refine T.seq ?_
      refine xR [] (by kernel_rfl) (by kernel_rfl) ?_
      refine nT ?_
      refine T.ret ?_
      exact tE (.inl rfl) [.t 6 (.one (.d (dsl false false kU8 (rest.take (n).toNat))))] ⟨⟨rfl, by kernel_rfl⟩, trivial⟩ [0] (by have e1 : ((rest.take n.toNat) : List UInt8) = (rest.take (n).toNat) := (by rfl); have hE := congrArg (fun (q1 : List UInt8) => (slV false false kU8 q1 : AV)) e1; exact hE) rfl rfl rfl rfl rfl ⟨⟨rfl, (by have e1 : ((rest.drop (n).toNat) : List UInt8) = (rest.drop n.toNat) := (by rfl); have hE := congrArg (fun (q1 : List UInt8) => (.live (.box 115 [.d (dsl false false kU8 q1), .d (.val (.int .i64 0))]) : HS)) e1; exact Eq.trans (by kernel_rfl) hE)⟩, trivial⟩
end Go.Proofs.Ytdclfhahcfefeaa.Q
namespace Go.Proofs.Ytdclfhahcfefeaa.Q
open Go Go.RowKit
set_option linter.unusedVariables false
set_option linter.unusedSimpArgs false
set_option maxRecDepth 100000
set_option maxHeartbeats 4000000
-- (*quaestor/wire.Reader).take
theorem take_any_no (rest : List UInt8) (e : Int) (n : Int) (hr : rest.length ≤ 140737488355328) (hn : 0 ≤ n) (hc : ¬ okT rest e n 0) : Holds Try.prog 73 ⟨[pv 0 0, dv (.int .i64 n), dv (.func (.func 74) #[] #[])], [.box 115 [.d (dsl false false kU8 rest), .d (.val (.int .i64 e))]], dv (.slice none 0 0), [.live (.box 115 [.d (dsl false false kU8 rest), .d (.val (.int .i64 (rdE rest e n 0)))])]⟩ := by
  refine Holds.of Try.func73 rfl (N := 54) Try.ntmps73 rfl fun w0 B0 S0 U0 => ?_
  show T _ (mkBase 54 1 w0 S0 U0 B0) ⟨[pv 0 0, dv (.int .i64 n), dv (.func (.func 74) #[] #[])], [.live (.box 115 [.d (dsl false false kU8 rest), .d (.val (.int .i64 e))])]⟩ _ _
  have htl : (rest.take n.toNat).length ≤ n.toNat := List.length_take_le _ _
  refine T.seq ?_
  refine xR [] (by kernel_rfl) (by kernel_rfl) ?_
  refine nT ?_
  refine T.seq ?_
  refine T.seq ?_
  refine xR [hY 3 (b := false) (w := false) rfl,
    hY 4 (b := false) (w := false) rfl,
    hY 5 (b := false) (w := false) rfl,
    hY 6 (b := false) (w := false) rfl,
    hY 7 (b := false) (w := false) rfl,
    hP 8 (b := false) (w := false) rfl] (by kernel_rfl) (by kernel_rfl) ?_
  refine nT ?_
  by_cases hq1 : e ≠ 0
  · refine T.condT (by kernel_rfl) (decide_eq_true hq1) ?_
    refine T.seq ?_
    refine xR [] (by kernel_rfl) (by kernel_rfl) ?_
    refine nT ?_
    refine T.ret ?_
    refine rT ?_
    exact tE (.inl rfl) [.t 6 (.one (.d (.val (.slice none 0 0))))] ⟨⟨rfl, by kernel_rfl⟩, trivial⟩ [0] rfl rfl rfl rfl rfl rfl ⟨⟨rfl, (by have e1 : (e : Int) = (rdE rest e n 0) := (by (simp only [rdE]; rw [if_pos (by assumption)])); have hE := congrArg (fun (q1 : Int) => (.live (.box 115 [.d (dsl false false kU8 rest), .d (.val (.int .i64 q1))]) : HS)) e1; exact Eq.trans (by kernel_rfl) hE)⟩, trivial⟩
  · refine T.condF (by kernel_rfl) (decide_eq_false hq1) ?_
    refine T.skip ?_
    refine nT ?_
    refine T.seq ?_
    refine T.seq ?_
    refine xR [] (by kernel_rfl) (by kernel_rfl) ?_
    refine nT ?_
    by_cases hq2 : n > ((rest.length : Nat) : Int)
    · refine T.condT (by kernel_rfl) (decide_eq_true hq2) ?_
      refine T.seq ?_
      refine xR [] (by kernel_rfl) (by kernel_rfl) ?_
      refine nT ?_
      refine T.seq ?_
      refine xR [] (by kernel_rfl) (by kernel_rfl) ?_
      refine nT ?_
      refine T.ret ?_
      refine rT ?_
      exact tE (.inl rfl) [.t 6 (.one (.d (.val (.slice none 0 0))))] ⟨⟨rfl, by kernel_rfl⟩, trivial⟩ [0] rfl rfl rfl rfl rfl rfl ⟨⟨rfl, (by have e1 : (10 : Int) = (rdE rest e n 0) := (by (simp only [rdE]; (rw [if_neg (by assumption)]; rw [if_pos (by assumption)]))); have hE := congrArg (fun (q1 : Int) => (.live (.box 115 [.d (dsl false false kU8 rest), .d (.val (.int .i64 q1))]) : HS)) e1; exact Eq.trans (by kernel_rfl) hE)⟩, trivial⟩
    · exact absurd ⟨by omega, by omega, rfl⟩ hc
end Go.Proofs.Ytdclfhahcfefeaa.Q
namespace Go.Proofs.Ytdclfhahcfefeaa.Q
open Go Go.RowKit
set_option linter.unusedVariables false
set_option linter.unusedSimpArgs false
set_option maxRecDepth 100000
set_option maxHeartbeats 4000000
-- (*quaestor/wire.Reader).take
theorem take_limit_ok (rest : List UInt8) (e : Int) (n : Int) (most : Int) (hr : rest.length ≤ 140737488355328) (hn : n = 4) (hc : okT rest e n (limE most (rest.take n.toNat))) : Holds Try.prog 73 ⟨[pv 0 0, dv (.int .i64 n), dv (.func (.func 88) #[.int .i64 most] #[])], [.box 115 [.d (dsl false false kU8 rest), .d (.val (.int .i64 e))]], slV false false kU8 (rest.take n.toNat), [.live (.box 115 [.d (dsl false false kU8 (rest.drop n.toNat)), .d (.val (.int .i64 0))])]⟩ := by
  refine Holds.of Try.func73 rfl (N := 54) Try.ntmps73 rfl fun w0 B0 S0 U0 => ?_
  show T _ (mkBase 54 1 w0 S0 U0 B0) ⟨[pv 0 0, dv (.int .i64 n), dv (.func (.func 88) #[.int .i64 most] #[])], [.live (.box 115 [.d (dsl false false kU8 rest), .d (.val (.int .i64 e))])]⟩ _ _
  have htl : (rest.take n.toNat).length ≤ n.toNat := List.length_take_le _ _
  obtain ⟨hc1, hc2, hc3⟩ := hc
  have htm : (rest.take n.toNat).length = n.toNat := by rw [List.length_take]; omega
  refine T.seq ?_
  refine xR [] (by kernel_rfl) (by kernel_rfl) ?_
  refine nT ?_
  refine T.seq ?_
  refine T.seq ?_
  refine xR [hY 3 (b := false) (w := false) rfl,
    hY 4 (b := false) (w := false) rfl,
    hY 5 (b := false) (w := false) rfl,
    hY 6 (b := false) (w := false) rfl,
    hY 7 (b := false) (w := false) rfl,
    hP 8 (b := false) (w := false) rfl] (by kernel_rfl) (by kernel_rfl) ?_
  refine nT ?_
  by_cases hq1 : e ≠ 0
  · exact absurd hc1 hq1
  · refine T.condF (by kernel_rfl) (decide_eq_false hq1) ?_
    refine T.skip ?_
    refine nT ?_
    refine T.seq ?_
    refine T.seq ?_
    refine xR [] (by kernel_rfl) (by kernel_rfl) ?_
    refine nT ?_
    by_cases hq2 : n > ((rest.length : Nat) : Int)
    · exact absurd hc2 (by omega)
    · refine T.condF (by kernel_rfl) (decide_eq_false hq2) ?_
      refine T.skip ?_
      refine nT ?_
      refine T.seq ?_
      refine xR [hR 5 rfl rfl (q_slice false false kU8 rest (rest.take (n).toNat) 0 (n).toNat (lo := none) (hi := some (.tmp 31, n)) Try.underlying58 iat_5 rfl rfl rfl rfl (by omega) (by omega) (by omega) rfl (lt_of rfl) trivial)] (by kernel_rfl) (by kernel_rfl) ?_
      refine nT ?_
      refine T.seq ?_
      refine T.seq ?_
      refine xR [hR 3 rfl rfl (r_callV (fs := #[.int .i64 most]) (cs := #[]) (wire_may most false false (rest.take (n).toNat) (by omega)) Try.func88 rfl (by decide) [] [] (l := [(.tmp 35, slV false false kU8 (rest.take (n).toNat))]) [] rfl 0 0 rfl rfl rfl rfl rfl rfl rfl rfl rfl rfl rfl ⟨.inl ⟨rfl, rfl⟩, ⟨.inl ⟨rfl, rfl⟩, trivial⟩⟩ rfl (fun b hb => by cases hb) (.inl rfl) (lt_of rfl) trivial)] (by kernel_rfl) (by kernel_rfl) ?_
      refine nT ?_
      refine T.seq ?_
      refine xR [] (by kernel_rfl) (by kernel_rfl) ?_
      refine nT ?_
      by_cases hq3 : (limE most (rest.take (n).toNat)) ≠ 0
      · exact absurd hc3 hq3
      · refine T.condF (by kernel_rfl) (decide_eq_false hq3) ?_
        refine T.skip ?_
        refine nT ?_
        refine T.seq ?_
        refine xR [hR 6 rfl rfl (q_slice false false kU8 rest (rest.drop (n).toNat) (n).toNat rest.length (lo := some (.tmp 49, n)) (hi := none) Try.underlying58 iat_5 rfl rfl rfl (by omega) rfl (by omega) (by omega) (by rw [List.take_length]) (lt_of rfl) trivial)] (by kernel_rfl) (by kernel_rfl) ?_
        refine nT ?_
        refine T.seq ?_
        refine xR [] (by kernel_rfl) (by kernel_rfl) ?_
        refine nT ?_
        refine T.ret ?_
        exact tE (.inl rfl) [.t 6 (.one (.d (dsl false false kU8 (rest.take (n).toNat))))] ⟨⟨rfl, by kernel_rfl⟩, trivial⟩ [0] (by have e1 : ((rest.take n.toNat) : List UInt8) = (rest.take (n).toNat) := (by rfl); have hE := congrArg (fun (q1 : List UInt8) => (slV false false kU8 q1 : AV)) e1; exact hE) rfl rfl rfl rfl rfl ⟨⟨rfl, (by have e1 : ((rest.drop (n).toNat) : List UInt8) = (rest.drop n.toNat) := (by rfl); have e2 : (limE most (rest.take (n).toNat) : Int) = 0 := (by exact hc3); have hE := congr (congrArg (fun (q1 : List UInt8) (q2 : Int) => (.live (.box 115 [.d (dsl false false kU8 q1), .d (.val (.int .i64 q2))]) : HS)) e1) e2; exact Eq.trans (by kernel_rfl) hE)⟩, trivial⟩
end Go.Proofs.Ytdclfhahcfefeaa.Q
namespace Go.Proofs.Ytdclfhahcfefeaa.Q
open Go Go.RowKit
set_option linter.unusedVariables false
set_option linter.unusedSimpArgs false
set_option maxRecDepth 100000
set_option maxHeartbeats 4000000
-- (*quaestor/wire.Reader).take
theorem take_limit_no (rest : List UInt8) (e : Int) (n : Int) (most : Int) (hr : rest.length ≤ 140737488355328) (hn : n = 4) (hc : ¬ okT rest e n (limE most (rest.take n.toNat))) : Holds Try.prog 73 ⟨[pv 0 0, dv (.int .i64 n), dv (.func (.func 88) #[.int .i64 most] #[])], [.box 115 [.d (dsl false false kU8 rest), .d (.val (.int .i64 e))]], dv (.slice none 0 0), [.live (.box 115 [.d (dsl false false kU8 rest), .d (.val (.int .i64 (rdE rest e n (limE most (rest.take n.toNat)))))])]⟩ := by
  refine Holds.of Try.func73 rfl (N := 54) Try.ntmps73 rfl fun w0 B0 S0 U0 => ?_
  show T _ (mkBase 54 1 w0 S0 U0 B0) ⟨[pv 0 0, dv (.int .i64 n), dv (.func (.func 88) #[.int .i64 most] #[])], [.live (.box 115 [.d (dsl false false kU8 rest), .d (.val (.int .i64 e))])]⟩ _ _
  have htl : (rest.take n.toNat).length ≤ n.toNat := List.length_take_le _ _
  refine T.seq ?_
  refine xR [] (by kernel_rfl) (by kernel_rfl) ?_
  refine nT ?_
  refine T.seq ?_
  refine T.seq ?_
  refine xR [hY 3 (b := false) (w := false) rfl,
    hY 4 (b := false) (w := false) rfl,
    hY 5 (b := false) (w := false) rfl,
    hY 6 (b := false) (w := false) rfl,
    hY 7 (b := false) (w := false) rfl,
    hP 8 (b := false) (w := false) rfl] (by kernel_rfl) (by kernel_rfl) ?_
  refine nT ?_
  by_cases hq1 : e ≠ 0
  · refine T.condT (by kernel_rfl) (decide_eq_true hq1) ?_
    refine T.seq ?_
    refine xR [] (by kernel_rfl) (by kernel_rfl) ?_
    refine nT ?_
    refine T.ret ?_
    refine rT ?_
    exact tE (.inl rfl) [.t 6 (.one (.d (.val (.slice none 0 0))))] ⟨⟨rfl, by kernel_rfl⟩, trivial⟩ [0] rfl rfl rfl rfl rfl rfl ⟨⟨rfl, (by have e1 : (e : Int) = (rdE rest e n (limE most (rest.take n.toNat))) := (by (simp only [rdE]; rw [if_pos (by assumption)])); have hE := congrArg (fun (q1 : Int) => (.live (.box 115 [.d (dsl false false kU8 rest), .d (.val (.int .i64 q1))]) : HS)) e1; exact Eq.trans (by kernel_rfl) hE)⟩, trivial⟩
  · refine T.condF (by kernel_rfl) (decide_eq_false hq1) ?_
    refine T.skip ?_
    refine nT ?_
    refine T.seq ?_
    refine T.seq ?_
    refine xR [] (by kernel_rfl) (by kernel_rfl) ?_
    refine nT ?_
    by_cases hq2 : n > ((rest.length : Nat) : Int)
    · refine T.condT (by kernel_rfl) (decide_eq_true hq2) ?_
      refine T.seq ?_
      refine xR [] (by kernel_rfl) (by kernel_rfl) ?_
      refine nT ?_
      refine T.seq ?_
      refine xR [] (by kernel_rfl) (by kernel_rfl) ?_
      refine nT ?_
      refine T.ret ?_
      refine rT ?_
      exact tE (.inl rfl) [.t 6 (.one (.d (.val (.slice none 0 0))))] ⟨⟨rfl, by kernel_rfl⟩, trivial⟩ [0] rfl rfl rfl rfl rfl rfl ⟨⟨rfl, (by have e1 : (10 : Int) = (rdE rest e n (limE most (rest.take n.toNat))) := (by (simp only [rdE]; (rw [if_neg (by assumption)]; rw [if_pos (by assumption)]))); have hE := congrArg (fun (q1 : Int) => (.live (.box 115 [.d (dsl false false kU8 rest), .d (.val (.int .i64 q1))]) : HS)) e1; exact Eq.trans (by kernel_rfl) hE)⟩, trivial⟩
    · refine T.condF (by kernel_rfl) (decide_eq_false hq2) ?_
      refine T.skip ?_
      refine nT ?_
      refine T.seq ?_
      refine xR [hR 5 rfl rfl (q_slice false false kU8 rest (rest.take (n).toNat) 0 (n).toNat (lo := none) (hi := some (.tmp 31, n)) Try.underlying58 iat_5 rfl rfl rfl rfl (by omega) (by omega) (by omega) rfl (lt_of rfl) trivial)] (by kernel_rfl) (by kernel_rfl) ?_
      refine nT ?_
      refine T.seq ?_
      refine T.seq ?_
      refine xR [hR 3 rfl rfl (r_callV (fs := #[.int .i64 most]) (cs := #[]) (wire_may most false false (rest.take (n).toNat) (by omega)) Try.func88 rfl (by decide) [] [] (l := [(.tmp 35, slV false false kU8 (rest.take (n).toNat))]) [] rfl 0 0 rfl rfl rfl rfl rfl rfl rfl rfl rfl rfl rfl ⟨.inl ⟨rfl, rfl⟩, ⟨.inl ⟨rfl, rfl⟩, trivial⟩⟩ rfl (fun b hb => by cases hb) (.inl rfl) (lt_of rfl) trivial)] (by kernel_rfl) (by kernel_rfl) ?_
      refine nT ?_
      refine T.seq ?_
      refine xR [] (by kernel_rfl) (by kernel_rfl) ?_
      refine nT ?_
      by_cases hq3 : (limE most (rest.take (n).toNat)) ≠ 0
      · refine T.condT (by kernel_rfl) (decide_eq_true hq3) ?_
        refine T.seq ?_
        refine xR [] (by kernel_rfl) (by kernel_rfl) ?_
        refine nT ?_
        refine T.ret ?_
        refine rT ?_
        exact tE (.inl rfl) [.t 6 (.one (.d (.val (.slice none 0 0))))] ⟨⟨rfl, by kernel_rfl⟩, trivial⟩ [0] rfl rfl rfl rfl rfl rfl ⟨⟨rfl, (by have e1 : (limE most (rest.take (n).toNat) : Int) = (rdE rest e n (limE most (rest.take n.toNat))) := (by (simp only [rdE]; (rw [if_neg (by assumption)]; rw [if_neg (by assumption)]))); have hE := congrArg (fun (q1 : Int) => (.live (.box 115 [.d (dsl false false kU8 rest), .d (.val (.int .i64 q1))]) : HS)) e1; exact Eq.trans (by kernel_rfl) hE)⟩, trivial⟩
      · exact absurd ⟨by omega, by omega, Classical.not_not.1 hq3⟩ hc
end Go.Proofs.Ytdclfhahcfefeaa.Q
namespace Go.Proofs.Ytdclfhahcfefeaa.Q
open Go Go.RowKit
set_option linter.unusedVariables false
set_option linter.unusedSimpArgs false
set_option maxRecDepth 100000
set_option maxHeartbeats 4000000
-- (*quaestor/wire.Reader).Int
theorem rd_Int (rest : List UInt8) (e : Int) (hr : rest.length ≤ 140737488355328) : Holds Try.prog 49 ⟨[pv 0 0], [.box 115 [.d (dsl false false kU8 rest), .d (.val (.int .i64 e))]], dv (.int .i64 (rdI rest e)), [.live (.box 115 [.d (dsl false false kU8 (rdR rest e 8 0)), .d (.val (.int .i64 (rdE rest e 8 0)))])]⟩ := by
  refine Holds.of Try.func49 rfl (N := 11) Try.ntmps49 rfl fun w0 B0 S0 U0 => ?_
  show T _ (mkBase 11 1 w0 S0 U0 B0) ⟨[pv 0 0], [.live (.box 115 [.d (dsl false false kU8 rest), .d (.val (.int .i64 e))])]⟩ _ _
  have hi8 : numL (rest.take 8) < 18446744073709551616 := numL_lt8 (List.length_take_le _ _)
  refine T.seq ?_
  refine xR [] (by kernel_rfl) (by kernel_rfl) ?_
  refine nT ?_
  refine T.seq ?_
  refine T.seq ?_
  by_cases hq1 : okT rest e 8 0
  · have hk := id hq1; simp only [okT] at hk
    refine xR [hR 1 rfl rfl (r_call (take_any_ok rest e 8 (by assumption) (by omega) (by assumption)) Try.func73 rfl (by decide) [0] [] (l := [(.tmp 4, pv 0 0), (.const (.int .i64 8), dv (.int .i64 8)), (.func 74, dv (.func (.func 74) #[] #[]))]) [] rfl 1 1 rfl rfl rfl rfl rfl rfl rfl rfl rfl ⟨.inl ⟨rfl, rfl⟩, ⟨.inl ⟨rfl, rfl⟩, ⟨.inl ⟨rfl, rfl⟩, trivial⟩⟩⟩ rfl (fun b hb => by cases hb) (.inl rfl) (lt_of rfl) ⟨rfl, ⟨rfl, trivial⟩⟩)] (by kernel_rfl) (by kernel_rfl) ?_
    refine nT ?_
    refine T.seq ?_
    refine xR [hR 1 rfl rfl (r_neNil (s := .d (dsl false false kU8 (rest.take 8))) Try.underlying58 (.inr (by (simp [maxLen, -List.getD_eq_getElem?_getD] <;> omega))) (lt_of rfl) ⟨rfl, trivial⟩)] (by kernel_rfl) (by kernel_rfl) ?_
    refine nT ?_
    refine T.condT (b := true) (by kernel_rfl) rfl ?_
    refine T.seq ?_
    refine xR [hR 1 rfl rfl (r_call (wire_number false false (rest.take 8) (by (simp [maxLen, -List.getD_eq_getElem?_getD] <;> omega))) Try.func75 rfl (by decide) [] [] (l := [(.tmp 8, slV false false kU8 (rest.take 8))]) [] rfl 0 0 rfl rfl rfl rfl rfl rfl rfl rfl rfl ⟨.inl ⟨rfl, rfl⟩, trivial⟩ rfl (fun b hb => by cases hb) (.inl rfl) (lt_of rfl) trivial),
      hR 2 rfl rfl (r_conv (u := .int .u64 ((numL (rest.take 8) : Nat) : Int)) (v := .int .i64 (toI64 (numL (rest.take 8)))) (c_i64 (by assumption) Try.underlying113 Try.underlying2) (lt_of rfl) trivial)] (by kernel_rfl) (by kernel_rfl) ?_
    refine nT ?_
    refine T.ret ?_
    refine rT ?_
    exact tE (.inl rfl) [.t 2 (.one (.d (.val (.int .i64 (toI64 (numL (rest.take 8)))))))] ⟨⟨rfl, by kernel_rfl⟩, trivial⟩ [0] (by have e1 : (rdI rest e : Int) = toI64 (numL (rest.take 8)) := (by (simp only [rdI]; (rw [if_pos (by assumption)]; done))); have hE := congrArg (fun (q1 : Int) => (dv (.int .i64 q1) : AV)) e1; exact hE) rfl rfl rfl rfl rfl ⟨⟨rfl, (by have e1 : ((rest.drop 8) : List UInt8) = (rdR rest e 8 0) := (by (rw [rdR_ok (by assumption)]; rfl)); have e2 : (0 : Int) = (rdE rest e 8 0) := (by (rw [rdE_ok (by assumption)])); have hE := congr (congrArg (fun (q1 : List UInt8) (q2 : Int) => (.live (.box 115 [.d (dsl false false kU8 q1), .d (.val (.int .i64 q2))]) : HS)) e1) e2; exact Eq.trans (by kernel_rfl) hE)⟩, trivial⟩
  · refine xR [hR 1 rfl rfl (r_call (take_any_no rest e 8 (by assumption) (by omega) (by assumption)) Try.func73 rfl (by decide) [0] [] (l := [(.tmp 4, pv 0 0), (.const (.int .i64 8), dv (.int .i64 8)), (.func 74, dv (.func (.func 74) #[] #[]))]) [] rfl 1 1 rfl rfl rfl rfl rfl rfl rfl rfl rfl ⟨.inl ⟨rfl, rfl⟩, ⟨.inl ⟨rfl, rfl⟩, ⟨.inl ⟨rfl, rfl⟩, trivial⟩⟩⟩ rfl (fun b hb => by cases hb) (.inl rfl) (lt_of rfl) ⟨rfl, ⟨rfl, trivial⟩⟩)] (by kernel_rfl) (by kernel_rfl) ?_
    refine nT ?_
    refine T.seq ?_
    refine xR [hR 1 rfl rfl (r_bin (u1 := .slice none 0 0) (u2 := .slice none 0 0) (v := .bool false) (b_neqNilS Try.underlying58) (lt_of rfl) ⟨rfl, trivial⟩)] (by kernel_rfl) (by kernel_rfl) ?_
    refine nT ?_
    refine T.condF (b := false) (by kernel_rfl) rfl ?_
    refine T.skip ?_
    refine nT ?_
    refine T.seq ?_
    refine xR [] (by kernel_rfl) (by kernel_rfl) ?_
    refine nT ?_
    refine T.ret ?_
    exact tE (.inl rfl) [.t 2 (.one (.d (.val (.int .i64 0))))] ⟨⟨rfl, by kernel_rfl⟩, trivial⟩ [0] (by have e1 : (rdI rest e : Int) = 0 := (by (simp only [rdI]; (rw [if_neg (by assumption)]; done))); have hE := congrArg (fun (q1 : Int) => (dv (.int .i64 q1) : AV)) e1; exact hE) rfl rfl rfl rfl rfl ⟨⟨rfl, (by have e1 : (rest : List UInt8) = (rdR rest e 8 0) := (by (rw [rdR_no (by assumption)])); have hE := congrArg (fun (q1 : List UInt8) => (.live (.box 115 [.d (dsl false false kU8 q1), .d (.val (.int .i64 (rdE rest e 8 0)))]) : HS)) e1; exact Eq.trans (by kernel_rfl) hE)⟩, trivial⟩
end Go.Proofs.Ytdclfhahcfefeaa.Q
namespace Go.Proofs.Ytdclfhahcfefeaa.Q
open Go Go.RowKit
set_option linter.unusedVariables false
set_option linter.unusedSimpArgs false
set_option maxRecDepth 100000
set_option maxHeartbeats 4000000
-- (*quaestor/wire.Reader).Count
theorem rd_Count (rest : List UInt8) (e : Int) (most : Int) (hr : rest.length ≤ 140737488355328) : Holds Try.prog 76 ⟨[pv 0 0, dv (.int .i64 most)], [.box 115 [.d (dsl false false kU8 rest), .d (.val (.int .i64 e))]], dv (.int .i64 ((rdC rest e most : Nat) : Int)), [.live (.box 115 [.d (dsl false false kU8 (rdR rest e 4 (limE most (rest.take 4)))), .d (.val (.int .i64 (rdE rest e 4 (limE most (rest.take 4)))))])]⟩ := by
  refine Holds.of Try.func76 rfl (N := 15) Try.ntmps76 rfl fun w0 B0 S0 U0 => ?_
  show T _ (mkBase 15 1 w0 S0 U0 B0) ⟨[pv 0 0, dv (.int .i64 most)], [.live (.box 115 [.d (dsl false false kU8 rest), .d (.val (.int .i64 e))])]⟩ _ _
  have hi4 : numL (rest.take 4) < 4294967296 := numL_lt4 (List.length_take_le _ _)
  refine T.seq ?_
  refine xR [] (by kernel_rfl) (by kernel_rfl) ?_
  refine nT ?_
  refine T.seq ?_
  refine T.seq ?_
  by_cases hq1 : okT rest e 4 (limE most (rest.take 4))
  · have hk := id hq1; simp only [okT] at hk
    refine xR [hR 2 rfl rfl (r_makeFunc (fs := [(.tmp 7, .int .i64 most)]) (cs := []) rfl rfl (lt_of rfl) trivial),
      hR 3 rfl rfl (r_call (take_limit_ok rest e 4 most (by assumption) (by omega) (by assumption)) Try.func73 rfl (by decide) [0] [] (l := [(.tmp 6, pv 0 0), (.const (.int .i64 4), dv (.int .i64 4)), (.tmp 8, dv (.func (.func 88) #[.int .i64 most] #[]))]) [] rfl 1 1 rfl rfl rfl rfl rfl rfl rfl rfl rfl ⟨.inl ⟨rfl, rfl⟩, ⟨.inl ⟨rfl, rfl⟩, ⟨.inl ⟨rfl, rfl⟩, trivial⟩⟩⟩ rfl (fun b hb => by cases hb) (.inl rfl) (lt_of rfl) ⟨rfl, trivial⟩)] (by kernel_rfl) (by kernel_rfl) ?_
    refine nT ?_
    refine T.seq ?_
    refine xR [hR 1 rfl rfl (r_neNil (s := .d (dsl false false kU8 (rest.take 4))) Try.underlying58 (.inr (by (simp [maxLen, -List.getD_eq_getElem?_getD] <;> omega))) (lt_of rfl) ⟨rfl, trivial⟩)] (by kernel_rfl) (by kernel_rfl) ?_
    refine nT ?_
    refine T.condT (b := true) (by kernel_rfl) rfl ?_
    refine T.seq ?_
    refine xR [hR 1 rfl rfl (r_call (wire_number false false (rest.take 4) (by (simp [maxLen, -List.getD_eq_getElem?_getD] <;> omega))) Try.func75 rfl (by decide) [] [] (l := [(.tmp 12, slV false false kU8 (rest.take 4))]) [] rfl 0 0 rfl rfl rfl rfl rfl rfl rfl rfl rfl ⟨.inl ⟨rfl, rfl⟩, trivial⟩ rfl (fun b hb => by cases hb) (.inl rfl) (lt_of rfl) trivial),
      hR 2 rfl rfl (r_conv (u := .int .u64 ((numL (rest.take 4) : Nat) : Int)) (v := .int .i64 ((numL (rest.take 4) : Nat) : Int)) (c_int Try.underlying113 Try.underlying3 (by rw [IntKind.wrap_i64]; omega)) (lt_of rfl) trivial)] (by kernel_rfl) (by kernel_rfl) ?_
    refine nT ?_
    refine T.ret ?_
    refine rT ?_
    exact tE (.inl rfl) [.t 4 (.one (.d (.val (.int .i64 ((numL (rest.take 4) : Nat) : Int)))))] ⟨⟨rfl, by kernel_rfl⟩, trivial⟩ [0] (by have e1 : (((rdC rest e most : Nat) : Int) : Int) = ((numL (rest.take 4) : Nat) : Int) := (by (simp only [rdC]; (rw [if_pos (by assumption)]; done))); have hE := congrArg (fun (q1 : Int) => (dv (.int .i64 q1) : AV)) e1; exact hE) rfl rfl rfl rfl rfl ⟨⟨rfl, (by have e1 : ((rest.drop 4) : List UInt8) = (rdR rest e 4 (limE most (rest.take 4))) := (by (rw [rdR_ok (by assumption)]; rfl)); have e2 : (0 : Int) = (rdE rest e 4 (limE most (rest.take 4))) := (by (rw [rdE_ok (by assumption)])); have hE := congr (congrArg (fun (q1 : List UInt8) (q2 : Int) => (.live (.box 115 [.d (dsl false false kU8 q1), .d (.val (.int .i64 q2))]) : HS)) e1) e2; exact Eq.trans (by kernel_rfl) hE)⟩, trivial⟩
  · refine xR [hR 2 rfl rfl (r_makeFunc (fs := [(.tmp 7, .int .i64 most)]) (cs := []) rfl rfl (lt_of rfl) trivial),
      hR 3 rfl rfl (r_call (take_limit_no rest e 4 most (by assumption) (by omega) (by assumption)) Try.func73 rfl (by decide) [0] [] (l := [(.tmp 6, pv 0 0), (.const (.int .i64 4), dv (.int .i64 4)), (.tmp 8, dv (.func (.func 88) #[.int .i64 most] #[]))]) [] rfl 1 1 rfl rfl rfl rfl rfl rfl rfl rfl rfl ⟨.inl ⟨rfl, rfl⟩, ⟨.inl ⟨rfl, rfl⟩, ⟨.inl ⟨rfl, rfl⟩, trivial⟩⟩⟩ rfl (fun b hb => by cases hb) (.inl rfl) (lt_of rfl) ⟨rfl, trivial⟩)] (by kernel_rfl) (by kernel_rfl) ?_
    refine nT ?_
    refine T.seq ?_
    refine xR [hR 1 rfl rfl (r_bin (u1 := .slice none 0 0) (u2 := .slice none 0 0) (v := .bool false) (b_neqNilS Try.underlying58) (lt_of rfl) ⟨rfl, trivial⟩)] (by kernel_rfl) (by kernel_rfl) ?_
    refine nT ?_
    refine T.condF (b := false) (by kernel_rfl) rfl ?_
    refine T.skip ?_
    refine nT ?_
    refine T.seq ?_
    refine xR [] (by kernel_rfl) (by kernel_rfl) ?_
    refine nT ?_
    refine T.ret ?_
    exact tE (.inl rfl) [.t 4 (.one (.d (.val (.int .i64 0))))] ⟨⟨rfl, by kernel_rfl⟩, trivial⟩ [0] (by have e1 : (((rdC rest e most : Nat) : Int) : Int) = 0 := (by (simp only [rdC]; (rw [if_neg (by assumption)]; rfl))); have hE := congrArg (fun (q1 : Int) => (dv (.int .i64 q1) : AV)) e1; exact hE) rfl rfl rfl rfl rfl ⟨⟨rfl, (by have e1 : (rest : List UInt8) = (rdR rest e 4 (limE most (rest.take 4))) := (by (rw [rdR_no (by assumption)])); have hE := congrArg (fun (q1 : List UInt8) => (.live (.box 115 [.d (dsl false false kU8 q1), .d (.val (.int .i64 (rdE rest e 4 (limE most (rest.take 4)))))]) : HS)) e1; exact Eq.trans (by kernel_rfl) hE)⟩, trivial⟩
end Go.Proofs.Ytdclfhahcfefeaa.Q
namespace Go.Proofs.Ytdclfhahcfefeaa.Q
open Go Go.RowKit
set_option linter.unusedVariables false
set_option linter.unusedSimpArgs false
set_option maxRecDepth 100000
set_option maxHeartbeats 4000000
-- (*quaestor/wire.Reader).End
theorem rd_End (rest : List UInt8) (e : Int) (hr : rest.length ≤ 140737488355328) : Holds Try.prog 51 ⟨[pv 0 0], [.box 115 [.d (dsl false false kU8 rest), .d (.val (.int .i64 e))]], .tup [], [.live (.box 115 [.d (dsl false false kU8 rest), .d (.val (.int .i64 (rdX rest e)))])]⟩ := by
  refine Holds.of Try.func51 rfl (N := 22) Try.ntmps51 rfl fun w0 B0 S0 U0 => ?_
  show T _ (mkBase 22 1 w0 S0 U0 B0) ⟨[pv 0 0], [.live (.box 115 [.d (dsl false false kU8 rest), .d (.val (.int .i64 e))])]⟩ _ _
  refine T.seq ?_
  by_cases hq1 : e = 0
  · refine xR [hY 3 (b := true) (w := true) rfl,
      hY 4 (b := true) (w := true) rfl,
      hY 5 (b := true) (w := true) rfl,
      hY 6 (b := true) (w := true) rfl,
      hY 7 (b := true) (w := true) rfl,
      hP 8 (b := true) (w := true) rfl,
      hY 10 (decide_eq_true hq1),
      hY 11 (decide_eq_true hq1),
      hY 12 (decide_eq_true hq1),
      hY 13 (decide_eq_true hq1),
      hY 14 (decide_eq_true hq1),
      hY 15 (decide_eq_true hq1),
      hP 16 (decide_eq_true hq1)] (by kernel_rfl) (by kernel_rfl) ?_
    refine nT ?_
    by_cases hq2 : ((rest.length : Nat) : Int) > 0
    · refine T.condT (by kernel_rfl) (decide_eq_true hq2) ?_
      refine xR [] (by kernel_rfl) (by kernel_rfl) ?_
      exact tE (.inr rfl) [] trivial [0] rfl rfl rfl rfl rfl rfl ⟨⟨rfl, (by have e1 : (13 : Int) = (rdX rest e) := (by (simp only [rdX]; rw [if_pos ⟨by assumption, by assumption⟩])); have hE := congrArg (fun (q1 : Int) => (.live (.box 115 [.d (dsl false false kU8 rest), .d (.val (.int .i64 q1))]) : HS)) e1; exact Eq.trans (by kernel_rfl) hE)⟩, trivial⟩
    · refine T.condF (by kernel_rfl) (decide_eq_false hq2) ?_
      refine T.skip ?_
      exact tE (.inr rfl) [] trivial [0] rfl rfl rfl rfl rfl rfl ⟨⟨rfl, (by have e1 : (e : Int) = (rdX rest e) := (by (simp only [rdX]; rw [if_neg (fun h => by exact absurd h.2 (by assumption))])); have hE := congrArg (fun (q1 : Int) => (.live (.box 115 [.d (dsl false false kU8 rest), .d (.val (.int .i64 q1))]) : HS)) e1; exact Eq.trans (by kernel_rfl) hE)⟩, trivial⟩
  · refine xR [hY 3 (b := true) (w := true) rfl,
      hY 4 (b := true) (w := true) rfl,
      hY 5 (b := true) (w := true) rfl,
      hY 6 (b := true) (w := true) rfl,
      hY 7 (b := true) (w := true) rfl,
      hP 8 (b := true) (w := true) rfl,
      hN 10 true (decide_eq_false hq1),
      hN 11 true (decide_eq_false hq1),
      hN 12 true (decide_eq_false hq1),
      hN 13 true (decide_eq_false hq1),
      hN 14 true (decide_eq_false hq1),
      hN 15 true (decide_eq_false hq1),
      hP 16 (decide_eq_false hq1)] (by kernel_rfl) (by kernel_rfl) ?_
    refine nT ?_
    refine T.condF (b := false) (by kernel_rfl) rfl ?_
    refine T.skip ?_
    exact tE (.inr rfl) [] trivial [0] rfl rfl rfl rfl rfl rfl ⟨⟨rfl, (by have e1 : (e : Int) = (rdX rest e) := (by (simp only [rdX]; rw [if_neg (fun h => by exact absurd h.1 (by assumption))])); have hE := congrArg (fun (q1 : Int) => (.live (.box 115 [.d (dsl false false kU8 rest), .d (.val (.int .i64 q1))]) : HS)) e1; exact Eq.trans (by kernel_rfl) hE)⟩, trivial⟩
end Go.Proofs.Ytdclfhahcfefeaa.Q
namespace Go.Proofs.Ytdclfhahcfefeaa.Q
open Go Go.RowKit
set_option linter.unusedVariables false
set_option linter.unusedSimpArgs false
set_option maxRecDepth 100000
set_option maxHeartbeats 4000000
-- (*quaestor/wire.Reader).Err
theorem rd_Err (rest : List UInt8) (e : Int) : Holds Try.prog 52 ⟨[pv 0 0], [.box 115 [.d (dsl false false kU8 rest), .d (.val (.int .i64 e))]], dv (.int .i64 e), [.live (.box 115 [.d (dsl false false kU8 rest), .d (.val (.int .i64 e))])]⟩ := by
  refine Holds.of Try.func52 rfl (N := 9) Try.ntmps52 rfl fun w0 B0 S0 U0 => ?_
  show T _ (mkBase 9 1 w0 S0 U0 B0) ⟨[pv 0 0], [.live (.box 115 [.d (dsl false false kU8 rest), .d (.val (.int .i64 e))])]⟩ _ _
  refine T.seq ?_
  refine xR [] (by kernel_rfl) (by kernel_rfl) ?_
  refine nT ?_
  refine T.seq ?_
  refine T.seq ?_
  refine xR [] (by kernel_rfl) (by kernel_rfl) ?_
  refine nT ?_
  refine T.condF (b := false) (by kernel_rfl) rfl ?_
  refine T.skip ?_
  refine nT ?_
  refine T.seq ?_
  refine xR [] (by kernel_rfl) (by kernel_rfl) ?_
  refine nT ?_
  refine T.ret ?_
  exact tE (.inl rfl) [.t 2 (.one (.d (.val (.int .i64 e))))] ⟨⟨rfl, by kernel_rfl⟩, trivial⟩ [0] rfl rfl rfl rfl rfl rfl ⟨⟨rfl, (by kernel_rfl)⟩, trivial⟩
end Go.Proofs.Ytdclfhahcfefeaa.Q
namespace Go.Proofs.Ytdclfhahcfefeaa.Q
open Go Go.RowKit
set_option linter.unusedVariables false
set_option linter.unusedSimpArgs false
set_option maxRecDepth 100000
set_option maxHeartbeats 4000000
-- (*quaestor/wire.Reader).Bytes
theorem rd_Bytes (rest : List UInt8) (e : Int) (most : Int) (hr : rest.length ≤ 140737488355328) : Holds Try.prog 50 ⟨[pv 0 0, dv (.int .i64 most)], [.box 115 [.d (dsl false false kU8 rest), .d (.val (.int .i64 e))]], ownV 1 kU8 0 (rdY rest e most).length, [.live (.box 115 [.d (dsl false false kU8 (rdYR rest e most)), .d (.val (.int .i64 (rdYE rest e most)))]), .live (arrK 5 kU8 (rdY rest e most))]⟩ := by
  refine Holds.of Try.func50 rfl (N := 36) Try.ntmps50 rfl fun w0 B0 S0 U0 => ?_
  show T _ (mkBase 36 1 w0 S0 U0 B0) ⟨[pv 0 0, dv (.int .i64 most)], [.live (.box 115 [.d (dsl false false kU8 rest), .d (.val (.int .i64 e))])]⟩ _ _
  have hrc := rdC_lt rest e most
  have hrl := rdR_len rest e 4 (limE most (rest.take 4))
  refine T.seq ?_
  refine xR [] (by kernel_rfl) (by kernel_rfl) ?_
  refine nT ?_
  refine T.seq ?_
  refine T.seq ?_
  refine xR [] (by kernel_rfl) (by kernel_rfl) ?_
  refine nT ?_
  refine T.condF (b := false) (by kernel_rfl) rfl ?_
  refine T.skip ?_
  refine nT ?_
  refine T.seq ?_
  refine xR [] (by kernel_rfl) (by kernel_rfl) ?_
  refine nT ?_
  refine T.seq ?_
  refine xR [hR 2 rfl rfl (r_call (rd_Count rest e most (by assumption)) Try.func76 rfl (by decide) [0] [] (l := [(.tmp 14, pv 0 0), (.tmp 15, dv (.int .i64 most))]) [] rfl 1 1 rfl rfl rfl rfl rfl rfl rfl rfl rfl ⟨.inl ⟨rfl, rfl⟩, ⟨.inl ⟨rfl, rfl⟩, trivial⟩⟩ rfl (fun b hb => by cases hb) (.inl rfl) (lt_of rfl) trivial)] (by kernel_rfl) (by kernel_rfl) ?_
  refine nT ?_
  refine T.seq ?_
  refine T.seq ?_
  refine xR [] (by kernel_rfl) (by kernel_rfl) ?_
  refine nT ?_
  by_cases hq1 : (rdE rest e 4 (limE most (rest.take 4))) ≠ 0
  · have hy := rdY_fail hq1
    refine T.condT (by kernel_rfl) (decide_eq_true hq1) ?_
    refine T.seq ?_
    refine xR [] (by kernel_rfl) (by kernel_rfl) ?_
    refine nT ?_
    refine T.ret ?_
    refine rT ?_
    refine Ends.turn (s' := ⟨[pv 0 0, dv (.int .i64 most), aa, aa, dv (.slice none 0 0), slV false false kU8 rest, dv (.int .i64 ((rdC rest e most : Nat) : Int)), aa, aa, dv (.bool false), aa, aa, aa, aa, aa, aa, aa, aa, aa, aa, aa, dv (.bool (decide ((rdE rest e 4 (limE most (rest.take 4))) ≠ 0)))], [.live (.box 115 [.d (dsl false false kU8 (rdR rest e 4 (limE most (rest.take 4)))), .d (.val (.int .i64 (rdE rest e 4 (limE most (rest.take 4)))))])]⟩) (fun _ _ hG => Gs.norm (by kernel_rfl) hG) ?_
    refine Ends.turn (s' := ⟨[pv 0 0, dv (.int .i64 most), aa, aa, ownV 1 kU8 0 0, slV false false kU8 rest, dv (.int .i64 ((rdC rest e most : Nat) : Int)), aa, aa, dv (.bool false), aa, aa, aa, aa, aa, aa, aa, aa, aa, aa, aa, dv (.bool (decide ((rdE rest e 4 (limE most (rest.take 4))) ≠ 0)))], [.live (.box 115 [.d (dsl false false kU8 (rdR rest e 4 (limE most (rest.take 4)))), .d (.val (.int .i64 (rdE rest e 4 (limE most (rest.take 4)))))]), .live (arrK 5 kU8 ([] : List UInt8))]⟩) (fun _ _ hG => Gs.absent 1 4 5 kU8 rfl rfl hG) ?_
    exact tE (.inl rfl) [.t 4 (.one (.own 1 kU8.sz 0 0))] ⟨⟨rfl, by kernel_rfl⟩, trivial⟩ [0, 1] (by have e1 : ((rdY rest e most).length : Nat) = 0 := (by (rw [hy.1]; rfl)); have hE := congrArg (fun (q1 : Nat) => (ownV 1 kU8 0 q1 : AV)) e1; exact hE) rfl rfl rfl rfl rfl ⟨⟨rfl, (by have e1 : ((rdR rest e 4 (limE most (rest.take 4))) : List UInt8) = (rdYR rest e most) := (by (rw [hy.2.1, hy.2.2.2])); have e2 : ((rdE rest e 4 (limE most (rest.take 4))) : Int) = (rdYE rest e most) := (by (rw [hy.2.2.1]; done)); have hE := congr (congrArg (fun (q1 : List UInt8) (q2 : Int) => (.live (.box 115 [.d (dsl false false kU8 q1), .d (.val (.int .i64 q2))]) : HS)) e1) e2; exact Eq.trans (by kernel_rfl) hE)⟩, ⟨⟨rfl, (by have e1 : (([] : List UInt8) : List UInt8) = (rdY rest e most) := (by (rw [hy.1]; done)); have hE := congrArg (fun (q1 : List UInt8) => (.live (arrK 5 kU8 q1) : HS)) e1; exact Eq.trans (by kernel_rfl) hE)⟩, trivial⟩⟩
  · have hz := Classical.not_not.1 hq1
    refine T.condF (by kernel_rfl) (decide_eq_false hq1) ?_
    refine T.skip ?_
    refine nT ?_
    refine T.seq ?_
    by_cases hq2 : okT (rdR rest e 4 (limE most (rest.take 4))) (rdE rest e 4 (limE most (rest.take 4))) ((rdC rest e most : Nat) : Int) 0
    · have hy := rdY_ok hz hq2
      refine xR [hR 2 rfl rfl (r_call (take_any_ok (rdR rest e 4 (limE most (rest.take 4))) (rdE rest e 4 (limE most (rest.take 4))) ((rdC rest e most : Nat) : Int) (by omega) (by omega) (by assumption)) Try.func73 rfl (by decide) [0] [] (l := [(.tmp 22, pv 0 0), (.tmp 23, dv (.int .i64 ((rdC rest e most : Nat) : Int))), (.func 74, dv (.func (.func 74) #[] #[]))]) [] rfl 1 1 rfl rfl rfl rfl rfl rfl rfl rfl rfl ⟨.inl ⟨rfl, rfl⟩, ⟨.inl ⟨rfl, rfl⟩, ⟨.inl ⟨rfl, rfl⟩, trivial⟩⟩⟩ rfl (fun b hb => by cases hb) (.inl rfl) (lt_of rfl) ⟨rfl, trivial⟩)] (by kernel_rfl) (by kernel_rfl) ?_
      refine nT ?_
      refine T.seq ?_
      refine T.seq ?_
      refine xR [] (by kernel_rfl) (by kernel_rfl) ?_
      refine nT ?_
      refine T.condF (b := false) (by kernel_rfl) rfl ?_
      refine T.skip ?_
      refine nT ?_
      refine T.seq ?_
      refine xR [hR 1 rfl rfl (r_call (clone_u8 false false ((rdR rest e 4 (limE most (rest.take 4))).take ((rdC rest e most : Nat) : Int).toNat) (by (simp [maxLen, -List.getD_eq_getElem?_getD] <;> omega))) Try.func67 rfl (by decide) [1] [] (l := [(.tmp 34, slV false false kU8 ((rdR rest e 4 (limE most (rest.take 4))).take ((rdC rest e most : Nat) : Int).toNat))]) [] rfl 0 1 rfl rfl rfl rfl rfl rfl rfl rfl rfl ⟨.inl ⟨rfl, rfl⟩, trivial⟩ rfl (fun b hb => by cases hb) (.inl rfl) (lt_of rfl) trivial)] (by kernel_rfl) (by kernel_rfl) ?_
      refine nT ?_
      refine T.ret ?_
      exact tE (.inl rfl) [.t 4 (.one (.own 1 kU8.sz 0 ((rdR rest e 4 (limE most (rest.take 4))).take ((rdC rest e most : Nat) : Int).toNat).length))] ⟨⟨rfl, by kernel_rfl⟩, trivial⟩ [0, 1] (by have e1 : ((rdY rest e most).length : Nat) = ((rdR rest e 4 (limE most (rest.take 4))).take ((rdC rest e most : Nat) : Int).toNat).length := (by (rw [hy.1]; done)); have hE := congrArg (fun (q1 : Nat) => (ownV 1 kU8 0 q1 : AV)) e1; exact hE) rfl rfl rfl rfl rfl ⟨⟨rfl, (by have e1 : (((rdR rest e 4 (limE most (rest.take 4))).drop ((rdC rest e most : Nat) : Int).toNat) : List UInt8) = (rdYR rest e most) := (by (rw [hy.2.1]; done)); have e2 : (0 : Int) = (rdYE rest e most) := (by (rw [hy.2.2]; done)); have hE := congr (congrArg (fun (q1 : List UInt8) (q2 : Int) => (.live (.box 115 [.d (dsl false false kU8 q1), .d (.val (.int .i64 q2))]) : HS)) e1) e2; exact Eq.trans (by kernel_rfl) hE)⟩, ⟨⟨rfl, (by have e1 : (((rdR rest e 4 (limE most (rest.take 4))).take ((rdC rest e most : Nat) : Int).toNat) : List UInt8) = (rdY rest e most) := (by (rw [hy.1]; done)); have hE := congrArg (fun (q1 : List UInt8) => (.live (arrK 5 kU8 q1) : HS)) e1; exact Eq.trans (by kernel_rfl) hE)⟩, trivial⟩⟩
    · have hy := rdY_short hz hq2
      refine xR [hR 2 rfl rfl (r_call (take_any_no (rdR rest e 4 (limE most (rest.take 4))) (rdE rest e 4 (limE most (rest.take 4))) ((rdC rest e most : Nat) : Int) (by omega) (by omega) (by assumption)) Try.func73 rfl (by decide) [0] [] (l := [(.tmp 22, pv 0 0), (.tmp 23, dv (.int .i64 ((rdC rest e most : Nat) : Int))), (.func 74, dv (.func (.func 74) #[] #[]))]) [] rfl 1 1 rfl rfl rfl rfl rfl rfl rfl rfl rfl ⟨.inl ⟨rfl, rfl⟩, ⟨.inl ⟨rfl, rfl⟩, ⟨.inl ⟨rfl, rfl⟩, trivial⟩⟩⟩ rfl (fun b hb => by cases hb) (.inl rfl) (lt_of rfl) ⟨rfl, trivial⟩)] (by kernel_rfl) (by kernel_rfl) ?_
      refine nT ?_
      refine T.seq ?_
      refine T.seq ?_
      refine xR [] (by kernel_rfl) (by kernel_rfl) ?_
      refine nT ?_
      by_cases hq3 : (rdE (rdR rest e 4 (limE most (rest.take 4))) (rdE rest e 4 (limE most (rest.take 4))) ((rdC rest e most : Nat) : Int) 0) ≠ 0
      · refine T.condT (by kernel_rfl) (decide_eq_true hq3) ?_
        refine xR [] (by kernel_rfl) (by kernel_rfl) ?_
        refine nT ?_
        refine T.seq ?_
        refine xR [hR 1 rfl rfl (r_call (clone_u8 false false ([] : List UInt8) (by (simp [maxLen, -List.getD_eq_getElem?_getD] <;> omega))) Try.func67 rfl (by decide) [1] [] (l := [(.tmp 34, dv (.slice none 0 0))]) [] rfl 0 1 rfl rfl rfl rfl rfl rfl rfl rfl rfl ⟨.inr (.inr ⟨rfl, rfl, rfl⟩), trivial⟩ rfl (fun b hb => by cases hb) (.inl rfl) (lt_of rfl) trivial)] (by kernel_rfl) (by kernel_rfl) ?_
        refine nT ?_
        refine T.ret ?_
        exact tE (.inl rfl) [.t 4 (.one (.own 1 kU8.sz 0 ([] : List UInt8).length))] ⟨⟨rfl, by kernel_rfl⟩, trivial⟩ [0, 1] (by have e1 : ((rdY rest e most).length : Nat) = ([] : List UInt8).length := (by (rw [hy.1]; done)); have hE := congrArg (fun (q1 : Nat) => (ownV 1 kU8 0 q1 : AV)) e1; exact hE) rfl rfl rfl rfl rfl ⟨⟨rfl, (by have e1 : (rest : List UInt8) = (rdYR rest e most) := (by (rw [hy.2.1]; done)); have e2 : ((rdE (rdR rest e 4 (limE most (rest.take 4))) (rdE rest e 4 (limE most (rest.take 4))) ((rdC rest e most : Nat) : Int) 0) : Int) = (rdYE rest e most) := (by (rw [hy.2.2]; done)); have hE := congr (congrArg (fun (q1 : List UInt8) (q2 : Int) => (.live (.box 115 [.d (dsl false false kU8 q1), .d (.val (.int .i64 q2))]) : HS)) e1) e2; exact Eq.trans (by kernel_rfl) hE)⟩, ⟨⟨rfl, (by have e1 : (([] : List UInt8) : List UInt8) = (rdY rest e most) := (by (rw [hy.1]; done)); have hE := congrArg (fun (q1 : List UInt8) => (.live (arrK 5 kU8 q1) : HS)) e1; exact Eq.trans (by kernel_rfl) hE)⟩, trivial⟩⟩
      · exact absurd (rdE_no hq2) hq3
end Go.Proofs.Ytdclfhahcfefeaa.Q
namespace Go.Proofs.Ytdclfhahcfefeaa.Q
set_option linter.unusedVariables false
set_option linter.unusedSimpArgs false

/-! ### The document's reader: bytes, and how far it is -/

def rfN (B : List UInt8) (a m : Nat) : Nat := if a + m ≤ B.length then numL ((B.drop a).take m) else 0
def rfA (B : List UInt8) (a : Nat) (e n m : Int) : Nat := if okT (B.drop a) e n m then a + n.toNat else a
section
variable {B : List UInt8} {a : Nat} {e n m : Int}
theorem rfN_ok {m : Nat} (h : a + m ≤ B.length) : rfN B a m = numL ((B.drop a).take m) := if_pos h
theorem rfN_lt (B : List UInt8) (a : Nat) {m : Nat} (hm : m ≤ 8) : rfN B a m < 18446744073709551616 := by
  unfold rfN; split
  · exact numL_lt8 (Nat.le_trans (List.length_take_le _ _) hm)
  · decide
theorem rfN_lt4 (B : List UInt8) (a : Nat) : rfN B a 4 < 4294967296 := by
  unfold rfN; split
  · exact numL_lt4 (List.length_take_le _ _)
  · decide
theorem numL_dropk {k : Nat} (hk : a + k < B.length) : numL ((B.drop a).take (k + 1)) = numL ((B.drop a).take k) * 2 ^ 8 ||| (B.getD (a + k) 0).toNat := by
  rw [numL_take (by simp; omega)]
  congr 2
  simp [List.getD_eq_getElem?_getD]
theorem rfA_ok (h : okT (B.drop a) e n m) : rfA B a e n m = a + n.toNat := if_pos h
theorem rfA_no (h : ¬ okT (B.drop a) e n m) : rfA B a e n m = a := if_neg h
theorem rfA_le (ha : a ≤ B.length) : rfA B a e n m ≤ B.length := by
  unfold rfA; split
  · rename_i h
    have := h.2.1
    rw [List.length_drop] at this
    omega
  · exact ha
theorem rf_e (h : e ≠ 0) (n m : Int) : ¬ okT (B.drop a) e n m ∧ rdE (B.drop a) e n m = e := ⟨fun h1 => h h1.1, if_pos h⟩
theorem rf_short {k : Nat} (hn : n = ((k : Nat) : Int)) (he : ¬ e ≠ 0) (h : ¬ a + k ≤ B.length) (ha : a ≤ B.length) (m : Int) : ¬ okT (B.drop a) e n m ∧ rdE (B.drop a) e n m = 10 := by
  have hl : (B.drop a).length = B.length - a := List.length_drop
  subst hn
  refine ⟨fun h1 => ?_, ?_⟩
  · have := h1.2.1; omega
  · unfold rdE
    rw [if_neg he, if_pos (by omega)]
theorem rf_m {k : Nat} {c : Int} (hn : n = ((k : Nat) : Int)) (he : ¬ e ≠ 0) (h : a + k ≤ B.length) {m : Int} (hm : m = c) (hc : c ≠ 0) : ¬ okT (B.drop a) e n m ∧ rdE (B.drop a) e n m = c := by
  have hl : (B.drop a).length = B.length - a := List.length_drop
  subst hn
  subst hm
  refine ⟨fun h1 => hc h1.2.2, ?_⟩
  unfold rdE
  rw [if_neg he, if_neg (by omega)]
theorem rf_ok {k : Nat} (hn : n = ((k : Nat) : Int)) (he : ¬ e ≠ 0) (h : a + k ≤ B.length) {m : Int} (hm : m = 0) : okT (B.drop a) e n m ∧ rdE (B.drop a) e n m = 0 := by
  have hl : (B.drop a).length = B.length - a := List.length_drop
  subst hn
  have hk : okT (B.drop a) e ((k : Nat) : Int) m := ⟨Classical.not_not.1 he, by omega, hm⟩
  exact ⟨hk, rdE_ok hk⟩
theorem lim_of {most : Int} (h : a + 4 ≤ B.length) : limE most ((B.drop a).take 4) = if ((rfN B a 4 : Nat) : Int) > max 0 most then 11 else 0 := by
  unfold limE
  rw [rfN_ok h, Int.max_comm]
theorem truth_of (h : a + 1 ≤ B.length) : truthE ((B.drop a).take 1) = if ((rfN B a 1 : Nat) : Int) > 1 then 12 else 0 := by
  have h1 : ((B.drop a).take 1) = [B.getD a 0] := by
    rw [List.getD_eq_getElem?_getD, List.getElem?_eq_getElem (by omega), List.drop_eq_getElem_cons (by omega)]
    rfl
  have h2 : rfN B a 1 = (B.getD a 0).toNat := by rw [rfN_ok h, h1]; exact numL_snoc [] _ |>.trans (by simp [numL])
  rw [h2, h1]
  rfl
theorem bool_of (h : a + 1 ≤ B.length) : ((((B.drop a).take 1).getD 0 0).toNat : Int) = ((rfN B a 1 : Nat) : Int) := by
  have h1 : ((B.drop a).take 1) = [B.getD a 0] := by
    rw [List.getD_eq_getElem?_getD, List.getElem?_eq_getElem (by omega), List.drop_eq_getElem_cons (by omega)]
    rfl
  have h2 : rfN B a 1 = (B.getD a 0).toNat := by rw [rfN_ok h, h1]; exact numL_snoc [] _ |>.trans (by simp [numL])
  rw [h2, h1]
  rfl
theorem float_of (h : a + 8 ≤ B.length) : floatE ((B.drop a).take 8) = if nanB (rfN B a 8) = true ∧ ((rfN B a 8 : Nat) : Int) ≠ 9221120237041090561 then 12 else 0 := by
  unfold floatE
  rw [rfN_ok h]
end
/-- Bytes, by the document's reader. -/
def rfYA (B : List UInt8) (a : Nat) (e most : Int) : Nat := if okY (B.drop a) e most then a + 4 + numL ((B.drop a).take 4) else a
section
variable {B : List UInt8} {a : Nat} {e most : Int}
theorem rfYA_drop (B : List UInt8) (a : Nat) (e most : Int) : B.drop (rfYA B a e most) = rdYR (B.drop a) e most := by
  unfold rfYA rdYR
  split
  · rw [List.drop_drop, List.drop_drop, Nat.add_assoc]
  · rfl
theorem rfA_drop (B : List UInt8) (a : Nat) (e n m : Int) : B.drop (rfA B a e n m) = rdR (B.drop a) e n m := by
  unfold rfA rdR
  split
  · rw [List.drop_drop]
  · rfl
theorem rfYA_le (ha : a ≤ B.length) : rfYA B a e most ≤ B.length := by
  unfold rfYA; split
  · rename_i h
    have h1 := h.1.2.1
    have h2 := h.2
    simp only [List.length_drop] at h1 h2
    omega
  · exact ha
theorem rfY_fail (h : rdE (B.drop a) e 4 (limE most ((B.drop a).take 4)) ≠ 0) : rdY (B.drop a) e most = [] ∧ rfYA B a e most = a ∧ rdYE (B.drop a) e most = rdE (B.drop a) e 4 (limE most ((B.drop a).take 4)) ∧ rfA B a e 4 (limE most ((B.drop a).take 4)) = a := by
  have h1 : ¬ okT (B.drop a) e 4 (limE most ((B.drop a).take 4)) := fun hk => h (rdE_ok hk)
  exact ⟨if_neg fun h2 => h1 h2.1, if_neg fun h2 => h1 h2.1, if_neg h1, rfA_no h1⟩
theorem rfY_short (h : rdE (B.drop a) e 4 (limE most ((B.drop a).take 4)) = 0) (h2 : ((rdC (B.drop a) e most : Nat) : Int) > ((B.length : Nat) : Int) - ((rfA B a e 4 (limE most ((B.drop a).take 4)) : Nat) : Int)) (ha : a ≤ B.length) :
    rdY (B.drop a) e most = [] ∧ rfYA B a e most = a ∧ rdYE (B.drop a) e most = 10 := by
  have h1 := okT_of h
  have h4 : a + 4 ≤ B.length := by have := h1.2.1; rw [List.length_drop] at this; omega
  rw [rdC_ok h1, rfA_ok h1] at h2
  have h3 : ¬ numL ((B.drop a).take 4) ≤ ((B.drop a).drop 4).length := by simp only [List.length_drop]; omega
  refine ⟨if_neg fun hy => h3 hy.2, if_neg fun hy => h3 hy.2, ?_⟩
  unfold rdYE
  rw [if_pos h1, if_neg h3]
theorem rfY_ok (h : rdE (B.drop a) e 4 (limE most ((B.drop a).take 4)) = 0) (h2 : ¬ ((rdC (B.drop a) e most : Nat) : Int) > ((B.length : Nat) : Int) - ((rfA B a e 4 (limE most ((B.drop a).take 4)) : Nat) : Int)) (ha : a ≤ B.length) :
    rfA B a e 4 (limE most ((B.drop a).take 4)) = a + 4 ∧ rdC (B.drop a) e most = numL ((B.drop a).take 4) ∧ a + 4 + numL ((B.drop a).take 4) ≤ B.length ∧ rdY (B.drop a) e most = (B.take (a + 4 + numL ((B.drop a).take 4))).drop (a + 4) ∧ rfYA B a e most = a + 4 + numL ((B.drop a).take 4) ∧ rdYE (B.drop a) e most = 0 := by
  have h1 := okT_of h
  have h4 : a + 4 ≤ B.length := by have := h1.2.1; rw [List.length_drop] at this; omega
  rw [rdC_ok h1, rfA_ok h1] at h2
  have h3 : numL ((B.drop a).take 4) ≤ ((B.drop a).drop 4).length := by simp only [List.length_drop]; omega
  have hy : okY (B.drop a) e most := ⟨h1, h3⟩
  refine ⟨rfA_ok h1, rdC_ok h1, by simp only [List.length_drop] at h3; omega, ?_, if_pos hy, ?_⟩
  · rw [rdY, if_pos hy, List.drop_drop, List.drop_take, show a + 4 + numL ((B.drop a).take 4) - (a + 4) = numL ((B.drop a).take 4) by omega]
  · unfold rdYE
    rw [if_pos h1, if_pos h3]
end
end Go.Proofs.Ytdclfhahcfefeaa.Q
