import Derived.Test.YtdgjpmhpjhdkmaaC02n2
namespace Go.Proofs.Ytdgjpmhpjhdkmaa.Q
open Go Go.RowKit
set_option linter.unusedVariables false
set_option linter.unusedSimpArgs false
set_option maxRecDepth 100000
set_option maxHeartbeats 4000000
theorem iat_59 : Try.prog.info? 59 = some Try.t59 := by kernel_rfl
theorem zero_59 : Zero Try.prog 59 [.slice none 0 0, .int .i64 0] := ⟨_, _, iat_59, rfl, rfl⟩
theorem iat_37 : Try.prog.info? 37 = some Try.t37 := by kernel_rfl
theorem iat_50 : Try.prog.info? 50 = some Try.t50 := by kernel_rfl
theorem places_59 : Places Try.prog 59 [(0, 1), (1, 1)] := ⟨_, Try.underlying59, ⟨⟨rfl, _, iat_37, rfl⟩, ⟨⟨rfl, _, iat_50, rfl⟩, trivial⟩⟩⟩
-- quaestor/wire.New
theorem wire_New (tb : Bool) (nb : Bool) (b : List UInt8) (hb : b.length ≤ 140737488355328) : Holds Try.prog 26 ⟨[slV tb nb kU8 b], [], pv 0 0, [.live (.box 59 [.d (dsl false false kU8 b), .d (.val (.int .i64 0))])]⟩ := by
  refine Holds.of Try.func26 rfl (N := 7) Try.ntmps26 rfl fun w0 B0 S0 U0 => ?_
  show T _ (mkBase 7 0 w0 S0 U0 B0) ⟨[slV tb nb kU8 b], []⟩ _ _
  refine T.seq ?_
  refine tR (s1 := ⟨[slV tb nb kU8 b, AV.any, dv (.pointer none)], []⟩) [true, false, true] []
    (oC (oS rfl rfl (r_assign (av := dv (.pointer none)) (lt_of rfl) ⟨rfl, trivial⟩)) (oZ rfl))
    (by kernel_rfl) (by kernel_rfl) ?_
  refine nT ?_
  refine T.seq ?_
  refine tR (s1 := ⟨[slV tb nb kU8 b, AV.any, pv 1 0], [.live (arrK 5 kU8 b), .live (.box 59 [.own 0 kU8.sz 0 b.length, .d (.val (.int .i64 0))])]⟩) [true, false, true] [true, true]
    (oC (oS rfl rfl (r_move (av := slV tb nb kU8 b) (lt_of rfl) trivial))
    (oC (oS rfl rfl (r_call (clone_u8 tb nb b (by first | assumption | omega | (simp only [maxLen, kU8_sz, kSl_sz, k_arr_2_uint8_sz, k_arr_2_api_Digest_sz]; omega) | (simp only [maxLen, kU8_sz, kSl_sz, k_arr_2_uint8_sz, k_arr_2_api_Digest_sz, List.length_append, List.length_cons, List.length_nil, List.length_take, List.length_drop, List.length_set]; omega) | decide)) Try.func36 rfl (by decide) [0] [] (l := [(.tmp 3, slV tb nb kU8 b)]) [] rfl 0 1 rfl rfl rfl rfl rfl rfl rfl rfl rfl ⟨.inl ⟨rfl, rfl⟩, trivial⟩ rfl (fun b hb => by cases hb) (.inl rfl) (lt_of rfl) trivial))
    (oC (oS rfl rfl (r_build (ps := [⟨0, .tmp 4, .one (.own 0 kU8.sz 0 b.length), 0⟩]) (cs := [.own 0 kU8.sz 0 b.length, .d (.val (.int .i64 0))]) zero_59 places_59 rfl (part_cons rfl rfl (Nat.le_of_ble_eq_true rfl) part_ok) rfl (lt_of rfl) trivial))
    (oC (oS rfl rfl (r_box (l := 1) (t := .agg [.own 0 kU8.sz 0 b.length, .d (.val (.int .i64 0))]) rfl (lt_of rfl) trivial))
    (oC (oS rfl rfl (r_assign (av := pv 1 0) (lt_of rfl) trivial)) (oZ rfl))))))
    (by kernel_rfl) (by kernel_rfl) ?_
  refine nT ?_
  refine T.ret ?_
  refine Ends.turn (s' := ⟨[slV tb nb kU8 b, AV.any, pv 1 0], [.dead, .live (.box 59 [.d (dsl false false kU8 b), .d (.val (.int .i64 0))])]⟩) (fun _ _ hG => Gs.freeze (s := ⟨[slV tb nb kU8 b, AV.any, pv 1 0], [.live (arrK 5 kU8 b), .live (.box 59 [.own 0 kU8.sz 0 b.length, .d (.val (.int .i64 0))])]⟩) 0 (el := elOf kU8 b) (sz := kU8.sz) (n := b.length) rfl ⟨(.inl rfl), ⟨(.inl rfl), ⟨(.inl rfl), trivial⟩⟩⟩ ⟨(.inl ⟨rfl, rfl⟩), ⟨(.inr ⟨by decide, .inr ⟨rfl, ⟨(.inr ⟨rfl, rfl, rfl, (fun h => by cases h), rfl, rfl, by omega, fun i j _ => by rw [Nat.zero_add]⟩), ⟨(.inl rfl), trivial⟩⟩⟩⟩), trivial⟩⟩ hG) ?_
  exact tE (.inl rfl) [.t 2 (.one (.ptr 1 0))] ⟨⟨rfl, rfl⟩, trivial⟩ [1] rfl rfl rfl rfl rfl rfl ⟨⟨rfl, rfl⟩, trivial⟩

theorem fld_59_1 : FieldAt Try.prog 59 1 1 := ⟨_, _, _, Try.underlying59, rfl, iat_50, by decide, rfl⟩
theorem wide_50 : Wide Try.prog 50 none := ⟨_, Try.underlying50, (fun _ h => by cases h), (fun _ _ h => by cases h)⟩
theorem fld_59_0 : FieldAt Try.prog 59 0 0 := ⟨_, _, _, Try.underlying59, rfl, iat_37, by decide, rfl⟩
theorem wide_37 : Wide Try.prog 37 none := ⟨_, Try.underlying37, (fun _ h => by cases h), (fun _ _ h => by cases h)⟩
theorem cells_50 : Cells Try.prog 50 1 := ⟨_, iat_50, rfl⟩
theorem cells_37 : Cells Try.prog 37 1 := ⟨_, iat_37, rfl⟩
-- (*quaestor/wire.Reader).take
theorem take_any_ok (rest : List UInt8) (e : Int) (n : Int) (hr : rest.length ≤ 140737488355328) (hn : 0 ≤ n) (hc : okT rest e n 0) : Holds Try.prog 37 ⟨[pv 0 0, dv (.int .i64 n), dv (.func (.func 40) #[] #[])], [.box 59 [.d (dsl false false kU8 rest), .d (.val (.int .i64 e))]], slV false false kU8 (rest.take n.toNat), [.live (.box 59 [.d (dsl false false kU8 (rest.drop n.toNat)), .d (.val (.int .i64 0))])]⟩ := by
  refine Holds.of Try.func37 rfl (N := 54) Try.ntmps37 rfl fun w0 B0 S0 U0 => ?_
  show T _ (mkBase 54 1 w0 S0 U0 B0) ⟨[pv 0 0, dv (.int .i64 n), dv (.func (.func 40) #[] #[])], [.live (.box 59 [.d (dsl false false kU8 rest), .d (.val (.int .i64 e))])]⟩ _ _
  have htl : (rest.take n.toNat).length ≤ n.toNat := List.length_take_le _ _
  obtain ⟨hc1, hc2, hc3⟩ := hc
  have htm : (rest.take n.toNat).length = n.toNat := by rw [List.length_take]; omega
  refine T.seq ?_
  refine tR (s1 := ⟨[pv 0 0, dv (.int .i64 n), dv (.func (.func 40) #[] #[]), AV.any, AV.any, AV.any, dv (.slice none 0 0)], [.live (.box 59 [.d (dsl false false kU8 rest), .d (.val (.int .i64 e))])]⟩) [true, true, true, false, false, false, true] [true]
    (oC (oS rfl rfl (r_assign (av := dv (.slice none 0 0)) (lt_of rfl) ⟨rfl, trivial⟩)) (oZ rfl))
    (by kernel_rfl) (by kernel_rfl) ?_
  refine nT ?_
  refine T.seq ?_
  refine T.seq ?_
  refine tR (s1 := ⟨[pv 0 0, dv (.int .i64 n), dv (.func (.func 40) #[] #[]), AV.any, AV.any, AV.any, dv (.slice none 0 0), AV.any, AV.any, AV.any, AV.any, AV.any, AV.any, AV.any, AV.any, AV.any, dv (.bool (decide (e ≠ 0)))], [.live (.box 59 [.d (dsl false false kU8 rest), .d (.val (.int .i64 e))])]⟩) [true, true, true, false, false, false, true, false, false, false, false, false, false, false, false, false, true] [true]
    (oC (oS rfl rfl (r_move (av := pv 0 0) (lt_of rfl) trivial))
    (oC (oS rfl rfl (r_eqNilP (av := pv 0 0) Try.underlying46 rfl (lt_of rfl) ⟨rfl, trivial⟩))
    (oC (oS rfl rfl (r_move (av := dv (.bool false)) (lt_of rfl) trivial))
    (oC (oY (b := false) rfl rfl rfl rfl (lt_of rfl) rfl (r_move (av := pv 0 0) (lt_of rfl) trivial))
    (oC (oY (b := false) rfl rfl rfl rfl (lt_of rfl) rfl (r_nilCheck (av := pv 0 0) rfl (lt_of rfl) trivial))
    (oC (oY (b := false) rfl rfl rfl rfl (lt_of rfl) rfl (r_fieldAddr (l := 0) (off := 0) fld_59_1 (lt_of rfl) trivial))
    (oC (oY (b := false) rfl rfl rfl rfl (lt_of rfl) rfl (r_loadB (l := 0) (off := 1) (T := 59) (cs := [.d (dsl false false kU8 rest), .d (.val (.int .i64 e))]) (c := .d (.val (.int .i64 e))) wide_50 rfl (lt_of rfl) trivial))
    (oC (oY (b := false) rfl rfl rfl rfl (lt_of rfl) rfl (r_bin (u1 := .int .i64 e) (u2 := .int .i64 0) (v := .bool (decide (e ≠ 0))) b_neq (lt_of rfl) ⟨rfl, trivial⟩))
    (oC (oS rfl rfl (r_pickF (b := false) (av := dv (.bool (decide (e ≠ 0)))) (lt_of rfl) trivial rfl)) (oZ rfl))))))))))
    (by kernel_rfl) (by kernel_rfl) ?_
  refine nT ?_
  by_cases hq1 : e ≠ 0
  · exact absurd hc1 hq1
  · refine T.condF (b := (decide (e ≠ 0))) rfl (decide_eq_false hq1) ?_
    refine T.skip ?_
    refine nT ?_
    refine T.seq ?_
    refine T.seq ?_
    refine tR (s1 := ⟨[pv 0 0, dv (.int .i64 n), dv (.func (.func 40) #[] #[]), AV.any, AV.any, AV.any, dv (.slice none 0 0), AV.any, AV.any, AV.any, AV.any, AV.any, AV.any, AV.any, AV.any, AV.any, dv (.bool (decide (e ≠ 0))), AV.any, AV.any, AV.any, AV.any, AV.any, AV.any, dv (.bool (decide (n > ((rest.length : Nat) : Int))))], [.live (.box 59 [.d (dsl false false kU8 rest), .d (.val (.int .i64 e))])]⟩) [true, true, true, false, false, false, true, false, false, false, false, false, false, false, false, false, true, false, false, false, false, false, false, true] [true]
      (oC (oS rfl rfl (r_move (av := dv (.int .i64 n)) (lt_of rfl) trivial))
      (oC (oS rfl rfl (r_move (av := pv 0 0) (lt_of rfl) trivial))
      (oC (oS rfl rfl (r_nilCheck (av := pv 0 0) rfl (lt_of rfl) trivial))
      (oC (oS rfl rfl (r_fieldAddr (l := 0) (off := 0) fld_59_0 (lt_of rfl) trivial))
      (oC (oS rfl rfl (r_loadB (l := 0) (off := 0) (T := 59) (cs := [.d (dsl false false kU8 rest), .d (.val (.int .i64 e))]) (c := .d (dsl false false kU8 rest)) wide_37 rfl (lt_of rfl) trivial))
      (oC (oS rfl rfl (q_len false false kU8 rest Try.underlying37 (lt_of rfl) trivial))
      (oC (oS rfl rfl (r_bin (u1 := .int .i64 n) (u2 := .int .i64 ((rest.length : Nat) : Int)) (v := .bool (decide (n > ((rest.length : Nat) : Int)))) b_gtr (lt_of rfl) trivial)) (oZ rfl))))))))
      (by kernel_rfl) (by kernel_rfl) ?_
    refine nT ?_
    by_cases hq2 : n > ((rest.length : Nat) : Int)
    · exact absurd hc2 (by omega)
    · refine T.condF (b := (decide (n > ((rest.length : Nat) : Int)))) rfl (decide_eq_false hq2) ?_
      refine T.skip ?_
      refine nT ?_
      refine T.seq ?_
      refine tR (s1 := ⟨[pv 0 0, dv (.int .i64 n), dv (.func (.func 40) #[] #[]), AV.any, AV.any, AV.any, dv (.slice none 0 0), slV false false kU8 (rest.take (n).toNat), AV.any, AV.any, AV.any, AV.any, AV.any, AV.any, AV.any, AV.any, dv (.bool (decide (e ≠ 0))), AV.any, AV.any, AV.any, AV.any, AV.any, AV.any, dv (.bool (decide (n > ((rest.length : Nat) : Int))))], [.live (.box 59 [.d (dsl false false kU8 rest), .d (.val (.int .i64 e))])]⟩) [true, true, true, false, false, false, true, true, false, false, false, false, false, false, false, false, true, false, false, false, false, false, false, true] [true]
        (oC (oS rfl rfl (r_move (av := pv 0 0) (lt_of rfl) trivial))
        (oC (oS rfl rfl (r_nilCheck (av := pv 0 0) rfl (lt_of rfl) trivial))
        (oC (oS rfl rfl (r_fieldAddr (l := 0) (off := 0) fld_59_0 (lt_of rfl) trivial))
        (oC (oS rfl rfl (r_loadB (l := 0) (off := 0) (T := 59) (cs := [.d (dsl false false kU8 rest), .d (.val (.int .i64 e))]) (c := .d (dsl false false kU8 rest)) wide_37 rfl (lt_of rfl) trivial))
        (oC (oS rfl rfl (r_move (av := dv (.int .i64 n)) (lt_of rfl) trivial))
        (oC (oS rfl rfl (q_slice false false kU8 rest (rest.take (n).toNat) 0 (n).toNat (lo := none) (hi := some (.tmp 31, n)) Try.underlying37 iat_5 rfl rfl rfl rfl (by omega) (by first | assumption | omega | (simp only [maxLen, kU8_sz, kSl_sz, k_arr_2_uint8_sz, k_arr_2_api_Digest_sz]; omega) | (simp only [maxLen, kU8_sz, kSl_sz, k_arr_2_uint8_sz, k_arr_2_api_Digest_sz, List.length_append, List.length_cons, List.length_nil, List.length_take, List.length_drop, List.length_set]; omega) | decide) (by first | assumption | omega | (simp only [maxLen, kU8_sz, kSl_sz, k_arr_2_uint8_sz, k_arr_2_api_Digest_sz]; omega) | (simp only [maxLen, kU8_sz, kSl_sz, k_arr_2_uint8_sz, k_arr_2_api_Digest_sz, List.length_append, List.length_cons, List.length_nil, List.length_take, List.length_drop, List.length_set]; omega) | decide) rfl (lt_of rfl) trivial))
        (oC (oS rfl rfl (r_assign (av := slV false false kU8 (rest.take (n).toNat)) (lt_of rfl) trivial)) (oZ rfl))))))))
        (by kernel_rfl) (by kernel_rfl) ?_
      refine nT ?_
      refine T.seq ?_
      refine T.seq ?_
      refine tR (s1 := ⟨[pv 0 0, dv (.int .i64 n), dv (.func (.func 40) #[] #[]), AV.any, AV.any, AV.any, dv (.slice none 0 0), slV false false kU8 (rest.take (n).toNat), AV.any, AV.any, AV.any, AV.any, AV.any, AV.any, AV.any, AV.any, dv (.bool (decide (e ≠ 0))), AV.any, AV.any, AV.any, AV.any, AV.any, AV.any, dv (.bool (decide (n > ((rest.length : Nat) : Int))))], [.live (.box 59 [.d (dsl false false kU8 rest), .d (.val (.int .i64 0))])]⟩) [true, true, true, false, false, false, true, true, false, false, false, false, false, false, false, false, true, false, false, false, false, false, false, true] [true]
        (oC (oS rfl rfl (r_move (av := pv 0 0) (lt_of rfl) trivial))
        (oC (oS rfl rfl (r_move (av := dv (.func (.func 40) #[] #[])) (lt_of rfl) trivial))
        (oC (oS rfl rfl (r_move (av := slV false false kU8 (rest.take (n).toNat)) (lt_of rfl) trivial))
        (oC (oS rfl rfl (r_callV (fs := #[]) (cs := #[]) (wire_any false false (rest.take (n).toNat) ) Try.func40 rfl (by decide) [] [] (l := [(.tmp 35, slV false false kU8 (rest.take (n).toNat))]) [] rfl 0 0 rfl rfl rfl rfl rfl rfl rfl rfl rfl rfl rfl ⟨.inl ⟨rfl, rfl⟩, trivial⟩ rfl (fun b hb => by cases hb) (.inl rfl) (lt_of rfl) trivial))
        (oC (oS rfl rfl (r_nilCheck (av := pv 0 0) rfl (lt_of rfl) trivial))
        (oC (oS rfl rfl (r_fieldAddr (l := 0) (off := 0) fld_59_1 (lt_of rfl) trivial))
        (oC (oS rfl rfl (r_store (l := 0) (off := 1) (n := 1) (T := 59) (cs := [.d (dsl false false kU8 rest), .d (.val (.int .i64 e))]) (cs' := [.d (dsl false false kU8 rest), .d (.val (.int .i64 0))]) (tv := .one (.d (.val (.int .i64 0)))) cells_50 rfl (Nat.le_of_ble_eq_true rfl) rfl rfl trivial)) (oZ rfl))))))))
        (by kernel_rfl) (by kernel_rfl) ?_
      refine nT ?_
      refine T.seq ?_
      refine tR (s1 := ⟨[pv 0 0, dv (.int .i64 n), dv (.func (.func 40) #[] #[]), AV.any, AV.any, AV.any, dv (.slice none 0 0), slV false false kU8 (rest.take (n).toNat), AV.any, AV.any, AV.any, AV.any, AV.any, AV.any, AV.any, AV.any, dv (.bool (decide (e ≠ 0))), AV.any, AV.any, AV.any, AV.any, AV.any, AV.any, dv (.bool (decide (n > ((rest.length : Nat) : Int)))), AV.any, AV.any, AV.any, AV.any, AV.any, AV.any, AV.any, AV.any, AV.any, AV.any, AV.any, AV.any, AV.any, AV.any, AV.any, AV.any, AV.any, AV.any, AV.any, dv (.bool false)], [.live (.box 59 [.d (dsl false false kU8 rest), .d (.val (.int .i64 0))])]⟩) [true, true, true, false, false, false, true, true, false, false, false, false, false, false, false, false, true, false, false, false, false, false, false, true, false, false, false, false, false, false, false, false, false, false, false, false, false, false, false, false, false, false, false, true] [true]
        (oC (oS rfl rfl (r_move (av := pv 0 0) (lt_of rfl) trivial))
        (oC (oS rfl rfl (r_nilCheck (av := pv 0 0) rfl (lt_of rfl) trivial))
        (oC (oS rfl rfl (r_fieldAddr (l := 0) (off := 0) fld_59_1 (lt_of rfl) trivial))
        (oC (oS rfl rfl (r_loadB (l := 0) (off := 1) (T := 59) (cs := [.d (dsl false false kU8 rest), .d (.val (.int .i64 0))]) (c := .d (.val (.int .i64 0))) wide_50 rfl (lt_of rfl) trivial))
        (oC (oS rfl rfl (r_bin (u1 := .int .i64 0) (u2 := .int .i64 0) (v := .bool false) b_neq (lt_of rfl) ⟨rfl, trivial⟩)) (oZ rfl))))))
        (by kernel_rfl) (by kernel_rfl) ?_
      refine nT ?_
      refine T.condF (b := false) rfl rfl ?_
      refine T.skip ?_
      refine nT ?_
      refine T.seq ?_
      refine tR (s1 := ⟨[pv 0 0, dv (.int .i64 n), dv (.func (.func 40) #[] #[]), AV.any, AV.any, AV.any, dv (.slice none 0 0), slV false false kU8 (rest.take (n).toNat), AV.any, AV.any, AV.any, AV.any, AV.any, AV.any, AV.any, AV.any, dv (.bool (decide (e ≠ 0))), AV.any, AV.any, AV.any, AV.any, AV.any, AV.any, dv (.bool (decide (n > ((rest.length : Nat) : Int)))), AV.any, AV.any, AV.any, AV.any, AV.any, AV.any, AV.any, AV.any, AV.any, AV.any, AV.any, AV.any, AV.any, AV.any, AV.any, AV.any, AV.any, AV.any, AV.any, dv (.bool false)], [.live (.box 59 [.d (dsl false false kU8 (rest.drop (n).toNat)), .d (.val (.int .i64 0))])]⟩) [true, true, true, false, false, false, true, true, false, false, false, false, false, false, false, false, true, false, false, false, false, false, false, true, false, false, false, false, false, false, false, false, false, false, false, false, false, false, false, false, false, false, false, true] [true]
        (oC (oS rfl rfl (r_move (av := pv 0 0) (lt_of rfl) trivial))
        (oC (oS rfl rfl (r_move (av := pv 0 0) (lt_of rfl) trivial))
        (oC (oS rfl rfl (r_nilCheck (av := pv 0 0) rfl (lt_of rfl) trivial))
        (oC (oS rfl rfl (r_fieldAddr (l := 0) (off := 0) fld_59_0 (lt_of rfl) trivial))
        (oC (oS rfl rfl (r_loadB (l := 0) (off := 0) (T := 59) (cs := [.d (dsl false false kU8 rest), .d (.val (.int .i64 0))]) (c := .d (dsl false false kU8 rest)) wide_37 rfl (lt_of rfl) trivial))
        (oC (oS rfl rfl (r_move (av := dv (.int .i64 n)) (lt_of rfl) trivial))
        (oC (oS rfl rfl (q_slice false false kU8 rest (rest.drop (n).toNat) (n).toNat rest.length (lo := some (.tmp 49, n)) (hi := none) Try.underlying37 iat_5 rfl rfl rfl (by omega) rfl (by first | assumption | omega | (simp only [maxLen, kU8_sz, kSl_sz, k_arr_2_uint8_sz, k_arr_2_api_Digest_sz]; omega) | (simp only [maxLen, kU8_sz, kSl_sz, k_arr_2_uint8_sz, k_arr_2_api_Digest_sz, List.length_append, List.length_cons, List.length_nil, List.length_take, List.length_drop, List.length_set]; omega) | decide) (by first | assumption | omega | (simp only [maxLen, kU8_sz, kSl_sz, k_arr_2_uint8_sz, k_arr_2_api_Digest_sz]; omega) | (simp only [maxLen, kU8_sz, kSl_sz, k_arr_2_uint8_sz, k_arr_2_api_Digest_sz, List.length_append, List.length_cons, List.length_nil, List.length_take, List.length_drop, List.length_set]; omega) | decide) (by rw [List.take_length]) (lt_of rfl) trivial))
        (oC (oS rfl rfl (r_nilCheck (av := pv 0 0) rfl (lt_of rfl) trivial))
        (oC (oS rfl rfl (r_fieldAddr (l := 0) (off := 0) fld_59_0 (lt_of rfl) trivial))
        (oC (oS rfl rfl (r_store (l := 0) (off := 0) (n := 1) (T := 59) (cs := [.d (dsl false false kU8 rest), .d (.val (.int .i64 0))]) (cs' := [.d (dsl false false kU8 (rest.drop (n).toNat)), .d (.val (.int .i64 0))]) (tv := .one (.d (dsl false false kU8 (rest.drop (n).toNat)))) cells_37 rfl (Nat.le_of_ble_eq_true rfl) rfl rfl trivial)) (oZ rfl)))))))))))
        (by kernel_rfl) (by kernel_rfl) ?_
      refine nT ?_
      refine T.seq ?_
      refine tR (s1 := ⟨[pv 0 0, dv (.int .i64 n), dv (.func (.func 40) #[] #[]), AV.any, AV.any, AV.any, slV false false kU8 (rest.take (n).toNat), slV false false kU8 (rest.take (n).toNat), AV.any, AV.any, AV.any, AV.any, AV.any, AV.any, AV.any, AV.any, dv (.bool (decide (e ≠ 0))), AV.any, AV.any, AV.any, AV.any, AV.any, AV.any, dv (.bool (decide (n > ((rest.length : Nat) : Int)))), AV.any, AV.any, AV.any, AV.any, AV.any, AV.any, AV.any, AV.any, AV.any, AV.any, AV.any, AV.any, AV.any, AV.any, AV.any, AV.any, AV.any, AV.any, AV.any, dv (.bool false)], [.live (.box 59 [.d (dsl false false kU8 (rest.drop (n).toNat)), .d (.val (.int .i64 0))])]⟩) [true, true, true, false, false, false, true, true, false, false, false, false, false, false, false, false, true, false, false, false, false, false, false, true, false, false, false, false, false, false, false, false, false, false, false, false, false, false, false, false, false, false, false, true] [true]
        (oC (oS rfl rfl (r_move (av := slV false false kU8 (rest.take (n).toNat)) (lt_of rfl) trivial))
        (oC (oS rfl rfl (r_assign (av := slV false false kU8 (rest.take (n).toNat)) (lt_of rfl) trivial)) (oZ rfl)))
        (by kernel_rfl) (by kernel_rfl) ?_
      refine nT ?_
      refine T.ret ?_
      exact tE (.inl rfl) [.t 6 (.one (.d (dsl false false kU8 (rest.take (n).toNat))))] ⟨⟨rfl, rfl⟩, trivial⟩ [0] (by have e1 : ((rest.take n.toNat) : List UInt8) = (rest.take (n).toNat) := (by first | rfl | exact hc3 | exact hc3.symm); have hE := congrArg (fun (q1 : List UInt8) => (slV false false kU8 q1 : AV)) e1; exact hE) rfl rfl rfl rfl rfl ⟨⟨rfl, (by have e1 : ((rest.drop (n).toNat) : List UInt8) = (rest.drop n.toNat) := (by first | rfl | exact hc3 | exact hc3.symm); have hE := congrArg (fun (q1 : List UInt8) => (.live (.box 59 [.d (dsl false false kU8 q1), .d (.val (.int .i64 0))]) : HS)) e1; exact hE)⟩, trivial⟩

-- (*quaestor/wire.Reader).take
theorem take_any_no (rest : List UInt8) (e : Int) (n : Int) (hr : rest.length ≤ 140737488355328) (hn : 0 ≤ n) (hc : ¬ okT rest e n 0) : Holds Try.prog 37 ⟨[pv 0 0, dv (.int .i64 n), dv (.func (.func 40) #[] #[])], [.box 59 [.d (dsl false false kU8 rest), .d (.val (.int .i64 e))]], dv (.slice none 0 0), [.live (.box 59 [.d (dsl false false kU8 rest), .d (.val (.int .i64 (rdE rest e n 0)))])]⟩ := by
  refine Holds.of Try.func37 rfl (N := 54) Try.ntmps37 rfl fun w0 B0 S0 U0 => ?_
  show T _ (mkBase 54 1 w0 S0 U0 B0) ⟨[pv 0 0, dv (.int .i64 n), dv (.func (.func 40) #[] #[])], [.live (.box 59 [.d (dsl false false kU8 rest), .d (.val (.int .i64 e))])]⟩ _ _
  have htl : (rest.take n.toNat).length ≤ n.toNat := List.length_take_le _ _
  refine T.seq ?_
  refine tR (s1 := ⟨[pv 0 0, dv (.int .i64 n), dv (.func (.func 40) #[] #[]), AV.any, AV.any, AV.any, dv (.slice none 0 0)], [.live (.box 59 [.d (dsl false false kU8 rest), .d (.val (.int .i64 e))])]⟩) [true, true, true, false, false, false, true] [true]
    (oC (oS rfl rfl (r_assign (av := dv (.slice none 0 0)) (lt_of rfl) ⟨rfl, trivial⟩)) (oZ rfl))
    (by kernel_rfl) (by kernel_rfl) ?_
  refine nT ?_
  refine T.seq ?_
  refine T.seq ?_
  refine tR (s1 := ⟨[pv 0 0, dv (.int .i64 n), dv (.func (.func 40) #[] #[]), AV.any, AV.any, AV.any, dv (.slice none 0 0), AV.any, AV.any, AV.any, AV.any, AV.any, AV.any, AV.any, AV.any, AV.any, dv (.bool (decide (e ≠ 0)))], [.live (.box 59 [.d (dsl false false kU8 rest), .d (.val (.int .i64 e))])]⟩) [true, true, true, false, false, false, true, false, false, false, false, false, false, false, false, false, true] [true]
    (oC (oS rfl rfl (r_move (av := pv 0 0) (lt_of rfl) trivial))
    (oC (oS rfl rfl (r_eqNilP (av := pv 0 0) Try.underlying46 rfl (lt_of rfl) ⟨rfl, trivial⟩))
    (oC (oS rfl rfl (r_move (av := dv (.bool false)) (lt_of rfl) trivial))
    (oC (oY (b := false) rfl rfl rfl rfl (lt_of rfl) rfl (r_move (av := pv 0 0) (lt_of rfl) trivial))
    (oC (oY (b := false) rfl rfl rfl rfl (lt_of rfl) rfl (r_nilCheck (av := pv 0 0) rfl (lt_of rfl) trivial))
    (oC (oY (b := false) rfl rfl rfl rfl (lt_of rfl) rfl (r_fieldAddr (l := 0) (off := 0) fld_59_1 (lt_of rfl) trivial))
    (oC (oY (b := false) rfl rfl rfl rfl (lt_of rfl) rfl (r_loadB (l := 0) (off := 1) (T := 59) (cs := [.d (dsl false false kU8 rest), .d (.val (.int .i64 e))]) (c := .d (.val (.int .i64 e))) wide_50 rfl (lt_of rfl) trivial))
    (oC (oY (b := false) rfl rfl rfl rfl (lt_of rfl) rfl (r_bin (u1 := .int .i64 e) (u2 := .int .i64 0) (v := .bool (decide (e ≠ 0))) b_neq (lt_of rfl) ⟨rfl, trivial⟩))
    (oC (oS rfl rfl (r_pickF (b := false) (av := dv (.bool (decide (e ≠ 0)))) (lt_of rfl) trivial rfl)) (oZ rfl))))))))))
    (by kernel_rfl) (by kernel_rfl) ?_
  refine nT ?_
  by_cases hq1 : e ≠ 0
  · refine T.condT (b := (decide (e ≠ 0))) rfl (decide_eq_true hq1) ?_
    refine T.seq ?_
    refine tR (s1 := ⟨[pv 0 0, dv (.int .i64 n), dv (.func (.func 40) #[] #[]), AV.any, AV.any, AV.any, dv (.slice none 0 0), AV.any, AV.any, AV.any, AV.any, AV.any, AV.any, AV.any, AV.any, AV.any, dv (.bool (decide (e ≠ 0)))], [.live (.box 59 [.d (dsl false false kU8 rest), .d (.val (.int .i64 e))])]⟩) [true, true, true, false, false, false, true, false, false, false, false, false, false, false, false, false, true] [true]
      (oC (oS rfl rfl (r_assign (av := dv (.slice none 0 0)) (lt_of rfl) ⟨rfl, trivial⟩)) (oZ rfl))
      (by kernel_rfl) (by kernel_rfl) ?_
    refine nT ?_
    refine T.ret ?_
    refine rT ?_
    exact tE (.inl rfl) [.t 6 (.one (.d (.val (.slice none 0 0))))] ⟨⟨rfl, rfl⟩, trivial⟩ [0] rfl rfl rfl rfl rfl rfl ⟨⟨rfl, (by have e1 : (e : Int) = (rdE rest e n 0) := (by first | rfl | (simp only [rdE]; first | rw [if_pos (by assumption)] | (rw [if_neg (by assumption)]; first | rw [if_pos (by assumption)] | rw [if_neg (by assumption)]))); have hE := congrArg (fun (q1 : Int) => (.live (.box 59 [.d (dsl false false kU8 rest), .d (.val (.int .i64 q1))]) : HS)) e1; exact hE)⟩, trivial⟩
  · refine T.condF (b := (decide (e ≠ 0))) rfl (decide_eq_false hq1) ?_
    refine T.skip ?_
    refine nT ?_
    refine T.seq ?_
    refine T.seq ?_
    refine tR (s1 := ⟨[pv 0 0, dv (.int .i64 n), dv (.func (.func 40) #[] #[]), AV.any, AV.any, AV.any, dv (.slice none 0 0), AV.any, AV.any, AV.any, AV.any, AV.any, AV.any, AV.any, AV.any, AV.any, dv (.bool (decide (e ≠ 0))), AV.any, AV.any, AV.any, AV.any, AV.any, AV.any, dv (.bool (decide (n > ((rest.length : Nat) : Int))))], [.live (.box 59 [.d (dsl false false kU8 rest), .d (.val (.int .i64 e))])]⟩) [true, true, true, false, false, false, true, false, false, false, false, false, false, false, false, false, true, false, false, false, false, false, false, true] [true]
      (oC (oS rfl rfl (r_move (av := dv (.int .i64 n)) (lt_of rfl) trivial))
      (oC (oS rfl rfl (r_move (av := pv 0 0) (lt_of rfl) trivial))
      (oC (oS rfl rfl (r_nilCheck (av := pv 0 0) rfl (lt_of rfl) trivial))
      (oC (oS rfl rfl (r_fieldAddr (l := 0) (off := 0) fld_59_0 (lt_of rfl) trivial))
      (oC (oS rfl rfl (r_loadB (l := 0) (off := 0) (T := 59) (cs := [.d (dsl false false kU8 rest), .d (.val (.int .i64 e))]) (c := .d (dsl false false kU8 rest)) wide_37 rfl (lt_of rfl) trivial))
      (oC (oS rfl rfl (q_len false false kU8 rest Try.underlying37 (lt_of rfl) trivial))
      (oC (oS rfl rfl (r_bin (u1 := .int .i64 n) (u2 := .int .i64 ((rest.length : Nat) : Int)) (v := .bool (decide (n > ((rest.length : Nat) : Int)))) b_gtr (lt_of rfl) trivial)) (oZ rfl))))))))
      (by kernel_rfl) (by kernel_rfl) ?_
    refine nT ?_
    by_cases hq2 : n > ((rest.length : Nat) : Int)
    · refine T.condT (b := (decide (n > ((rest.length : Nat) : Int)))) rfl (decide_eq_true hq2) ?_
      refine T.seq ?_
      refine tR (s1 := ⟨[pv 0 0, dv (.int .i64 n), dv (.func (.func 40) #[] #[]), AV.any, AV.any, AV.any, dv (.slice none 0 0), AV.any, AV.any, AV.any, AV.any, AV.any, AV.any, AV.any, AV.any, AV.any, dv (.bool (decide (e ≠ 0))), AV.any, AV.any, AV.any, AV.any, AV.any, AV.any, dv (.bool (decide (n > ((rest.length : Nat) : Int))))], [.live (.box 59 [.d (dsl false false kU8 rest), .d (.val (.int .i64 10))])]⟩) [true, true, true, false, false, false, true, false, false, false, false, false, false, false, false, false, true, false, false, false, false, false, false, true] [true]
        (oC (oS rfl rfl (r_move (av := pv 0 0) (lt_of rfl) trivial))
        (oC (oS rfl rfl (r_nilCheck (av := pv 0 0) rfl (lt_of rfl) trivial))
        (oC (oS rfl rfl (r_fieldAddr (l := 0) (off := 0) fld_59_1 (lt_of rfl) trivial))
        (oC (oS rfl rfl (r_store (l := 0) (off := 1) (n := 1) (T := 59) (cs := [.d (dsl false false kU8 rest), .d (.val (.int .i64 e))]) (cs' := [.d (dsl false false kU8 rest), .d (.val (.int .i64 10))]) (tv := .one (.d (.val (.int .i64 10)))) cells_50 rfl (Nat.le_of_ble_eq_true rfl) rfl rfl ⟨rfl, trivial⟩)) (oZ rfl)))))
        (by kernel_rfl) (by kernel_rfl) ?_
      refine nT ?_
      refine T.seq ?_
      refine tR (s1 := ⟨[pv 0 0, dv (.int .i64 n), dv (.func (.func 40) #[] #[]), AV.any, AV.any, AV.any, dv (.slice none 0 0), AV.any, AV.any, AV.any, AV.any, AV.any, AV.any, AV.any, AV.any, AV.any, dv (.bool (decide (e ≠ 0))), AV.any, AV.any, AV.any, AV.any, AV.any, AV.any, dv (.bool (decide (n > ((rest.length : Nat) : Int))))], [.live (.box 59 [.d (dsl false false kU8 rest), .d (.val (.int .i64 10))])]⟩) [true, true, true, false, false, false, true, false, false, false, false, false, false, false, false, false, true, false, false, false, false, false, false, true] [true]
        (oC (oS rfl rfl (r_assign (av := dv (.slice none 0 0)) (lt_of rfl) ⟨rfl, trivial⟩)) (oZ rfl))
        (by kernel_rfl) (by kernel_rfl) ?_
      refine nT ?_
      refine T.ret ?_
      refine rT ?_
      exact tE (.inl rfl) [.t 6 (.one (.d (.val (.slice none 0 0))))] ⟨⟨rfl, rfl⟩, trivial⟩ [0] rfl rfl rfl rfl rfl rfl ⟨⟨rfl, (by have e1 : (10 : Int) = (rdE rest e n 0) := (by first | rfl | (simp only [rdE]; first | rw [if_pos (by assumption)] | (rw [if_neg (by assumption)]; first | rw [if_pos (by assumption)] | rw [if_neg (by assumption)]))); have hE := congrArg (fun (q1 : Int) => (.live (.box 59 [.d (dsl false false kU8 rest), .d (.val (.int .i64 q1))]) : HS)) e1; exact hE)⟩, trivial⟩
    · exact absurd ⟨by omega, by omega, rfl⟩ hc

-- (*quaestor/wire.Reader).take
theorem take_limit_ok (rest : List UInt8) (e : Int) (n : Int) (most : Int) (hr : rest.length ≤ 140737488355328) (hn : n = 4) (hc : okT rest e n (limE most (rest.take n.toNat))) : Holds Try.prog 37 ⟨[pv 0 0, dv (.int .i64 n), dv (.func (.func 38) #[.int .i64 most] #[])], [.box 59 [.d (dsl false false kU8 rest), .d (.val (.int .i64 e))]], slV false false kU8 (rest.take n.toNat), [.live (.box 59 [.d (dsl false false kU8 (rest.drop n.toNat)), .d (.val (.int .i64 0))])]⟩ := by
  refine Holds.of Try.func37 rfl (N := 54) Try.ntmps37 rfl fun w0 B0 S0 U0 => ?_
  show T _ (mkBase 54 1 w0 S0 U0 B0) ⟨[pv 0 0, dv (.int .i64 n), dv (.func (.func 38) #[.int .i64 most] #[])], [.live (.box 59 [.d (dsl false false kU8 rest), .d (.val (.int .i64 e))])]⟩ _ _
  have htl : (rest.take n.toNat).length ≤ n.toNat := List.length_take_le _ _
  obtain ⟨hc1, hc2, hc3⟩ := hc
  have htm : (rest.take n.toNat).length = n.toNat := by rw [List.length_take]; omega
  refine T.seq ?_
  refine tR (s1 := ⟨[pv 0 0, dv (.int .i64 n), dv (.func (.func 38) #[.int .i64 most] #[]), AV.any, AV.any, AV.any, dv (.slice none 0 0)], [.live (.box 59 [.d (dsl false false kU8 rest), .d (.val (.int .i64 e))])]⟩) [true, true, true, false, false, false, true] [true]
    (oC (oS rfl rfl (r_assign (av := dv (.slice none 0 0)) (lt_of rfl) ⟨rfl, trivial⟩)) (oZ rfl))
    (by kernel_rfl) (by kernel_rfl) ?_
  refine nT ?_
  refine T.seq ?_
  refine T.seq ?_
  refine tR (s1 := ⟨[pv 0 0, dv (.int .i64 n), dv (.func (.func 38) #[.int .i64 most] #[]), AV.any, AV.any, AV.any, dv (.slice none 0 0), AV.any, AV.any, AV.any, AV.any, AV.any, AV.any, AV.any, AV.any, AV.any, dv (.bool (decide (e ≠ 0)))], [.live (.box 59 [.d (dsl false false kU8 rest), .d (.val (.int .i64 e))])]⟩) [true, true, true, false, false, false, true, false, false, false, false, false, false, false, false, false, true] [true]
    (oC (oS rfl rfl (r_move (av := pv 0 0) (lt_of rfl) trivial))
    (oC (oS rfl rfl (r_eqNilP (av := pv 0 0) Try.underlying46 rfl (lt_of rfl) ⟨rfl, trivial⟩))
    (oC (oS rfl rfl (r_move (av := dv (.bool false)) (lt_of rfl) trivial))
    (oC (oY (b := false) rfl rfl rfl rfl (lt_of rfl) rfl (r_move (av := pv 0 0) (lt_of rfl) trivial))
    (oC (oY (b := false) rfl rfl rfl rfl (lt_of rfl) rfl (r_nilCheck (av := pv 0 0) rfl (lt_of rfl) trivial))
    (oC (oY (b := false) rfl rfl rfl rfl (lt_of rfl) rfl (r_fieldAddr (l := 0) (off := 0) fld_59_1 (lt_of rfl) trivial))
    (oC (oY (b := false) rfl rfl rfl rfl (lt_of rfl) rfl (r_loadB (l := 0) (off := 1) (T := 59) (cs := [.d (dsl false false kU8 rest), .d (.val (.int .i64 e))]) (c := .d (.val (.int .i64 e))) wide_50 rfl (lt_of rfl) trivial))
    (oC (oY (b := false) rfl rfl rfl rfl (lt_of rfl) rfl (r_bin (u1 := .int .i64 e) (u2 := .int .i64 0) (v := .bool (decide (e ≠ 0))) b_neq (lt_of rfl) ⟨rfl, trivial⟩))
    (oC (oS rfl rfl (r_pickF (b := false) (av := dv (.bool (decide (e ≠ 0)))) (lt_of rfl) trivial rfl)) (oZ rfl))))))))))
    (by kernel_rfl) (by kernel_rfl) ?_
  refine nT ?_
  by_cases hq1 : e ≠ 0
  · exact absurd hc1 hq1
  · refine T.condF (b := (decide (e ≠ 0))) rfl (decide_eq_false hq1) ?_
    refine T.skip ?_
    refine nT ?_
    refine T.seq ?_
    refine T.seq ?_
    refine tR (s1 := ⟨[pv 0 0, dv (.int .i64 n), dv (.func (.func 38) #[.int .i64 most] #[]), AV.any, AV.any, AV.any, dv (.slice none 0 0), AV.any, AV.any, AV.any, AV.any, AV.any, AV.any, AV.any, AV.any, AV.any, dv (.bool (decide (e ≠ 0))), AV.any, AV.any, AV.any, AV.any, AV.any, AV.any, dv (.bool (decide (n > ((rest.length : Nat) : Int))))], [.live (.box 59 [.d (dsl false false kU8 rest), .d (.val (.int .i64 e))])]⟩) [true, true, true, false, false, false, true, false, false, false, false, false, false, false, false, false, true, false, false, false, false, false, false, true] [true]
      (oC (oS rfl rfl (r_move (av := dv (.int .i64 n)) (lt_of rfl) trivial))
      (oC (oS rfl rfl (r_move (av := pv 0 0) (lt_of rfl) trivial))
      (oC (oS rfl rfl (r_nilCheck (av := pv 0 0) rfl (lt_of rfl) trivial))
      (oC (oS rfl rfl (r_fieldAddr (l := 0) (off := 0) fld_59_0 (lt_of rfl) trivial))
      (oC (oS rfl rfl (r_loadB (l := 0) (off := 0) (T := 59) (cs := [.d (dsl false false kU8 rest), .d (.val (.int .i64 e))]) (c := .d (dsl false false kU8 rest)) wide_37 rfl (lt_of rfl) trivial))
      (oC (oS rfl rfl (q_len false false kU8 rest Try.underlying37 (lt_of rfl) trivial))
      (oC (oS rfl rfl (r_bin (u1 := .int .i64 n) (u2 := .int .i64 ((rest.length : Nat) : Int)) (v := .bool (decide (n > ((rest.length : Nat) : Int)))) b_gtr (lt_of rfl) trivial)) (oZ rfl))))))))
      (by kernel_rfl) (by kernel_rfl) ?_
    refine nT ?_
    by_cases hq2 : n > ((rest.length : Nat) : Int)
    · exact absurd hc2 (by omega)
    · refine T.condF (b := (decide (n > ((rest.length : Nat) : Int)))) rfl (decide_eq_false hq2) ?_
      refine T.skip ?_
      refine nT ?_
      refine T.seq ?_
      refine tR (s1 := ⟨[pv 0 0, dv (.int .i64 n), dv (.func (.func 38) #[.int .i64 most] #[]), AV.any, AV.any, AV.any, dv (.slice none 0 0), slV false false kU8 (rest.take (n).toNat), AV.any, AV.any, AV.any, AV.any, AV.any, AV.any, AV.any, AV.any, dv (.bool (decide (e ≠ 0))), AV.any, AV.any, AV.any, AV.any, AV.any, AV.any, dv (.bool (decide (n > ((rest.length : Nat) : Int))))], [.live (.box 59 [.d (dsl false false kU8 rest), .d (.val (.int .i64 e))])]⟩) [true, true, true, false, false, false, true, true, false, false, false, false, false, false, false, false, true, false, false, false, false, false, false, true] [true]
        (oC (oS rfl rfl (r_move (av := pv 0 0) (lt_of rfl) trivial))
        (oC (oS rfl rfl (r_nilCheck (av := pv 0 0) rfl (lt_of rfl) trivial))
        (oC (oS rfl rfl (r_fieldAddr (l := 0) (off := 0) fld_59_0 (lt_of rfl) trivial))
        (oC (oS rfl rfl (r_loadB (l := 0) (off := 0) (T := 59) (cs := [.d (dsl false false kU8 rest), .d (.val (.int .i64 e))]) (c := .d (dsl false false kU8 rest)) wide_37 rfl (lt_of rfl) trivial))
        (oC (oS rfl rfl (r_move (av := dv (.int .i64 n)) (lt_of rfl) trivial))
        (oC (oS rfl rfl (q_slice false false kU8 rest (rest.take (n).toNat) 0 (n).toNat (lo := none) (hi := some (.tmp 31, n)) Try.underlying37 iat_5 rfl rfl rfl rfl (by omega) (by first | assumption | omega | (simp only [maxLen, kU8_sz, kSl_sz, k_arr_2_uint8_sz, k_arr_2_api_Digest_sz]; omega) | (simp only [maxLen, kU8_sz, kSl_sz, k_arr_2_uint8_sz, k_arr_2_api_Digest_sz, List.length_append, List.length_cons, List.length_nil, List.length_take, List.length_drop, List.length_set]; omega) | decide) (by first | assumption | omega | (simp only [maxLen, kU8_sz, kSl_sz, k_arr_2_uint8_sz, k_arr_2_api_Digest_sz]; omega) | (simp only [maxLen, kU8_sz, kSl_sz, k_arr_2_uint8_sz, k_arr_2_api_Digest_sz, List.length_append, List.length_cons, List.length_nil, List.length_take, List.length_drop, List.length_set]; omega) | decide) rfl (lt_of rfl) trivial))
        (oC (oS rfl rfl (r_assign (av := slV false false kU8 (rest.take (n).toNat)) (lt_of rfl) trivial)) (oZ rfl))))))))
        (by kernel_rfl) (by kernel_rfl) ?_
      refine nT ?_
      refine T.seq ?_
      refine T.seq ?_
      refine tR (s1 := ⟨[pv 0 0, dv (.int .i64 n), dv (.func (.func 38) #[.int .i64 most] #[]), AV.any, AV.any, AV.any, dv (.slice none 0 0), slV false false kU8 (rest.take (n).toNat), AV.any, AV.any, AV.any, AV.any, AV.any, AV.any, AV.any, AV.any, dv (.bool (decide (e ≠ 0))), AV.any, AV.any, AV.any, AV.any, AV.any, AV.any, dv (.bool (decide (n > ((rest.length : Nat) : Int))))], [.live (.box 59 [.d (dsl false false kU8 rest), .d (.val (.int .i64 (limE most (rest.take (n).toNat))))])]⟩) [true, true, true, false, false, false, true, true, false, false, false, false, false, false, false, false, true, false, false, false, false, false, false, true] [true]
        (oC (oS rfl rfl (r_move (av := pv 0 0) (lt_of rfl) trivial))
        (oC (oS rfl rfl (r_move (av := dv (.func (.func 38) #[.int .i64 most] #[])) (lt_of rfl) trivial))
        (oC (oS rfl rfl (r_move (av := slV false false kU8 (rest.take (n).toNat)) (lt_of rfl) trivial))
        (oC (oS rfl rfl (r_callV (fs := #[.int .i64 most]) (cs := #[]) (wire_may most false false (rest.take (n).toNat) (by first | assumption | omega | (simp only [maxLen, kU8_sz, kSl_sz, k_arr_2_uint8_sz, k_arr_2_api_Digest_sz]; omega) | (simp only [maxLen, kU8_sz, kSl_sz, k_arr_2_uint8_sz, k_arr_2_api_Digest_sz, List.length_append, List.length_cons, List.length_nil, List.length_take, List.length_drop, List.length_set]; omega) | decide)) Try.func38 rfl (by decide) [] [] (l := [(.tmp 35, slV false false kU8 (rest.take (n).toNat))]) [] rfl 0 0 rfl rfl rfl rfl rfl rfl rfl rfl rfl rfl rfl ⟨.inl ⟨rfl, rfl⟩, ⟨.inl ⟨rfl, rfl⟩, trivial⟩⟩ rfl (fun b hb => by cases hb) (.inl rfl) (lt_of rfl) trivial))
        (oC (oS rfl rfl (r_nilCheck (av := pv 0 0) rfl (lt_of rfl) trivial))
        (oC (oS rfl rfl (r_fieldAddr (l := 0) (off := 0) fld_59_1 (lt_of rfl) trivial))
        (oC (oS rfl rfl (r_store (l := 0) (off := 1) (n := 1) (T := 59) (cs := [.d (dsl false false kU8 rest), .d (.val (.int .i64 e))]) (cs' := [.d (dsl false false kU8 rest), .d (.val (.int .i64 (limE most (rest.take (n).toNat))))]) (tv := .one (.d (.val (.int .i64 (limE most (rest.take (n).toNat)))))) cells_50 rfl (Nat.le_of_ble_eq_true rfl) rfl rfl trivial)) (oZ rfl))))))))
        (by kernel_rfl) (by kernel_rfl) ?_
      refine nT ?_
      refine T.seq ?_
      refine tR (s1 := ⟨[pv 0 0, dv (.int .i64 n), dv (.func (.func 38) #[.int .i64 most] #[]), AV.any, AV.any, AV.any, dv (.slice none 0 0), slV false false kU8 (rest.take (n).toNat), AV.any, AV.any, AV.any, AV.any, AV.any, AV.any, AV.any, AV.any, dv (.bool (decide (e ≠ 0))), AV.any, AV.any, AV.any, AV.any, AV.any, AV.any, dv (.bool (decide (n > ((rest.length : Nat) : Int)))), AV.any, AV.any, AV.any, AV.any, AV.any, AV.any, AV.any, AV.any, AV.any, AV.any, AV.any, AV.any, AV.any, AV.any, AV.any, AV.any, AV.any, AV.any, AV.any, dv (.bool (decide ((limE most (rest.take (n).toNat)) ≠ 0)))], [.live (.box 59 [.d (dsl false false kU8 rest), .d (.val (.int .i64 (limE most (rest.take (n).toNat))))])]⟩) [true, true, true, false, false, false, true, true, false, false, false, false, false, false, false, false, true, false, false, false, false, false, false, true, false, false, false, false, false, false, false, false, false, false, false, false, false, false, false, false, false, false, false, true] [true]
        (oC (oS rfl rfl (r_move (av := pv 0 0) (lt_of rfl) trivial))
        (oC (oS rfl rfl (r_nilCheck (av := pv 0 0) rfl (lt_of rfl) trivial))
        (oC (oS rfl rfl (r_fieldAddr (l := 0) (off := 0) fld_59_1 (lt_of rfl) trivial))
        (oC (oS rfl rfl (r_loadB (l := 0) (off := 1) (T := 59) (cs := [.d (dsl false false kU8 rest), .d (.val (.int .i64 (limE most (rest.take (n).toNat))))]) (c := .d (.val (.int .i64 (limE most (rest.take (n).toNat))))) wide_50 rfl (lt_of rfl) trivial))
        (oC (oS rfl rfl (r_bin (u1 := .int .i64 (limE most (rest.take (n).toNat))) (u2 := .int .i64 0) (v := .bool (decide ((limE most (rest.take (n).toNat)) ≠ 0))) b_neq (lt_of rfl) ⟨rfl, trivial⟩)) (oZ rfl))))))
        (by kernel_rfl) (by kernel_rfl) ?_
      refine nT ?_
      by_cases hq3 : (limE most (rest.take (n).toNat)) ≠ 0
      · exact absurd hc3 hq3
      · refine T.condF (b := (decide ((limE most (rest.take (n).toNat)) ≠ 0))) rfl (decide_eq_false hq3) ?_
        refine T.skip ?_
        refine nT ?_
        refine T.seq ?_
        refine tR (s1 := ⟨[pv 0 0, dv (.int .i64 n), dv (.func (.func 38) #[.int .i64 most] #[]), AV.any, AV.any, AV.any, dv (.slice none 0 0), slV false false kU8 (rest.take (n).toNat), AV.any, AV.any, AV.any, AV.any, AV.any, AV.any, AV.any, AV.any, dv (.bool (decide (e ≠ 0))), AV.any, AV.any, AV.any, AV.any, AV.any, AV.any, dv (.bool (decide (n > ((rest.length : Nat) : Int)))), AV.any, AV.any, AV.any, AV.any, AV.any, AV.any, AV.any, AV.any, AV.any, AV.any, AV.any, AV.any, AV.any, AV.any, AV.any, AV.any, AV.any, AV.any, AV.any, dv (.bool (decide ((limE most (rest.take (n).toNat)) ≠ 0)))], [.live (.box 59 [.d (dsl false false kU8 (rest.drop (n).toNat)), .d (.val (.int .i64 (limE most (rest.take (n).toNat))))])]⟩) [true, true, true, false, false, false, true, true, false, false, false, false, false, false, false, false, true, false, false, false, false, false, false, true, false, false, false, false, false, false, false, false, false, false, false, false, false, false, false, false, false, false, false, true] [true]
          (oC (oS rfl rfl (r_move (av := pv 0 0) (lt_of rfl) trivial))
          (oC (oS rfl rfl (r_move (av := pv 0 0) (lt_of rfl) trivial))
          (oC (oS rfl rfl (r_nilCheck (av := pv 0 0) rfl (lt_of rfl) trivial))
          (oC (oS rfl rfl (r_fieldAddr (l := 0) (off := 0) fld_59_0 (lt_of rfl) trivial))
          (oC (oS rfl rfl (r_loadB (l := 0) (off := 0) (T := 59) (cs := [.d (dsl false false kU8 rest), .d (.val (.int .i64 (limE most (rest.take (n).toNat))))]) (c := .d (dsl false false kU8 rest)) wide_37 rfl (lt_of rfl) trivial))
          (oC (oS rfl rfl (r_move (av := dv (.int .i64 n)) (lt_of rfl) trivial))
          (oC (oS rfl rfl (q_slice false false kU8 rest (rest.drop (n).toNat) (n).toNat rest.length (lo := some (.tmp 49, n)) (hi := none) Try.underlying37 iat_5 rfl rfl rfl (by omega) rfl (by first | assumption | omega | (simp only [maxLen, kU8_sz, kSl_sz, k_arr_2_uint8_sz, k_arr_2_api_Digest_sz]; omega) | (simp only [maxLen, kU8_sz, kSl_sz, k_arr_2_uint8_sz, k_arr_2_api_Digest_sz, List.length_append, List.length_cons, List.length_nil, List.length_take, List.length_drop, List.length_set]; omega) | decide) (by first | assumption | omega | (simp only [maxLen, kU8_sz, kSl_sz, k_arr_2_uint8_sz, k_arr_2_api_Digest_sz]; omega) | (simp only [maxLen, kU8_sz, kSl_sz, k_arr_2_uint8_sz, k_arr_2_api_Digest_sz, List.length_append, List.length_cons, List.length_nil, List.length_take, List.length_drop, List.length_set]; omega) | decide) (by rw [List.take_length]) (lt_of rfl) trivial))
          (oC (oS rfl rfl (r_nilCheck (av := pv 0 0) rfl (lt_of rfl) trivial))
          (oC (oS rfl rfl (r_fieldAddr (l := 0) (off := 0) fld_59_0 (lt_of rfl) trivial))
          (oC (oS rfl rfl (r_store (l := 0) (off := 0) (n := 1) (T := 59) (cs := [.d (dsl false false kU8 rest), .d (.val (.int .i64 (limE most (rest.take (n).toNat))))]) (cs' := [.d (dsl false false kU8 (rest.drop (n).toNat)), .d (.val (.int .i64 (limE most (rest.take (n).toNat))))]) (tv := .one (.d (dsl false false kU8 (rest.drop (n).toNat)))) cells_37 rfl (Nat.le_of_ble_eq_true rfl) rfl rfl trivial)) (oZ rfl)))))))))))
          (by kernel_rfl) (by kernel_rfl) ?_
        refine nT ?_
        refine T.seq ?_
        refine tR (s1 := ⟨[pv 0 0, dv (.int .i64 n), dv (.func (.func 38) #[.int .i64 most] #[]), AV.any, AV.any, AV.any, slV false false kU8 (rest.take (n).toNat), slV false false kU8 (rest.take (n).toNat), AV.any, AV.any, AV.any, AV.any, AV.any, AV.any, AV.any, AV.any, dv (.bool (decide (e ≠ 0))), AV.any, AV.any, AV.any, AV.any, AV.any, AV.any, dv (.bool (decide (n > ((rest.length : Nat) : Int)))), AV.any, AV.any, AV.any, AV.any, AV.any, AV.any, AV.any, AV.any, AV.any, AV.any, AV.any, AV.any, AV.any, AV.any, AV.any, AV.any, AV.any, AV.any, AV.any, dv (.bool (decide ((limE most (rest.take (n).toNat)) ≠ 0)))], [.live (.box 59 [.d (dsl false false kU8 (rest.drop (n).toNat)), .d (.val (.int .i64 (limE most (rest.take (n).toNat))))])]⟩) [true, true, true, false, false, false, true, true, false, false, false, false, false, false, false, false, true, false, false, false, false, false, false, true, false, false, false, false, false, false, false, false, false, false, false, false, false, false, false, false, false, false, false, true] [true]
          (oC (oS rfl rfl (r_move (av := slV false false kU8 (rest.take (n).toNat)) (lt_of rfl) trivial))
          (oC (oS rfl rfl (r_assign (av := slV false false kU8 (rest.take (n).toNat)) (lt_of rfl) trivial)) (oZ rfl)))
          (by kernel_rfl) (by kernel_rfl) ?_
        refine nT ?_
        refine T.ret ?_
        exact tE (.inl rfl) [.t 6 (.one (.d (dsl false false kU8 (rest.take (n).toNat))))] ⟨⟨rfl, rfl⟩, trivial⟩ [0] (by have e1 : ((rest.take n.toNat) : List UInt8) = (rest.take (n).toNat) := (by first | rfl | exact hc3 | exact hc3.symm); have hE := congrArg (fun (q1 : List UInt8) => (slV false false kU8 q1 : AV)) e1; exact hE) rfl rfl rfl rfl rfl ⟨⟨rfl, (by have e1 : ((rest.drop (n).toNat) : List UInt8) = (rest.drop n.toNat) := (by first | rfl | exact hc3 | exact hc3.symm); have e2 : (limE most (rest.take (n).toNat) : Int) = 0 := (by first | rfl | exact hc3 | exact hc3.symm); have hE := congr (congrArg (fun (q1 : List UInt8) (q2 : Int) => (.live (.box 59 [.d (dsl false false kU8 q1), .d (.val (.int .i64 q2))]) : HS)) e1) e2; exact hE)⟩, trivial⟩
end Go.Proofs.Ytdgjpmhpjhdkmaa.Q
