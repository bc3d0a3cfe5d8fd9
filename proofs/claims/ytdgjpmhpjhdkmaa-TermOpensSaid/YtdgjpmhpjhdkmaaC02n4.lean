import Derived.Test.YtdgjpmhpjhdkmaaC02n3
namespace Go.Proofs.Ytdgjpmhpjhdkmaa.Q
open Go Go.RowKit
set_option linter.unusedVariables false
set_option linter.unusedSimpArgs false
set_option maxRecDepth 100000
set_option maxHeartbeats 4000000
-- (*quaestor/wire.Reader).take
theorem take_limit_no (rest : List UInt8) (e : Int) (n : Int) (most : Int) (hr : rest.length ≤ 140737488355328) (hn : n = 4) (hc : ¬ okT rest e n (limE most (rest.take n.toNat))) : Holds Try.prog 37 ⟨[pv 0 0, dv (.int .i64 n), dv (.func (.func 38) #[.int .i64 most] #[])], [.box 59 [.d (dsl false false kU8 rest), .d (.val (.int .i64 e))]], dv (.slice none 0 0), [.live (.box 59 [.d (dsl false false kU8 rest), .d (.val (.int .i64 (rdE rest e n (limE most (rest.take n.toNat)))))])]⟩ := by
  refine Holds.of Try.func37 rfl (N := 54) Try.ntmps37 rfl fun w0 B0 S0 U0 => ?_
  show T _ (mkBase 54 1 w0 S0 U0 B0) ⟨[pv 0 0, dv (.int .i64 n), dv (.func (.func 38) #[.int .i64 most] #[])], [.live (.box 59 [.d (dsl false false kU8 rest), .d (.val (.int .i64 e))])]⟩ _ _
  have htl : (rest.take n.toNat).length ≤ n.toNat := List.length_take_le _ _
  refine T.seq ?_
  refine tR (s1 := ⟨[pv 0 0, dv (.int .i64 n), dv (.func (.func 38) #[.int .i64 most] #[]), AV.any, AV.any, AV.any, dv (.slice none 0 0)], [.live (.box 59 [.d (dsl false false kU8 rest), .d (.val (.int .i64 e))])]⟩) [true, true, true, false, false, false, true] [true]
    (oC (oS rfl rfl (r_assign (av := dv (.slice none 0 0)) (lt_of rfl) ⟨rfl, trivial⟩)) (oZ rfl))
    (by kernel_rfl) (by kernel_rfl) ?_
  refine nT ?_
  refine T.seq ?_
  refine T.seq ?_
  refine tR (s1 := ⟨[pv 0 0, dv (.int .i64 n), dv (.func (.func 38) #[.int .i64 most] #[]), AV.any, AV.any, AV.any, dv (.slice none 0 0), AV.any, AV.any, AV.any, AV.any, AV.any, AV.any, AV.any, AV.any, AV.any, dv (.bool (decide (e ≠ 0)))], [.live (.box 59 [.d (dsl false false kU8 rest), .d (.val (.int .i64 e))])]⟩) [true, true, true, false, false, false, true, false, false, false, false, false, false, false, false, false, true] [true]
    (oC (oS rfl rfl (r_move (av := pv 0 0) (lt_of rfl) trivial))
    (oC (oS rfl rfl (r_eqNilP (av := pv 0 0) Try.underlying46 rfl (lt_of rfl) ⟨rfl, trivial⟩))
    (oC (oS rfl rfl (r_move (av := dv (.bool false)) (lt_of rfl) trivial))
    (oC (oY (b := false) rfl rfl rfl rfl (lt_of rfl) rfl (r_move (av := pv 0 0) (lt_of rfl) trivial))
    (oC (oY (b := false) rfl rfl rfl rfl (lt_of rfl) rfl (r_nilCheck (av := pv 0 0) rfl (lt_of rfl) trivial))
    (oC (oY (b := false) rfl rfl rfl rfl (lt_of rfl) rfl (r_fieldAddr (l := 0) (off := 0) fld_59_1 (lt_of rfl) trivial))
    (oC (oY (b := false) rfl rfl rfl rfl (lt_of rfl) rfl (r_loadB (l := 0) (off := 1) (T := 59) (cs := [.d (dsl false false kU8 rest), .d (.val (.int .i64 e))]) (c := .d (.val (.int .i64 e))) wide_50 rfl (lt_of rfl) trivial))
    (oC (oY (b := false) rfl rfl rfl rfl (lt_of rfl) rfl (r_bin (u1 := .int .i64 e) (u2 := .int .i64 0) (v := .bool (decide (e ≠ 0))) b_neq (lt_of rfl) ⟨rfl, trivial⟩))
    (oC (oS rfl rfl (r_pickF (b := false) (av := dv (.bool (decide (e ≠ 0)))) (lt_of rfl) trivial rfl)) (oZ rfl))))))))))
    (by kernel_rfl) (by kernel_rfl) ?_
  refine nT ?_
  by_cases hq1 : e ≠ 0
  · refine T.condT (b := (decide (e ≠ 0))) rfl (decide_eq_true hq1) ?_
    refine T.seq ?_
    refine tR (s1 := ⟨[pv 0 0, dv (.int .i64 n), dv (.func (.func 38) #[.int .i64 most] #[]), AV.any, AV.any, AV.any, dv (.slice none 0 0), AV.any, AV.any, AV.any, AV.any, AV.any, AV.any, AV.any, AV.any, AV.any, dv (.bool (decide (e ≠ 0)))], [.live (.box 59 [.d (dsl false false kU8 rest), .d (.val (.int .i64 e))])]⟩) [true, true, true, false, false, false, true, false, false, false, false, false, false, false, false, false, true] [true]
      (oC (oS rfl rfl (r_assign (av := dv (.slice none 0 0)) (lt_of rfl) ⟨rfl, trivial⟩)) (oZ rfl))
      (by kernel_rfl) (by kernel_rfl) ?_
    refine nT ?_
    refine T.ret ?_
    refine rT ?_
    exact tE (.inl rfl) [.t 6 (.one (.d (.val (.slice none 0 0))))] ⟨⟨rfl, rfl⟩, trivial⟩ [0] rfl rfl rfl rfl rfl rfl ⟨⟨rfl, (by have e1 : (e : Int) = (rdE rest e n (limE most (rest.take n.toNat))) := (by first | rfl | (simp only [rdE]; first | rw [if_pos (by assumption)] | (rw [if_neg (by assumption)]; first | rw [if_pos (by assumption)] | rw [if_neg (by assumption)]))); have hE := congrArg (fun (q1 : Int) => (.live (.box 59 [.d (dsl false false kU8 rest), .d (.val (.int .i64 q1))]) : HS)) e1; exact hE)⟩, trivial⟩
  · refine T.condF (b := (decide (e ≠ 0))) rfl (decide_eq_false hq1) ?_
    refine T.skip ?_
    refine nT ?_
    refine T.seq ?_
    refine T.seq ?_
    refine tR (s1 := ⟨[pv 0 0, dv (.int .i64 n), dv (.func (.func 38) #[.int .i64 most] #[]), AV.any, AV.any, AV.any, dv (.slice none 0 0), AV.any, AV.any, AV.any, AV.any, AV.any, AV.any, AV.any, AV.any, AV.any, dv (.bool (decide (e ≠ 0))), AV.any, AV.any, AV.any, AV.any, AV.any, AV.any, dv (.bool (decide (n > ((rest.length : Nat) : Int))))], [.live (.box 59 [.d (dsl false false kU8 rest), .d (.val (.int .i64 e))])]⟩) [true, true, true, false, false, false, true, false, false, false, false, false, false, false, false, false, true, false, false, false, false, false, false, true] [true]
      (oC (oS rfl rfl (r_move (av := dv (.int .i64 n)) (lt_of rfl) trivial))
      (oC (oS rfl rfl (r_move (av := pv 0 0) (lt_of rfl) trivial))
      (oC (oS rfl rfl (r_nilCheck (av := pv 0 0) rfl (lt_of rfl) trivial))
      (oC (oS rfl rfl (r_fieldAddr (l := 0) (off := 0) fld_59_0 (lt_of rfl) trivial))
      (oC (oS rfl rfl (r_loadB (l := 0) (off := 0) (T := 59) (cs := [.d (dsl false false kU8 rest), .d (.val (.int .i64 e))]) (c := .d (dsl false false kU8 rest)) wide_37 rfl (lt_of rfl) trivial))
      (oC (oS rfl rfl (q_len false false kU8 rest Try.underlying37 (lt_of rfl) trivial))
      (oC (oS rfl rfl (r_bin (u1 := .int .i64 n) (u2 := .int .i64 ((rest.length : Nat) : Int)) (v := .bool (decide (n > ((rest.length : Nat) : Int)))) b_gtr (lt_of rfl) trivial)) (oZ rfl))))))))
      (by kernel_rfl) (by kernel_rfl) ?_
    refine nT ?_
    by_cases hq2 : n > ((rest.length : Nat) : Int)
    · refine T.condT (b := (decide (n > ((rest.length : Nat) : Int)))) rfl (decide_eq_true hq2) ?_
      refine T.seq ?_
      refine tR (s1 := ⟨[pv 0 0, dv (.int .i64 n), dv (.func (.func 38) #[.int .i64 most] #[]), AV.any, AV.any, AV.any, dv (.slice none 0 0), AV.any, AV.any, AV.any, AV.any, AV.any, AV.any, AV.any, AV.any, AV.any, dv (.bool (decide (e ≠ 0))), AV.any, AV.any, AV.any, AV.any, AV.any, AV.any, dv (.bool (decide (n > ((rest.length : Nat) : Int))))], [.live (.box 59 [.d (dsl false false kU8 rest), .d (.val (.int .i64 10))])]⟩) [true, true, true, false, false, false, true, false, false, false, false, false, false, false, false, false, true, false, false, false, false, false, false, true] [true]
        (oC (oS rfl rfl (r_move (av := pv 0 0) (lt_of rfl) trivial))
        (oC (oS rfl rfl (r_nilCheck (av := pv 0 0) rfl (lt_of rfl) trivial))
        (oC (oS rfl rfl (r_fieldAddr (l := 0) (off := 0) fld_59_1 (lt_of rfl) trivial))
        (oC (oS rfl rfl (r_store (l := 0) (off := 1) (n := 1) (T := 59) (cs := [.d (dsl false false kU8 rest), .d (.val (.int .i64 e))]) (cs' := [.d (dsl false false kU8 rest), .d (.val (.int .i64 10))]) (tv := .one (.d (.val (.int .i64 10)))) cells_50 rfl (Nat.le_of_ble_eq_true rfl) rfl rfl ⟨rfl, trivial⟩)) (oZ rfl)))))
        (by kernel_rfl) (by kernel_rfl) ?_
      refine nT ?_
      refine T.seq ?_
      refine tR (s1 := ⟨[pv 0 0, dv (.int .i64 n), dv (.func (.func 38) #[.int .i64 most] #[]), AV.any, AV.any, AV.any, dv (.slice none 0 0), AV.any, AV.any, AV.any, AV.any, AV.any, AV.any, AV.any, AV.any, AV.any, dv (.bool (decide (e ≠ 0))), AV.any, AV.any, AV.any, AV.any, AV.any, AV.any, dv (.bool (decide (n > ((rest.length : Nat) : Int))))], [.live (.box 59 [.d (dsl false false kU8 rest), .d (.val (.int .i64 10))])]⟩) [true, true, true, false, false, false, true, false, false, false, false, false, false, false, false, false, true, false, false, false, false, false, false, true] [true]
        (oC (oS rfl rfl (r_assign (av := dv (.slice none 0 0)) (lt_of rfl) ⟨rfl, trivial⟩)) (oZ rfl))
        (by kernel_rfl) (by kernel_rfl) ?_
      refine nT ?_
      refine T.ret ?_
      refine rT ?_
      exact tE (.inl rfl) [.t 6 (.one (.d (.val (.slice none 0 0))))] ⟨⟨rfl, rfl⟩, trivial⟩ [0] rfl rfl rfl rfl rfl rfl ⟨⟨rfl, (by have e1 : (10 : Int) = (rdE rest e n (limE most (rest.take n.toNat))) := (by first | rfl | (simp only [rdE]; first | rw [if_pos (by assumption)] | (rw [if_neg (by assumption)]; first | rw [if_pos (by assumption)] | rw [if_neg (by assumption)]))); have hE := congrArg (fun (q1 : Int) => (.live (.box 59 [.d (dsl false false kU8 rest), .d (.val (.int .i64 q1))]) : HS)) e1; exact hE)⟩, trivial⟩
    · refine T.condF (b := (decide (n > ((rest.length : Nat) : Int)))) rfl (decide_eq_false hq2) ?_
      refine T.skip ?_
      refine nT ?_
      refine T.seq ?_
      refine tR (s1 := ⟨[pv 0 0, dv (.int .i64 n), dv (.func (.func 38) #[.int .i64 most] #[]), AV.any, AV.any, AV.any, dv (.slice none 0 0), slV false false kU8 (rest.take (n).toNat), AV.any, AV.any, AV.any, AV.any, AV.any, AV.any, AV.any, AV.any, dv (.bool (decide (e ≠ 0))), AV.any, AV.any, AV.any, AV.any, AV.any, AV.any, dv (.bool (decide (n > ((rest.length : Nat) : Int))))], [.live (.box 59 [.d (dsl false false kU8 rest), .d (.val (.int .i64 e))])]⟩) [true, true, true, false, false, false, true, true, false, false, false, false, false, false, false, false, true, false, false, false, false, false, false, true] [true]
        (oC (oS rfl rfl (r_move (av := pv 0 0) (lt_of rfl) trivial))
        (oC (oS rfl rfl (r_nilCheck (av := pv 0 0) rfl (lt_of rfl) trivial))
        (oC (oS rfl rfl (r_fieldAddr (l := 0) (off := 0) fld_59_0 (lt_of rfl) trivial))
        (oC (oS rfl rfl (r_loadB (l := 0) (off := 0) (T := 59) (cs := [.d (dsl false false kU8 rest), .d (.val (.int .i64 e))]) (c := .d (dsl false false kU8 rest)) wide_37 rfl (lt_of rfl) trivial))
        (oC (oS rfl rfl (r_move (av := dv (.int .i64 n)) (lt_of rfl) trivial))
        (oC (oS rfl rfl (q_slice false false kU8 rest (rest.take (n).toNat) 0 (n).toNat (lo := none) (hi := some (.tmp 31, n)) Try.underlying37 iat_5 rfl rfl rfl rfl (by omega) (by first | assumption | omega | (simp only [maxLen, kU8_sz, kSl_sz, k_arr_2_uint8_sz, k_arr_2_api_Digest_sz]; omega) | (simp only [maxLen, kU8_sz, kSl_sz, k_arr_2_uint8_sz, k_arr_2_api_Digest_sz, List.length_append, List.length_cons, List.length_nil, List.length_take, List.length_drop, List.length_set]; omega) | decide) (by first | assumption | omega | (simp only [maxLen, kU8_sz, kSl_sz, k_arr_2_uint8_sz, k_arr_2_api_Digest_sz]; omega) | (simp only [maxLen, kU8_sz, kSl_sz, k_arr_2_uint8_sz, k_arr_2_api_Digest_sz, List.length_append, List.length_cons, List.length_nil, List.length_take, List.length_drop, List.length_set]; omega) | decide) rfl (lt_of rfl) trivial))
        (oC (oS rfl rfl (r_assign (av := slV false false kU8 (rest.take (n).toNat)) (lt_of rfl) trivial)) (oZ rfl))))))))
        (by kernel_rfl) (by kernel_rfl) ?_
      refine nT ?_
      refine T.seq ?_
      refine T.seq ?_
      refine tR (s1 := ⟨[pv 0 0, dv (.int .i64 n), dv (.func (.func 38) #[.int .i64 most] #[]), AV.any, AV.any, AV.any, dv (.slice none 0 0), slV false false kU8 (rest.take (n).toNat), AV.any, AV.any, AV.any, AV.any, AV.any, AV.any, AV.any, AV.any, dv (.bool (decide (e ≠ 0))), AV.any, AV.any, AV.any, AV.any, AV.any, AV.any, dv (.bool (decide (n > ((rest.length : Nat) : Int))))], [.live (.box 59 [.d (dsl false false kU8 rest), .d (.val (.int .i64 (limE most (rest.take (n).toNat))))])]⟩) [true, true, true, false, false, false, true, true, false, false, false, false, false, false, false, false, true, false, false, false, false, false, false, true] [true]
        (oC (oS rfl rfl (r_move (av := pv 0 0) (lt_of rfl) trivial))
        (oC (oS rfl rfl (r_move (av := dv (.func (.func 38) #[.int .i64 most] #[])) (lt_of rfl) trivial))
        (oC (oS rfl rfl (r_move (av := slV false false kU8 (rest.take (n).toNat)) (lt_of rfl) trivial))
        (oC (oS rfl rfl (r_callV (fs := #[.int .i64 most]) (cs := #[]) (wire_may most false false (rest.take (n).toNat) (by first | assumption | omega | (simp only [maxLen, kU8_sz, kSl_sz, k_arr_2_uint8_sz, k_arr_2_api_Digest_sz]; omega) | (simp only [maxLen, kU8_sz, kSl_sz, k_arr_2_uint8_sz, k_arr_2_api_Digest_sz, List.length_append, List.length_cons, List.length_nil, List.length_take, List.length_drop, List.length_set]; omega) | decide)) Try.func38 rfl (by decide) [] [] (l := [(.tmp 35, slV false false kU8 (rest.take (n).toNat))]) [] rfl 0 0 rfl rfl rfl rfl rfl rfl rfl rfl rfl rfl rfl ⟨.inl ⟨rfl, rfl⟩, ⟨.inl ⟨rfl, rfl⟩, trivial⟩⟩ rfl (fun b hb => by cases hb) (.inl rfl) (lt_of rfl) trivial))
        (oC (oS rfl rfl (r_nilCheck (av := pv 0 0) rfl (lt_of rfl) trivial))
        (oC (oS rfl rfl (r_fieldAddr (l := 0) (off := 0) fld_59_1 (lt_of rfl) trivial))
        (oC (oS rfl rfl (r_store (l := 0) (off := 1) (n := 1) (T := 59) (cs := [.d (dsl false false kU8 rest), .d (.val (.int .i64 e))]) (cs' := [.d (dsl false false kU8 rest), .d (.val (.int .i64 (limE most (rest.take (n).toNat))))]) (tv := .one (.d (.val (.int .i64 (limE most (rest.take (n).toNat)))))) cells_50 rfl (Nat.le_of_ble_eq_true rfl) rfl rfl trivial)) (oZ rfl))))))))
        (by kernel_rfl) (by kernel_rfl) ?_
      refine nT ?_
      refine T.seq ?_
      refine tR (s1 := ⟨[pv 0 0, dv (.int .i64 n), dv (.func (.func 38) #[.int .i64 most] #[]), AV.any, AV.any, AV.any, dv (.slice none 0 0), slV false false kU8 (rest.take (n).toNat), AV.any, AV.any, AV.any, AV.any, AV.any, AV.any, AV.any, AV.any, dv (.bool (decide (e ≠ 0))), AV.any, AV.any, AV.any, AV.any, AV.any, AV.any, dv (.bool (decide (n > ((rest.length : Nat) : Int)))), AV.any, AV.any, AV.any, AV.any, AV.any, AV.any, AV.any, AV.any, AV.any, AV.any, AV.any, AV.any, AV.any, AV.any, AV.any, AV.any, AV.any, AV.any, AV.any, dv (.bool (decide ((limE most (rest.take (n).toNat)) ≠ 0)))], [.live (.box 59 [.d (dsl false false kU8 rest), .d (.val (.int .i64 (limE most (rest.take (n).toNat))))])]⟩) [true, true, true, false, false, false, true, true, false, false, false, false, false, false, false, false, true, false, false, false, false, false, false, true, false, false, false, false, false, false, false, false, false, false, false, false, false, false, false, false, false, false, false, true] [true]
        (oC (oS rfl rfl (r_move (av := pv 0 0) (lt_of rfl) trivial))
        (oC (oS rfl rfl (r_nilCheck (av := pv 0 0) rfl (lt_of rfl) trivial))
        (oC (oS rfl rfl (r_fieldAddr (l := 0) (off := 0) fld_59_1 (lt_of rfl) trivial))
        (oC (oS rfl rfl (r_loadB (l := 0) (off := 1) (T := 59) (cs := [.d (dsl false false kU8 rest), .d (.val (.int .i64 (limE most (rest.take (n).toNat))))]) (c := .d (.val (.int .i64 (limE most (rest.take (n).toNat))))) wide_50 rfl (lt_of rfl) trivial))
        (oC (oS rfl rfl (r_bin (u1 := .int .i64 (limE most (rest.take (n).toNat))) (u2 := .int .i64 0) (v := .bool (decide ((limE most (rest.take (n).toNat)) ≠ 0))) b_neq (lt_of rfl) ⟨rfl, trivial⟩)) (oZ rfl))))))
        (by kernel_rfl) (by kernel_rfl) ?_
      refine nT ?_
      by_cases hq3 : (limE most (rest.take (n).toNat)) ≠ 0
      · refine T.condT (b := (decide ((limE most (rest.take (n).toNat)) ≠ 0))) rfl (decide_eq_true hq3) ?_
        refine T.seq ?_
        refine tR (s1 := ⟨[pv 0 0, dv (.int .i64 n), dv (.func (.func 38) #[.int .i64 most] #[]), AV.any, AV.any, AV.any, dv (.slice none 0 0), slV false false kU8 (rest.take (n).toNat), AV.any, AV.any, AV.any, AV.any, AV.any, AV.any, AV.any, AV.any, dv (.bool (decide (e ≠ 0))), AV.any, AV.any, AV.any, AV.any, AV.any, AV.any, dv (.bool (decide (n > ((rest.length : Nat) : Int)))), AV.any, AV.any, AV.any, AV.any, AV.any, AV.any, AV.any, AV.any, AV.any, AV.any, AV.any, AV.any, AV.any, AV.any, AV.any, AV.any, AV.any, AV.any, AV.any, dv (.bool (decide ((limE most (rest.take (n).toNat)) ≠ 0)))], [.live (.box 59 [.d (dsl false false kU8 rest), .d (.val (.int .i64 (limE most (rest.take (n).toNat))))])]⟩) [true, true, true, false, false, false, true, true, false, false, false, false, false, false, false, false, true, false, false, false, false, false, false, true, false, false, false, false, false, false, false, false, false, false, false, false, false, false, false, false, false, false, false, true] [true]
          (oC (oS rfl rfl (r_assign (av := dv (.slice none 0 0)) (lt_of rfl) ⟨rfl, trivial⟩)) (oZ rfl))
          (by kernel_rfl) (by kernel_rfl) ?_
        refine nT ?_
        refine T.ret ?_
        refine rT ?_
        exact tE (.inl rfl) [.t 6 (.one (.d (.val (.slice none 0 0))))] ⟨⟨rfl, rfl⟩, trivial⟩ [0] rfl rfl rfl rfl rfl rfl ⟨⟨rfl, (by have e1 : (limE most (rest.take (n).toNat) : Int) = (rdE rest e n (limE most (rest.take n.toNat))) := (by first | rfl | (simp only [rdE]; first | rw [if_pos (by assumption)] | (rw [if_neg (by assumption)]; first | rw [if_pos (by assumption)] | rw [if_neg (by assumption)]))); have hE := congrArg (fun (q1 : Int) => (.live (.box 59 [.d (dsl false false kU8 rest), .d (.val (.int .i64 q1))]) : HS)) e1; exact hE)⟩, trivial⟩
      · exact absurd ⟨by omega, by omega, Classical.not_not.1 hq3⟩ hc

-- (*quaestor/wire.Reader).Count
theorem rd_Count (rest : List UInt8) (e : Int) (most : Int) (hr : rest.length ≤ 140737488355328) : Holds Try.prog 27 ⟨[pv 0 0, dv (.int .i64 most)], [.box 59 [.d (dsl false false kU8 rest), .d (.val (.int .i64 e))]], dv (.int .i64 ((rdC rest e most : Nat) : Int)), [.live (.box 59 [.d (dsl false false kU8 (rdR rest e 4 (limE most (rest.take 4)))), .d (.val (.int .i64 (rdE rest e 4 (limE most (rest.take 4)))))])]⟩ := by
  refine Holds.of Try.func27 rfl (N := 15) Try.ntmps27 rfl fun w0 B0 S0 U0 => ?_
  show T _ (mkBase 15 1 w0 S0 U0 B0) ⟨[pv 0 0, dv (.int .i64 most)], [.live (.box 59 [.d (dsl false false kU8 rest), .d (.val (.int .i64 e))])]⟩ _ _
  have hi4 : numL (rest.take 4) < 4294967296 := numL_lt4 (List.length_take_le _ _)
  refine T.seq ?_
  refine tR (s1 := ⟨[pv 0 0, dv (.int .i64 most), AV.any, AV.any, dv (.int .i64 0)], [.live (.box 59 [.d (dsl false false kU8 rest), .d (.val (.int .i64 e))])]⟩) [true, true, false, false, true] [true]
    (oC (oS rfl rfl (r_assign (av := dv (.int .i64 0)) (lt_of rfl) ⟨rfl, trivial⟩)) (oZ rfl))
    (by kernel_rfl) (by kernel_rfl) ?_
  refine nT ?_
  refine T.seq ?_
  refine T.seq ?_
  by_cases hq1 : okT rest e 4 (limE most (rest.take 4))
  · have hk := id hq1; simp only [okT] at hk
    refine tR (s1 := ⟨[pv 0 0, dv (.int .i64 most), AV.any, AV.any, dv (.int .i64 0), slV false false kU8 (rest.take 4)], [.live (.box 59 [.d (dsl false false kU8 (rest.drop 4)), .d (.val (.int .i64 0))])]⟩) [true, true, false, false, true, true] [true]
      (oC (oS rfl rfl (r_move (av := pv 0 0) (lt_of rfl) trivial))
      (oC (oS rfl rfl (r_move (av := dv (.int .i64 most)) (lt_of rfl) trivial))
      (oC (oS rfl rfl (r_makeFunc (fs := [(.tmp 7, .int .i64 most)]) (cs := []) rfl rfl (lt_of rfl) trivial))
      (oC (oS rfl rfl (r_call (take_limit_ok rest e 4 most (by first | assumption | omega | (simp only [maxLen, kU8_sz, kSl_sz, k_arr_2_uint8_sz, k_arr_2_api_Digest_sz]; omega) | (simp only [maxLen, kU8_sz, kSl_sz, k_arr_2_uint8_sz, k_arr_2_api_Digest_sz, List.length_append, List.length_cons, List.length_nil, List.length_take, List.length_drop, List.length_set]; omega) | decide) (by first | assumption | omega | (simp only [maxLen, kU8_sz, kSl_sz, k_arr_2_uint8_sz, k_arr_2_api_Digest_sz]; omega) | (simp only [maxLen, kU8_sz, kSl_sz, k_arr_2_uint8_sz, k_arr_2_api_Digest_sz, List.length_append, List.length_cons, List.length_nil, List.length_take, List.length_drop, List.length_set]; omega) | decide) (by first | assumption | omega | (simp only [maxLen, kU8_sz, kSl_sz, k_arr_2_uint8_sz, k_arr_2_api_Digest_sz]; omega) | (simp only [maxLen, kU8_sz, kSl_sz, k_arr_2_uint8_sz, k_arr_2_api_Digest_sz, List.length_append, List.length_cons, List.length_nil, List.length_take, List.length_drop, List.length_set]; omega) | decide)) Try.func37 rfl (by decide) [0] [] (l := [(.tmp 6, pv 0 0), (.const (.int .i64 4), dv (.int .i64 4)), (.tmp 8, dv (.func (.func 38) #[.int .i64 most] #[]))]) [] rfl 1 1 rfl rfl rfl rfl rfl rfl rfl rfl rfl ⟨.inl ⟨rfl, rfl⟩, ⟨.inl ⟨rfl, rfl⟩, ⟨.inl ⟨rfl, rfl⟩, trivial⟩⟩⟩ rfl (fun b hb => by cases hb) (.inl rfl) (lt_of rfl) ⟨rfl, trivial⟩))
      (oC (oS rfl rfl (r_assign (av := slV false false kU8 (rest.take 4)) (lt_of rfl) trivial)) (oZ rfl))))))
      (by kernel_rfl) (by kernel_rfl) ?_
    refine nT ?_
    refine T.seq ?_
    refine tR (s1 := ⟨[pv 0 0, dv (.int .i64 most), AV.any, AV.any, dv (.int .i64 0), slV false false kU8 (rest.take 4), AV.any, AV.any, AV.any, AV.any, AV.any, dv (.bool true)], [.live (.box 59 [.d (dsl false false kU8 (rest.drop 4)), .d (.val (.int .i64 0))])]⟩) [true, true, false, false, true, true, false, false, false, false, false, true] [true]
      (oC (oS rfl rfl (r_move (av := slV false false kU8 (rest.take 4)) (lt_of rfl) trivial))
      (oC (oS rfl rfl (r_neNil (s := .d (dsl false false kU8 (rest.take 4))) Try.underlying37 (.inr (by first | assumption | omega | (simp only [maxLen, kU8_sz, kSl_sz, k_arr_2_uint8_sz, k_arr_2_api_Digest_sz]; omega) | (simp only [maxLen, kU8_sz, kSl_sz, k_arr_2_uint8_sz, k_arr_2_api_Digest_sz, List.length_append, List.length_cons, List.length_nil, List.length_take, List.length_drop, List.length_set]; omega) | decide)) (lt_of rfl) ⟨rfl, trivial⟩)) (oZ rfl)))
      (by kernel_rfl) (by kernel_rfl) ?_
    refine nT ?_
    refine T.condT (b := true) rfl rfl ?_
    refine T.seq ?_
    refine tR (s1 := ⟨[pv 0 0, dv (.int .i64 most), AV.any, AV.any, dv (.int .i64 ((numL (rest.take 4) : Nat) : Int)), slV false false kU8 (rest.take 4), AV.any, AV.any, AV.any, AV.any, AV.any, dv (.bool true)], [.live (.box 59 [.d (dsl false false kU8 (rest.drop 4)), .d (.val (.int .i64 0))])]⟩) [true, true, false, false, true, true, false, false, false, false, false, true] [true]
      (oC (oS rfl rfl (r_move (av := slV false false kU8 (rest.take 4)) (lt_of rfl) trivial))
      (oC (oS rfl rfl (r_call (wire_number false false (rest.take 4) (by first | assumption | omega | (simp only [maxLen, kU8_sz, kSl_sz, k_arr_2_uint8_sz, k_arr_2_api_Digest_sz]; omega) | (simp only [maxLen, kU8_sz, kSl_sz, k_arr_2_uint8_sz, k_arr_2_api_Digest_sz, List.length_append, List.length_cons, List.length_nil, List.length_take, List.length_drop, List.length_set]; omega) | decide)) Try.func39 rfl (by decide) [] [] (l := [(.tmp 12, slV false false kU8 (rest.take 4))]) [] rfl 0 0 rfl rfl rfl rfl rfl rfl rfl rfl rfl ⟨.inl ⟨rfl, rfl⟩, trivial⟩ rfl (fun b hb => by cases hb) (.inl rfl) (lt_of rfl) trivial))
      (oC (oS rfl rfl (r_conv (u := .int .u64 ((numL (rest.take 4) : Nat) : Int)) (v := .int .i64 ((numL (rest.take 4) : Nat) : Int)) (c_int Try.underlying56 Try.underlying3 (by rw [IntKind.wrap_i64]; omega)) (lt_of rfl) trivial))
      (oC (oS rfl rfl (r_assign (av := dv (.int .i64 ((numL (rest.take 4) : Nat) : Int))) (lt_of rfl) trivial)) (oZ rfl)))))
      (by kernel_rfl) (by kernel_rfl) ?_
    refine nT ?_
    refine T.ret ?_
    refine rT ?_
    exact tE (.inl rfl) [.t 4 (.one (.d (.val (.int .i64 ((numL (rest.take 4) : Nat) : Int)))))] ⟨⟨rfl, rfl⟩, trivial⟩ [0] (by have e1 : (((rdC rest e most : Nat) : Int) : Int) = ((numL (rest.take 4) : Nat) : Int) := (by first | rfl | (rw [rdE_ok (by assumption)]) | (rw [rdR_ok (by assumption)]; first | done | rfl) | (rw [rdR_no (by assumption)]) | (simp only [rdC]; first | (rw [if_pos (by assumption)]; done) | (rw [if_pos (by assumption)]; rfl) | (rw [if_neg (by assumption)]; first | done | rfl) | (simp [*]; done)) | (simp [rdB, *]; done)); have hE := congrArg (fun (q1 : Int) => (dv (.int .i64 q1) : AV)) e1; exact hE) rfl rfl rfl rfl rfl ⟨⟨rfl, (by have e1 : ((rest.drop 4) : List UInt8) = (rdR rest e 4 (limE most (rest.take 4))) := (by first | rfl | (rw [rdE_ok (by assumption)]) | (rw [rdR_ok (by assumption)]; first | done | rfl) | (rw [rdR_no (by assumption)]) | (simp only [rdC]; first | (rw [if_pos (by assumption)]; done) | (rw [if_pos (by assumption)]; rfl) | (rw [if_neg (by assumption)]; first | done | rfl) | (simp [*]; done)) | (simp [rdB, *]; done)); have e2 : (0 : Int) = (rdE rest e 4 (limE most (rest.take 4))) := (by first | rfl | (rw [rdE_ok (by assumption)]) | (rw [rdR_ok (by assumption)]; first | done | rfl) | (rw [rdR_no (by assumption)]) | (simp only [rdC]; first | (rw [if_pos (by assumption)]; done) | (rw [if_pos (by assumption)]; rfl) | (rw [if_neg (by assumption)]; first | done | rfl) | (simp [*]; done)) | (simp [rdB, *]; done)); have hE := congr (congrArg (fun (q1 : List UInt8) (q2 : Int) => (.live (.box 59 [.d (dsl false false kU8 q1), .d (.val (.int .i64 q2))]) : HS)) e1) e2; exact hE)⟩, trivial⟩
  · refine tR (s1 := ⟨[pv 0 0, dv (.int .i64 most), AV.any, AV.any, dv (.int .i64 0), dv (.slice none 0 0)], [.live (.box 59 [.d (dsl false false kU8 rest), .d (.val (.int .i64 (rdE rest e 4 (limE most (rest.take 4)))))])]⟩) [true, true, false, false, true, true] [true]
      (oC (oS rfl rfl (r_move (av := pv 0 0) (lt_of rfl) trivial))
      (oC (oS rfl rfl (r_move (av := dv (.int .i64 most)) (lt_of rfl) trivial))
      (oC (oS rfl rfl (r_makeFunc (fs := [(.tmp 7, .int .i64 most)]) (cs := []) rfl rfl (lt_of rfl) trivial))
      (oC (oS rfl rfl (r_call (take_limit_no rest e 4 most (by first | assumption | omega | (simp only [maxLen, kU8_sz, kSl_sz, k_arr_2_uint8_sz, k_arr_2_api_Digest_sz]; omega) | (simp only [maxLen, kU8_sz, kSl_sz, k_arr_2_uint8_sz, k_arr_2_api_Digest_sz, List.length_append, List.length_cons, List.length_nil, List.length_take, List.length_drop, List.length_set]; omega) | decide) (by first | assumption | omega | (simp only [maxLen, kU8_sz, kSl_sz, k_arr_2_uint8_sz, k_arr_2_api_Digest_sz]; omega) | (simp only [maxLen, kU8_sz, kSl_sz, k_arr_2_uint8_sz, k_arr_2_api_Digest_sz, List.length_append, List.length_cons, List.length_nil, List.length_take, List.length_drop, List.length_set]; omega) | decide) (by first | assumption | omega | (simp only [maxLen, kU8_sz, kSl_sz, k_arr_2_uint8_sz, k_arr_2_api_Digest_sz]; omega) | (simp only [maxLen, kU8_sz, kSl_sz, k_arr_2_uint8_sz, k_arr_2_api_Digest_sz, List.length_append, List.length_cons, List.length_nil, List.length_take, List.length_drop, List.length_set]; omega) | decide)) Try.func37 rfl (by decide) [0] [] (l := [(.tmp 6, pv 0 0), (.const (.int .i64 4), dv (.int .i64 4)), (.tmp 8, dv (.func (.func 38) #[.int .i64 most] #[]))]) [] rfl 1 1 rfl rfl rfl rfl rfl rfl rfl rfl rfl ⟨.inl ⟨rfl, rfl⟩, ⟨.inl ⟨rfl, rfl⟩, ⟨.inl ⟨rfl, rfl⟩, trivial⟩⟩⟩ rfl (fun b hb => by cases hb) (.inl rfl) (lt_of rfl) ⟨rfl, trivial⟩))
      (oC (oS rfl rfl (r_assign (av := dv (.slice none 0 0)) (lt_of rfl) trivial)) (oZ rfl))))))
      (by kernel_rfl) (by kernel_rfl) ?_
    refine nT ?_
    refine T.seq ?_
    refine tR (s1 := ⟨[pv 0 0, dv (.int .i64 most), AV.any, AV.any, dv (.int .i64 0), dv (.slice none 0 0), AV.any, AV.any, AV.any, AV.any, AV.any, dv (.bool false)], [.live (.box 59 [.d (dsl false false kU8 rest), .d (.val (.int .i64 (rdE rest e 4 (limE most (rest.take 4)))))])]⟩) [true, true, false, false, true, true, false, false, false, false, false, true] [true]
      (oC (oS rfl rfl (r_move (av := dv (.slice none 0 0)) (lt_of rfl) trivial))
      (oC (oS rfl rfl (r_bin (u1 := .slice none 0 0) (u2 := .slice none 0 0) (v := .bool false) (b_neqNilS Try.underlying37) (lt_of rfl) ⟨rfl, trivial⟩)) (oZ rfl)))
      (by kernel_rfl) (by kernel_rfl) ?_
    refine nT ?_
    refine T.condF (b := false) rfl rfl ?_
    refine T.skip ?_
    refine nT ?_
    refine T.seq ?_
    refine tR (s1 := ⟨[pv 0 0, dv (.int .i64 most), AV.any, AV.any, dv (.int .i64 0), dv (.slice none 0 0), AV.any, AV.any, AV.any, AV.any, AV.any, dv (.bool false)], [.live (.box 59 [.d (dsl false false kU8 rest), .d (.val (.int .i64 (rdE rest e 4 (limE most (rest.take 4)))))])]⟩) [true, true, false, false, true, true, false, false, false, false, false, true] [true]
      (oC (oS rfl rfl (r_assign (av := dv (.int .i64 0)) (lt_of rfl) ⟨rfl, trivial⟩)) (oZ rfl))
      (by kernel_rfl) (by kernel_rfl) ?_
    refine nT ?_
    refine T.ret ?_
    exact tE (.inl rfl) [.t 4 (.one (.d (.val (.int .i64 0))))] ⟨⟨rfl, rfl⟩, trivial⟩ [0] (by have e1 : (((rdC rest e most : Nat) : Int) : Int) = 0 := (by first | rfl | (rw [rdE_ok (by assumption)]) | (rw [rdR_ok (by assumption)]; first | done | rfl) | (rw [rdR_no (by assumption)]) | (simp only [rdC]; first | (rw [if_pos (by assumption)]; done) | (rw [if_pos (by assumption)]; rfl) | (rw [if_neg (by assumption)]; first | done | rfl) | (simp [*]; done)) | (simp [rdB, *]; done)); have hE := congrArg (fun (q1 : Int) => (dv (.int .i64 q1) : AV)) e1; exact hE) rfl rfl rfl rfl rfl ⟨⟨rfl, (by have e1 : (rest : List UInt8) = (rdR rest e 4 (limE most (rest.take 4))) := (by first | rfl | (rw [rdE_ok (by assumption)]) | (rw [rdR_ok (by assumption)]; first | done | rfl) | (rw [rdR_no (by assumption)]) | (simp only [rdC]; first | (rw [if_pos (by assumption)]; done) | (rw [if_pos (by assumption)]; rfl) | (rw [if_neg (by assumption)]; first | done | rfl) | (simp [*]; done)) | (simp [rdB, *]; done)); have hE := congrArg (fun (q1 : List UInt8) => (.live (.box 59 [.d (dsl false false kU8 q1), .d (.val (.int .i64 (rdE rest e 4 (limE most (rest.take 4)))))]) : HS)) e1; exact hE)⟩, trivial⟩

-- (*quaestor/wire.Reader).End
theorem rd_End (rest : List UInt8) (e : Int) (hr : rest.length ≤ 140737488355328) : Holds Try.prog 29 ⟨[pv 0 0], [.box 59 [.d (dsl false false kU8 rest), .d (.val (.int .i64 e))]], .tup [], [.live (.box 59 [.d (dsl false false kU8 rest), .d (.val (.int .i64 (rdX rest e)))])]⟩ := by
  refine Holds.of Try.func29 rfl (N := 22) Try.ntmps29 rfl fun w0 B0 S0 U0 => ?_
  show T _ (mkBase 22 1 w0 S0 U0 B0) ⟨[pv 0 0], [.live (.box 59 [.d (dsl false false kU8 rest), .d (.val (.int .i64 e))])]⟩ _ _
  refine T.seq ?_
  by_cases hq1 : e = 0
  · refine tR (s1 := ⟨[pv 0 0, AV.any, AV.any, AV.any, AV.any, AV.any, AV.any, AV.any, AV.any, AV.any, AV.any, AV.any, AV.any, AV.any, AV.any, AV.any, AV.any, AV.any, dv (.bool (decide (((rest.length : Nat) : Int) > 0)))], [.live (.box 59 [.d (dsl false false kU8 rest), .d (.val (.int .i64 e))])]⟩) [true, false, false, false, false, false, false, false, false, false, false, false, false, false, false, false, false, false, true] [true]
      (oC (oS rfl rfl (r_move (av := pv 0 0) (lt_of rfl) trivial))
      (oC (oS rfl rfl (r_neNilP (av := pv 0 0) Try.underlying46 rfl (lt_of rfl) ⟨rfl, trivial⟩))
      (oC (oS rfl rfl (r_move (av := dv (.bool true)) (lt_of rfl) trivial))
      (oC (oY (b := true) rfl rfl rfl rfl (lt_of rfl) rfl (r_move (av := pv 0 0) (lt_of rfl) trivial))
      (oC (oY (b := true) rfl rfl rfl rfl (lt_of rfl) rfl (r_nilCheck (av := pv 0 0) rfl (lt_of rfl) trivial))
      (oC (oY (b := true) rfl rfl rfl rfl (lt_of rfl) rfl (r_fieldAddr (l := 0) (off := 0) fld_59_1 (lt_of rfl) trivial))
      (oC (oY (b := true) rfl rfl rfl rfl (lt_of rfl) rfl (r_loadB (l := 0) (off := 1) (T := 59) (cs := [.d (dsl false false kU8 rest), .d (.val (.int .i64 e))]) (c := .d (.val (.int .i64 e))) wide_50 rfl (lt_of rfl) trivial))
      (oC (oY (b := true) rfl rfl rfl rfl (lt_of rfl) rfl (r_bin (u1 := .int .i64 e) (u2 := .int .i64 0) (v := .bool (decide (e = 0))) b_eql (lt_of rfl) ⟨rfl, trivial⟩))
      (oC (oS rfl rfl (r_pickT (b := true) (av := dv (.bool (decide (e = 0)))) (lt_of rfl) trivial rfl))
      (oC (oS rfl rfl (r_move (av := dv (.bool (decide (e = 0)))) (lt_of rfl) trivial))
      (oC (oY (b := (decide (e = 0))) rfl rfl rfl rfl (lt_of rfl) (decide_eq_true hq1) (r_move (av := pv 0 0) (lt_of rfl) trivial))
      (oC (oY (b := (decide (e = 0))) rfl rfl rfl rfl (lt_of rfl) (decide_eq_true hq1) (r_nilCheck (av := pv 0 0) rfl (lt_of rfl) trivial))
      (oC (oY (b := (decide (e = 0))) rfl rfl rfl rfl (lt_of rfl) (decide_eq_true hq1) (r_fieldAddr (l := 0) (off := 0) fld_59_0 (lt_of rfl) trivial))
      (oC (oY (b := (decide (e = 0))) rfl rfl rfl rfl (lt_of rfl) (decide_eq_true hq1) (r_loadB (l := 0) (off := 0) (T := 59) (cs := [.d (dsl false false kU8 rest), .d (.val (.int .i64 e))]) (c := .d (dsl false false kU8 rest)) wide_37 rfl (lt_of rfl) trivial))
      (oC (oY (b := (decide (e = 0))) rfl rfl rfl rfl (lt_of rfl) (decide_eq_true hq1) (q_len false false kU8 rest Try.underlying37 (lt_of rfl) trivial))
      (oC (oY (b := (decide (e = 0))) rfl rfl rfl rfl (lt_of rfl) (decide_eq_true hq1) (r_bin (u1 := .int .i64 ((rest.length : Nat) : Int)) (u2 := .int .i64 0) (v := .bool (decide (((rest.length : Nat) : Int) > 0))) b_gtr (lt_of rfl) ⟨rfl, trivial⟩))
      (oC (oS rfl rfl (r_pickT (b := (decide (e = 0))) (av := dv (.bool (decide (((rest.length : Nat) : Int) > 0)))) (lt_of rfl) trivial (decide_eq_true hq1))) (oZ rfl))))))))))))))))))
      (by kernel_rfl) (by kernel_rfl) ?_
    refine nT ?_
    by_cases hq2 : ((rest.length : Nat) : Int) > 0
    · refine T.condT (b := (decide (((rest.length : Nat) : Int) > 0))) rfl (decide_eq_true hq2) ?_
      refine tR (s1 := ⟨[pv 0 0, AV.any, AV.any, AV.any, AV.any, AV.any, AV.any, AV.any, AV.any, AV.any, AV.any, AV.any, AV.any, AV.any, AV.any, AV.any, AV.any, AV.any, dv (.bool (decide (((rest.length : Nat) : Int) > 0)))], [.live (.box 59 [.d (dsl false false kU8 rest), .d (.val (.int .i64 13))])]⟩) [true, false, false, false, false, false, false, false, false, false, false, false, false, false, false, false, false, false, true] [true]
        (oC (oS rfl rfl (r_move (av := pv 0 0) (lt_of rfl) trivial))
        (oC (oS rfl rfl (r_nilCheck (av := pv 0 0) rfl (lt_of rfl) trivial))
        (oC (oS rfl rfl (r_fieldAddr (l := 0) (off := 0) fld_59_1 (lt_of rfl) trivial))
        (oC (oS rfl rfl (r_store (l := 0) (off := 1) (n := 1) (T := 59) (cs := [.d (dsl false false kU8 rest), .d (.val (.int .i64 e))]) (cs' := [.d (dsl false false kU8 rest), .d (.val (.int .i64 13))]) (tv := .one (.d (.val (.int .i64 13)))) cells_50 rfl (Nat.le_of_ble_eq_true rfl) rfl rfl ⟨rfl, trivial⟩)) (oZ rfl)))))
        (by kernel_rfl) (by kernel_rfl) ?_
      exact tE (.inr rfl) [] trivial [0] rfl rfl rfl rfl rfl rfl ⟨⟨rfl, (by have e1 : (13 : Int) = (rdX rest e) := (by first | rfl | (simp only [rdX]; first | rw [if_pos ⟨by assumption, by assumption⟩] | rw [if_neg (fun h => by first | exact absurd h.1 (by assumption) | exact absurd h.2 (by assumption))])); have hE := congrArg (fun (q1 : Int) => (.live (.box 59 [.d (dsl false false kU8 rest), .d (.val (.int .i64 q1))]) : HS)) e1; exact hE)⟩, trivial⟩
    · refine T.condF (b := (decide (((rest.length : Nat) : Int) > 0))) rfl (decide_eq_false hq2) ?_
      refine T.skip ?_
      exact tE (.inr rfl) [] trivial [0] rfl rfl rfl rfl rfl rfl ⟨⟨rfl, (by have e1 : (e : Int) = (rdX rest e) := (by first | rfl | (simp only [rdX]; first | rw [if_pos ⟨by assumption, by assumption⟩] | rw [if_neg (fun h => by first | exact absurd h.1 (by assumption) | exact absurd h.2 (by assumption))])); have hE := congrArg (fun (q1 : Int) => (.live (.box 59 [.d (dsl false false kU8 rest), .d (.val (.int .i64 q1))]) : HS)) e1; exact hE)⟩, trivial⟩
  · refine tR (s1 := ⟨[pv 0 0, AV.any, AV.any, AV.any, AV.any, AV.any, AV.any, AV.any, AV.any, AV.any, AV.any, AV.any, AV.any, AV.any, AV.any, AV.any, AV.any, AV.any, dv (.bool false)], [.live (.box 59 [.d (dsl false false kU8 rest), .d (.val (.int .i64 e))])]⟩) [true, false, false, false, false, false, false, false, false, false, false, false, false, false, false, false, false, false, true] [true]
      (oC (oS rfl rfl (r_move (av := pv 0 0) (lt_of rfl) trivial))
      (oC (oS rfl rfl (r_neNilP (av := pv 0 0) Try.underlying46 rfl (lt_of rfl) ⟨rfl, trivial⟩))
      (oC (oS rfl rfl (r_move (av := dv (.bool true)) (lt_of rfl) trivial))
      (oC (oY (b := true) rfl rfl rfl rfl (lt_of rfl) rfl (r_move (av := pv 0 0) (lt_of rfl) trivial))
      (oC (oY (b := true) rfl rfl rfl rfl (lt_of rfl) rfl (r_nilCheck (av := pv 0 0) rfl (lt_of rfl) trivial))
      (oC (oY (b := true) rfl rfl rfl rfl (lt_of rfl) rfl (r_fieldAddr (l := 0) (off := 0) fld_59_1 (lt_of rfl) trivial))
      (oC (oY (b := true) rfl rfl rfl rfl (lt_of rfl) rfl (r_loadB (l := 0) (off := 1) (T := 59) (cs := [.d (dsl false false kU8 rest), .d (.val (.int .i64 e))]) (c := .d (.val (.int .i64 e))) wide_50 rfl (lt_of rfl) trivial))
      (oC (oY (b := true) rfl rfl rfl rfl (lt_of rfl) rfl (r_bin (u1 := .int .i64 e) (u2 := .int .i64 0) (v := .bool (decide (e = 0))) b_eql (lt_of rfl) ⟨rfl, trivial⟩))
      (oC (oS rfl rfl (r_pickT (b := true) (av := dv (.bool (decide (e = 0)))) (lt_of rfl) trivial rfl))
      (oC (oS rfl rfl (r_move (av := dv (.bool (decide (e = 0)))) (lt_of rfl) trivial))
      (oC (oN (b := (decide (e = 0))) rfl rfl rfl rfl (lt_of rfl) (decide_eq_false hq1) rfl (lt_of rfl))
      (oC (oN (b := (decide (e = 0))) rfl rfl rfl rfl (lt_of rfl) (decide_eq_false hq1) rfl (lt_of rfl))
      (oC (oN (b := (decide (e = 0))) rfl rfl rfl rfl (lt_of rfl) (decide_eq_false hq1) rfl (lt_of rfl))
      (oC (oN (b := (decide (e = 0))) rfl rfl rfl rfl (lt_of rfl) (decide_eq_false hq1) rfl (lt_of rfl))
      (oC (oN (b := (decide (e = 0))) rfl rfl rfl rfl (lt_of rfl) (decide_eq_false hq1) rfl (lt_of rfl))
      (oC (oN (b := (decide (e = 0))) rfl rfl rfl rfl (lt_of rfl) (decide_eq_false hq1) rfl (lt_of rfl))
      (oC (oS rfl rfl (r_pickF (b := (decide (e = 0))) (av := dv (.bool false)) (lt_of rfl) ⟨rfl, trivial⟩ (decide_eq_false hq1))) (oZ rfl))))))))))))))))))
      (by kernel_rfl) (by kernel_rfl) ?_
    refine nT ?_
    refine T.condF (b := false) rfl rfl ?_
    refine T.skip ?_
    exact tE (.inr rfl) [] trivial [0] rfl rfl rfl rfl rfl rfl ⟨⟨rfl, (by have e1 : (e : Int) = (rdX rest e) := (by first | rfl | (simp only [rdX]; first | rw [if_pos ⟨by assumption, by assumption⟩] | rw [if_neg (fun h => by first | exact absurd h.1 (by assumption) | exact absurd h.2 (by assumption))])); have hE := congrArg (fun (q1 : Int) => (.live (.box 59 [.d (dsl false false kU8 rest), .d (.val (.int .i64 q1))]) : HS)) e1; exact hE)⟩, trivial⟩

-- (*quaestor/wire.Reader).Err
theorem rd_Err (rest : List UInt8) (e : Int) : Holds Try.prog 30 ⟨[pv 0 0], [.box 59 [.d (dsl false false kU8 rest), .d (.val (.int .i64 e))]], dv (.int .i64 e), [.live (.box 59 [.d (dsl false false kU8 rest), .d (.val (.int .i64 e))])]⟩ := by
  refine Holds.of Try.func30 rfl (N := 9) Try.ntmps30 rfl fun w0 B0 S0 U0 => ?_
  show T _ (mkBase 9 1 w0 S0 U0 B0) ⟨[pv 0 0], [.live (.box 59 [.d (dsl false false kU8 rest), .d (.val (.int .i64 e))])]⟩ _ _
  refine T.seq ?_
  refine tR (s1 := ⟨[pv 0 0, AV.any, dv (.int .i64 0)], [.live (.box 59 [.d (dsl false false kU8 rest), .d (.val (.int .i64 e))])]⟩) [true, false, true] [true]
    (oC (oS rfl rfl (r_assign (av := dv (.int .i64 0)) (lt_of rfl) ⟨rfl, trivial⟩)) (oZ rfl))
    (by kernel_rfl) (by kernel_rfl) ?_
  refine nT ?_
  refine T.seq ?_
  refine T.seq ?_
  refine tR (s1 := ⟨[pv 0 0, AV.any, dv (.int .i64 0), AV.any, dv (.bool false)], [.live (.box 59 [.d (dsl false false kU8 rest), .d (.val (.int .i64 e))])]⟩) [true, false, true, false, true] [true]
    (oC (oS rfl rfl (r_move (av := pv 0 0) (lt_of rfl) trivial))
    (oC (oS rfl rfl (r_eqNilP (av := pv 0 0) Try.underlying46 rfl (lt_of rfl) ⟨rfl, trivial⟩)) (oZ rfl)))
    (by kernel_rfl) (by kernel_rfl) ?_
  refine nT ?_
  refine T.condF (b := false) rfl rfl ?_
  refine T.skip ?_
  refine nT ?_
  refine T.seq ?_
  refine tR (s1 := ⟨[pv 0 0, AV.any, dv (.int .i64 e), AV.any, dv (.bool false)], [.live (.box 59 [.d (dsl false false kU8 rest), .d (.val (.int .i64 e))])]⟩) [true, false, true, false, true] [true]
    (oC (oS rfl rfl (r_move (av := pv 0 0) (lt_of rfl) trivial))
    (oC (oS rfl rfl (r_nilCheck (av := pv 0 0) rfl (lt_of rfl) trivial))
    (oC (oS rfl rfl (r_fieldAddr (l := 0) (off := 0) fld_59_1 (lt_of rfl) trivial))
    (oC (oS rfl rfl (r_loadB (l := 0) (off := 1) (T := 59) (cs := [.d (dsl false false kU8 rest), .d (.val (.int .i64 e))]) (c := .d (.val (.int .i64 e))) wide_50 rfl (lt_of rfl) trivial))
    (oC (oS rfl rfl (r_assign (av := dv (.int .i64 e)) (lt_of rfl) trivial)) (oZ rfl))))))
    (by kernel_rfl) (by kernel_rfl) ?_
  refine nT ?_
  refine T.ret ?_
  exact tE (.inl rfl) [.t 2 (.one (.d (.val (.int .i64 e))))] ⟨⟨rfl, rfl⟩, trivial⟩ [0] rfl rfl rfl rfl rfl rfl ⟨⟨rfl, rfl⟩, trivial⟩
end Go.Proofs.Ytdgjpmhpjhdkmaa.Q
