import Derived.Test.YtdgjpmhpjhdkmaaC02n9
namespace Go.Proofs.Ytdgjpmhpjhdkmaa.Q
open Go Go.RowKit
set_option linter.unusedVariables false
set_option linter.unusedSimpArgs false
set_option maxRecDepth 100000
set_option maxHeartbeats 4000000
theorem iat_25 : Try.prog.info? 25 = some Try.t25 := by kernel_rfl
theorem wide_25 : Wide Try.prog 25 none := ⟨_, Try.underlying25, (fun _ h => by cases h), (fun _ _ h => by cases h)⟩
-- quaestor/quaestorlaw02.TermPairs
theorem law_TermPairs (t : UInt8) (b : List UInt8) (d : arr_2_api_Digest) : Holds Try.prog 7 ⟨[dv (.int .u8 ((t.toNat : Nat) : Int)), slV false false kU8 b, .tv (.agg [.d (.val (strV d.f_0)), .d (.val (strV d.f_1))])], [], dv (.bool true), []⟩ := by
  refine Holds.of Try.func7 rfl (N := 47) Try.ntmps7 rfl fun w0 B0 S0 U0 => ?_
  show T _ (mkBase 47 0 w0 S0 U0 B0) ⟨[dv (.int .u8 ((t.toNat : Nat) : Int)), slV false false kU8 b, .tv (.agg [.d (.val (strV d.f_0)), .d (.val (strV d.f_1))])], []⟩ _ _
  refine T.seq ?_
  refine tR (s1 := ⟨[dv (.int .u8 ((t.toNat : Nat) : Int)), slV false false kU8 b, .tv (.agg [.d (.val (strV d.f_0)), .d (.val (strV d.f_1))]), AV.any, AV.any, pv 0 0, dv (.bool false)], [.live (.box 38 [.d (.val (strV d.f_0)), .d (.val (strV d.f_1))])]⟩) [true, true, true, false, false, true, true] [true]
    (oC (oS rfl rfl (r_box (l := 0) (t := .agg [.d (.val (strV d.f_0)), .d (.val (strV d.f_1))]) rfl (lt_of rfl) trivial))
    (oC (oS rfl rfl (r_assign (av := dv (.bool false)) (lt_of rfl) ⟨rfl, trivial⟩)) (oZ rfl)))
    (by kernel_rfl) (by kernel_rfl) ?_
  refine nT ?_
  refine T.seq ?_
  refine tD (s1 := ⟨[dv (.int .u8 ((t.toNat : Nat) : Int)), slV false false kU8 b, .tv (.agg [.d (.val (strV d.f_0)), .d (.val (strV d.f_1))]), AV.any, AV.any, pv 0 0, dv (.bool false), dv (strV d.f_0), dv (strV d.f_1)], [.live (.box 38 [.d (.val (strV d.f_0)), .d (.val (strV d.f_1))])]⟩) (by kernel_rfl) [[], [0], [], [2], [0, 1], [0, 1, 2, 3, 4]] [true, true, true, false, false, true, true, true, true] [true]
    (oC (oS rfl rfl (r_indexB (k := .i64) (l := 0) (off := 0) (i := 0) (m := 0) (o' := 0) Try.underlying38 iat_25 rfl (by decide) rfl (lt_of rfl) ⟨rfl, trivial⟩))
    (oC (oS rfl rfl (r_loadB (l := 0) (off := 0) (T := 38) (cs := [.d (.val (strV d.f_0)), .d (.val (strV d.f_1))]) (c := .d (.val (strV d.f_0))) wide_25 rfl (lt_of rfl) trivial))
    (oC (oS rfl rfl (r_indexB (k := .i64) (l := 0) (off := 0) (i := 1) (m := 1) (o' := 1) Try.underlying38 iat_25 rfl (by decide) rfl (lt_of rfl) ⟨rfl, trivial⟩))
    (oC (oS rfl rfl (r_loadB (l := 0) (off := 1) (T := 38) (cs := [.d (.val (strV d.f_0)), .d (.val (strV d.f_1))]) (c := .d (.val (strV d.f_1))) wide_25 rfl (lt_of rfl) trivial))
    (oC (oS rfl rfl (r_assign (av := dv (strV d.f_0)) (lt_of rfl) trivial))
    (oC (oS rfl rfl (r_assign (av := dv (strV d.f_1)) (lt_of rfl) trivial)) (oZ rfl)))))))
    (by kernel_rfl) (by kernel_rfl) (by kernel_rfl) (by kernel_rfl) (by kernel_rfl) ?_
  refine nT ?_
  refine T.seq ?_
  refine T.seq ?_
  by_cases hq1 : ((b.length : Nat) : Int) > 2000
  · refine tR (s1 := ⟨[dv (.int .u8 ((t.toNat : Nat) : Int)), slV false false kU8 b, .tv (.agg [.d (.val (strV d.f_0)), .d (.val (strV d.f_1))]), AV.any, AV.any, pv 0 0, dv (.bool false), dv (strV d.f_0), dv (strV d.f_1), AV.any, AV.any, AV.any, AV.any, AV.any, AV.any, AV.any, AV.any, AV.any, AV.any, AV.any, AV.any, AV.any, AV.any, AV.any, AV.any, dv (.bool true)], [.live (.box 38 [.d (.val (strV d.f_0)), .d (.val (strV d.f_1))])]⟩) [true, true, true, false, false, true, true, true, true, false, false, false, false, false, false, false, false, false, false, false, false, false, false, false, false, true] [true]
      (oC (oS rfl rfl (r_move (av := slV false false kU8 b) (lt_of rfl) trivial))
      (oC (oS rfl rfl (q_len false false kU8 b Try.underlying37 (lt_of rfl) trivial))
      (oC (oS rfl rfl (r_bin (u1 := .int .i64 ((b.length : Nat) : Int)) (u2 := .int .i64 2000) (v := .bool (decide (((b.length : Nat) : Int) > 2000))) b_gtr (lt_of rfl) ⟨rfl, trivial⟩))
      (oC (oS rfl rfl (r_move (av := dv (.bool (decide (((b.length : Nat) : Int) > 2000)))) (lt_of rfl) trivial))
      (oC (oN (b := (decide (((b.length : Nat) : Int) > 2000))) rfl rfl rfl rfl (lt_of rfl) (decide_eq_true hq1) rfl (lt_of rfl))
      (oC (oN (b := (decide (((b.length : Nat) : Int) > 2000))) rfl rfl rfl rfl (lt_of rfl) (decide_eq_true hq1) rfl (lt_of rfl))
      (oC (oN (b := (decide (((b.length : Nat) : Int) > 2000))) rfl rfl rfl rfl (lt_of rfl) (decide_eq_true hq1) rfl (lt_of rfl))
      (oC (oS rfl rfl (r_pickT (b := (decide (((b.length : Nat) : Int) > 2000))) (av := dv (.bool true)) (lt_of rfl) ⟨rfl, trivial⟩ (decide_eq_true hq1)))
      (oC (oS rfl rfl (r_move (av := dv (.bool true)) (lt_of rfl) trivial))
      (oC (oN (b := true) rfl rfl rfl rfl (lt_of rfl) rfl rfl (lt_of rfl))
      (oC (oN (b := true) rfl rfl rfl rfl (lt_of rfl) rfl rfl (lt_of rfl))
      (oC (oN (b := true) rfl rfl rfl rfl (lt_of rfl) rfl rfl (lt_of rfl))
      (oC (oS rfl rfl (r_pickT (b := true) (av := dv (.bool true)) (lt_of rfl) ⟨rfl, trivial⟩ rfl)) (oZ rfl))))))))))))))
      (by kernel_rfl) (by kernel_rfl) ?_
    refine nT ?_
    refine T.condT (b := true) rfl rfl ?_
    refine T.seq ?_
    refine tR (s1 := ⟨[dv (.int .u8 ((t.toNat : Nat) : Int)), slV false false kU8 b, .tv (.agg [.d (.val (strV d.f_0)), .d (.val (strV d.f_1))]), AV.any, AV.any, pv 0 0, dv (.bool true), dv (strV d.f_0), dv (strV d.f_1), AV.any, AV.any, AV.any, AV.any, AV.any, AV.any, AV.any, AV.any, AV.any, AV.any, AV.any, AV.any, AV.any, AV.any, AV.any, AV.any, dv (.bool true)], [.live (.box 38 [.d (.val (strV d.f_0)), .d (.val (strV d.f_1))])]⟩) [true, true, true, false, false, true, true, true, true, false, false, false, false, false, false, false, false, false, false, false, false, false, false, false, false, true] [true]
      (oC (oS rfl rfl (r_assign (av := dv (.bool true)) (lt_of rfl) ⟨rfl, trivial⟩)) (oZ rfl))
      (by kernel_rfl) (by kernel_rfl) ?_
    refine nT ?_
    refine T.ret ?_
    refine rT ?_
    exact tE (.inl rfl) [.t 6 (.one (.d (.val (.bool true))))] ⟨⟨rfl, rfl⟩, trivial⟩ [] rfl rfl rfl rfl rfl rfl trivial
  · by_cases hq2 : ((d.f_0.length : Nat) : Int) > 2000
    · refine tR (s1 := ⟨[dv (.int .u8 ((t.toNat : Nat) : Int)), slV false false kU8 b, .tv (.agg [.d (.val (strV d.f_0)), .d (.val (strV d.f_1))]), AV.any, AV.any, pv 0 0, dv (.bool false), dv (strV d.f_0), dv (strV d.f_1), AV.any, AV.any, AV.any, AV.any, AV.any, AV.any, AV.any, AV.any, AV.any, AV.any, AV.any, AV.any, AV.any, AV.any, AV.any, AV.any, dv (.bool true)], [.live (.box 38 [.d (.val (strV d.f_0)), .d (.val (strV d.f_1))])]⟩) [true, true, true, false, false, true, true, true, true, false, false, false, false, false, false, false, false, false, false, false, false, false, false, false, false, true] [true]
        (oC (oS rfl rfl (r_move (av := slV false false kU8 b) (lt_of rfl) trivial))
        (oC (oS rfl rfl (q_len false false kU8 b Try.underlying37 (lt_of rfl) trivial))
        (oC (oS rfl rfl (r_bin (u1 := .int .i64 ((b.length : Nat) : Int)) (u2 := .int .i64 2000) (v := .bool (decide (((b.length : Nat) : Int) > 2000))) b_gtr (lt_of rfl) ⟨rfl, trivial⟩))
        (oC (oS rfl rfl (r_move (av := dv (.bool (decide (((b.length : Nat) : Int) > 2000)))) (lt_of rfl) trivial))
        (oC (oY (b := (decide (((b.length : Nat) : Int) > 2000))) rfl rfl rfl rfl (lt_of rfl) (decide_eq_false hq1) (r_move (av := dv (strV d.f_0)) (lt_of rfl) trivial))
        (oC (oY (b := (decide (((b.length : Nat) : Int) > 2000))) rfl rfl rfl rfl (lt_of rfl) (decide_eq_false hq1) (q_lenStr d.f_0 Try.underlying25 (lt_of rfl) trivial))
        (oC (oY (b := (decide (((b.length : Nat) : Int) > 2000))) rfl rfl rfl rfl (lt_of rfl) (decide_eq_false hq1) (r_bin (u1 := .int .i64 ((d.f_0.length : Nat) : Int)) (u2 := .int .i64 2000) (v := .bool (decide (((d.f_0.length : Nat) : Int) > 2000))) b_gtr (lt_of rfl) ⟨rfl, trivial⟩))
        (oC (oS rfl rfl (r_pickF (b := (decide (((b.length : Nat) : Int) > 2000))) (av := dv (.bool (decide (((d.f_0.length : Nat) : Int) > 2000)))) (lt_of rfl) trivial (decide_eq_false hq1)))
        (oC (oS rfl rfl (r_move (av := dv (.bool (decide (((d.f_0.length : Nat) : Int) > 2000)))) (lt_of rfl) trivial))
        (oC (oN (b := (decide (((d.f_0.length : Nat) : Int) > 2000))) rfl rfl rfl rfl (lt_of rfl) (decide_eq_true hq2) rfl (lt_of rfl))
        (oC (oN (b := (decide (((d.f_0.length : Nat) : Int) > 2000))) rfl rfl rfl rfl (lt_of rfl) (decide_eq_true hq2) rfl (lt_of rfl))
        (oC (oN (b := (decide (((d.f_0.length : Nat) : Int) > 2000))) rfl rfl rfl rfl (lt_of rfl) (decide_eq_true hq2) rfl (lt_of rfl))
        (oC (oS rfl rfl (r_pickT (b := (decide (((d.f_0.length : Nat) : Int) > 2000))) (av := dv (.bool true)) (lt_of rfl) ⟨rfl, trivial⟩ (decide_eq_true hq2))) (oZ rfl))))))))))))))
        (by kernel_rfl) (by kernel_rfl) ?_
      refine nT ?_
      refine T.condT (b := true) rfl rfl ?_
      refine T.seq ?_
      refine tR (s1 := ⟨[dv (.int .u8 ((t.toNat : Nat) : Int)), slV false false kU8 b, .tv (.agg [.d (.val (strV d.f_0)), .d (.val (strV d.f_1))]), AV.any, AV.any, pv 0 0, dv (.bool true), dv (strV d.f_0), dv (strV d.f_1), AV.any, AV.any, AV.any, AV.any, AV.any, AV.any, AV.any, AV.any, AV.any, AV.any, AV.any, AV.any, AV.any, AV.any, AV.any, AV.any, dv (.bool true)], [.live (.box 38 [.d (.val (strV d.f_0)), .d (.val (strV d.f_1))])]⟩) [true, true, true, false, false, true, true, true, true, false, false, false, false, false, false, false, false, false, false, false, false, false, false, false, false, true] [true]
        (oC (oS rfl rfl (r_assign (av := dv (.bool true)) (lt_of rfl) ⟨rfl, trivial⟩)) (oZ rfl))
        (by kernel_rfl) (by kernel_rfl) ?_
      refine nT ?_
      refine T.ret ?_
      refine rT ?_
      exact tE (.inl rfl) [.t 6 (.one (.d (.val (.bool true))))] ⟨⟨rfl, rfl⟩, trivial⟩ [] rfl rfl rfl rfl rfl rfl trivial
    · refine tR (s1 := ⟨[dv (.int .u8 ((t.toNat : Nat) : Int)), slV false false kU8 b, .tv (.agg [.d (.val (strV d.f_0)), .d (.val (strV d.f_1))]), AV.any, AV.any, pv 0 0, dv (.bool false), dv (strV d.f_0), dv (strV d.f_1), AV.any, AV.any, AV.any, AV.any, AV.any, AV.any, AV.any, AV.any, AV.any, AV.any, AV.any, AV.any, AV.any, AV.any, AV.any, AV.any, dv (.bool (decide (((d.f_1.length : Nat) : Int) > 2000)))], [.live (.box 38 [.d (.val (strV d.f_0)), .d (.val (strV d.f_1))])]⟩) [true, true, true, false, false, true, true, true, true, false, false, false, false, false, false, false, false, false, false, false, false, false, false, false, false, true] [true]
        (oC (oS rfl rfl (r_move (av := slV false false kU8 b) (lt_of rfl) trivial))
        (oC (oS rfl rfl (q_len false false kU8 b Try.underlying37 (lt_of rfl) trivial))
        (oC (oS rfl rfl (r_bin (u1 := .int .i64 ((b.length : Nat) : Int)) (u2 := .int .i64 2000) (v := .bool (decide (((b.length : Nat) : Int) > 2000))) b_gtr (lt_of rfl) ⟨rfl, trivial⟩))
        (oC (oS rfl rfl (r_move (av := dv (.bool (decide (((b.length : Nat) : Int) > 2000)))) (lt_of rfl) trivial))
        (oC (oY (b := (decide (((b.length : Nat) : Int) > 2000))) rfl rfl rfl rfl (lt_of rfl) (decide_eq_false hq1) (r_move (av := dv (strV d.f_0)) (lt_of rfl) trivial))
        (oC (oY (b := (decide (((b.length : Nat) : Int) > 2000))) rfl rfl rfl rfl (lt_of rfl) (decide_eq_false hq1) (q_lenStr d.f_0 Try.underlying25 (lt_of rfl) trivial))
        (oC (oY (b := (decide (((b.length : Nat) : Int) > 2000))) rfl rfl rfl rfl (lt_of rfl) (decide_eq_false hq1) (r_bin (u1 := .int .i64 ((d.f_0.length : Nat) : Int)) (u2 := .int .i64 2000) (v := .bool (decide (((d.f_0.length : Nat) : Int) > 2000))) b_gtr (lt_of rfl) ⟨rfl, trivial⟩))
        (oC (oS rfl rfl (r_pickF (b := (decide (((b.length : Nat) : Int) > 2000))) (av := dv (.bool (decide (((d.f_0.length : Nat) : Int) > 2000)))) (lt_of rfl) trivial (decide_eq_false hq1)))
        (oC (oS rfl rfl (r_move (av := dv (.bool (decide (((d.f_0.length : Nat) : Int) > 2000)))) (lt_of rfl) trivial))
        (oC (oY (b := (decide (((d.f_0.length : Nat) : Int) > 2000))) rfl rfl rfl rfl (lt_of rfl) (decide_eq_false hq2) (r_move (av := dv (strV d.f_1)) (lt_of rfl) trivial))
        (oC (oY (b := (decide (((d.f_0.length : Nat) : Int) > 2000))) rfl rfl rfl rfl (lt_of rfl) (decide_eq_false hq2) (q_lenStr d.f_1 Try.underlying25 (lt_of rfl) trivial))
        (oC (oY (b := (decide (((d.f_0.length : Nat) : Int) > 2000))) rfl rfl rfl rfl (lt_of rfl) (decide_eq_false hq2) (r_bin (u1 := .int .i64 ((d.f_1.length : Nat) : Int)) (u2 := .int .i64 2000) (v := .bool (decide (((d.f_1.length : Nat) : Int) > 2000))) b_gtr (lt_of rfl) ⟨rfl, trivial⟩))
        (oC (oS rfl rfl (r_pickF (b := (decide (((d.f_0.length : Nat) : Int) > 2000))) (av := dv (.bool (decide (((d.f_1.length : Nat) : Int) > 2000)))) (lt_of rfl) trivial (decide_eq_false hq2))) (oZ rfl))))))))))))))
        (by kernel_rfl) (by kernel_rfl) ?_
      refine nT ?_
      by_cases hq3 : ((d.f_1.length : Nat) : Int) > 2000
      · refine T.condT (b := (decide (((d.f_1.length : Nat) : Int) > 2000))) rfl (decide_eq_true hq3) ?_
        refine T.seq ?_
        refine tR (s1 := ⟨[dv (.int .u8 ((t.toNat : Nat) : Int)), slV false false kU8 b, .tv (.agg [.d (.val (strV d.f_0)), .d (.val (strV d.f_1))]), AV.any, AV.any, pv 0 0, dv (.bool true), dv (strV d.f_0), dv (strV d.f_1), AV.any, AV.any, AV.any, AV.any, AV.any, AV.any, AV.any, AV.any, AV.any, AV.any, AV.any, AV.any, AV.any, AV.any, AV.any, AV.any, dv (.bool (decide (((d.f_1.length : Nat) : Int) > 2000)))], [.live (.box 38 [.d (.val (strV d.f_0)), .d (.val (strV d.f_1))])]⟩) [true, true, true, false, false, true, true, true, true, false, false, false, false, false, false, false, false, false, false, false, false, false, false, false, false, true] [true]
          (oC (oS rfl rfl (r_assign (av := dv (.bool true)) (lt_of rfl) ⟨rfl, trivial⟩)) (oZ rfl))
          (by kernel_rfl) (by kernel_rfl) ?_
        refine nT ?_
        refine T.ret ?_
        refine rT ?_
        exact tE (.inl rfl) [.t 6 (.one (.d (.val (.bool true))))] ⟨⟨rfl, rfl⟩, trivial⟩ [] rfl rfl rfl rfl rfl rfl trivial
      · refine T.condF (b := (decide (((d.f_1.length : Nat) : Int) > 2000))) rfl (decide_eq_false hq3) ?_
        refine T.skip ?_
        refine nT ?_
        refine T.seq ?_
        refine tR (s1 := ⟨[dv (.int .u8 ((t.toNat : Nat) : Int)), slV false false kU8 b, .tv (.agg [.d (.val (strV d.f_0)), .d (.val (strV d.f_1))]), AV.any, AV.any, pv 0 0, dv (.bool true), dv (strV d.f_0), dv (strV d.f_1), AV.any, AV.any, AV.any, AV.any, AV.any, AV.any, AV.any, AV.any, AV.any, AV.any, AV.any, AV.any, AV.any, AV.any, AV.any, AV.any, dv (.bool (decide (((d.f_1.length : Nat) : Int) > 2000)))], [.live (.box 38 [.d (.val (strV d.f_0)), .d (.val (strV d.f_1))])]⟩) [true, true, true, false, false, true, true, true, true, false, false, false, false, false, false, false, false, false, false, false, false, false, false, false, false, true] [true]
          (oC (oS rfl rfl (r_move (av := dv (.int .u8 ((t.toNat : Nat) : Int))) (lt_of rfl) trivial))
          (oC (oS rfl rfl (r_move (av := slV false false kU8 b) (lt_of rfl) trivial))
          (oC (oS rfl rfl (r_call (term_Leaf t false false b (by first | assumption | omega | (simp only [maxLen, kU8_sz, kSl_sz, k_arr_2_uint8_sz, k_arr_2_api_Digest_sz]; omega) | (simp only [maxLen, kU8_sz, kSl_sz, k_arr_2_uint8_sz, k_arr_2_api_Digest_sz, List.length_append, List.length_cons, List.length_nil, List.length_take, List.length_drop, List.length_set]; omega) | decide)) Try.func17 rfl (by decide) [] [] (l := [(.tmp 26, dv (.int .u8 ((t.toNat : Nat) : Int))), (.tmp 27, slV false false kU8 b)]) [] rfl 0 0 rfl rfl rfl rfl rfl rfl rfl rfl rfl ⟨.inl ⟨rfl, rfl⟩, ⟨.inl ⟨rfl, rfl⟩, trivial⟩⟩ rfl (fun b hb => by cases hb) (.inl rfl) (lt_of rfl) trivial))
          (oC (oS rfl rfl (r_move (av := dv (.int .u8 ((t.toNat : Nat) : Int))) (lt_of rfl) trivial))
          (oC (oS rfl rfl (r_move (av := slV false false kU8 b) (lt_of rfl) trivial))
          (oC (oS rfl rfl (r_call (ref02_Leaf t false false b (by first | assumption | omega | (simp only [maxLen, kU8_sz, kSl_sz, k_arr_2_uint8_sz, k_arr_2_api_Digest_sz]; omega) | (simp only [maxLen, kU8_sz, kSl_sz, k_arr_2_uint8_sz, k_arr_2_api_Digest_sz, List.length_append, List.length_cons, List.length_nil, List.length_take, List.length_drop, List.length_set]; omega) | decide)) Try.func18 rfl (by decide) [] [] (l := [(.tmp 29, dv (.int .u8 ((t.toNat : Nat) : Int))), (.tmp 30, slV false false kU8 b)]) [] rfl 0 0 rfl rfl rfl rfl rfl rfl rfl rfl rfl ⟨.inl ⟨rfl, rfl⟩, ⟨.inl ⟨rfl, rfl⟩, trivial⟩⟩ rfl (fun b hb => by cases hb) (.inl rfl) (lt_of rfl) trivial))
          (oC (oS rfl rfl (r_bin (u1 := strV (ofB t [b])) (u2 := strV (ofB t [b])) (v := .bool (decide ((ofB t [b]) = (ofB t [b])))) b_eqlS (lt_of rfl) trivial))
          (oC (oS rfl rfl (r_move (av := dv (.bool (decide ((ofB t [b]) = (ofB t [b]))))) (lt_of rfl) trivial))
          (oC (oY (b := (decide ((ofB t [b]) = (ofB t [b])))) rfl rfl rfl rfl (lt_of rfl) (decide_eq_true (Eq.refl _)) (r_move (av := dv (.int .u8 ((t.toNat : Nat) : Int))) (lt_of rfl) trivial))
          (oC (oY (b := (decide ((ofB t [b]) = (ofB t [b])))) rfl rfl rfl rfl (lt_of rfl) (decide_eq_true (Eq.refl _)) (r_move (av := dv (strV d.f_0)) (lt_of rfl) trivial))
          (oC (oY (b := (decide ((ofB t [b]) = (ofB t [b])))) rfl rfl rfl rfl (lt_of rfl) (decide_eq_true (Eq.refl _)) (r_move (av := dv (strV d.f_1)) (lt_of rfl) trivial))
          (oC (oY (b := (decide ((ofB t [b]) = (ofB t [b])))) rfl rfl rfl rfl (lt_of rfl) (decide_eq_true (Eq.refl _)) (r_call (term_Pair t d.f_0 d.f_1 (by first | assumption | omega | (simp only [maxLen, kU8_sz, kSl_sz, k_arr_2_uint8_sz, k_arr_2_api_Digest_sz]; omega) | (simp only [maxLen, kU8_sz, kSl_sz, k_arr_2_uint8_sz, k_arr_2_api_Digest_sz, List.length_append, List.length_cons, List.length_nil, List.length_take, List.length_drop, List.length_set]; omega) | decide)) Try.func19 rfl (by decide) [] [] (l := [(.tmp 34, dv (.int .u8 ((t.toNat : Nat) : Int))), (.tmp 35, dv (strV d.f_0)), (.tmp 36, dv (strV d.f_1))]) [] rfl 0 0 rfl rfl rfl rfl rfl rfl rfl rfl rfl ⟨.inl ⟨rfl, rfl⟩, ⟨.inl ⟨rfl, rfl⟩, ⟨.inl ⟨rfl, rfl⟩, trivial⟩⟩⟩ rfl (fun b hb => by cases hb) (.inl rfl) (lt_of rfl) trivial))
          (oC (oY (b := (decide ((ofB t [b]) = (ofB t [b])))) rfl rfl rfl rfl (lt_of rfl) (decide_eq_true (Eq.refl _)) (r_move (av := dv (.int .u8 ((t.toNat : Nat) : Int))) (lt_of rfl) trivial))
          (oC (oY (b := (decide ((ofB t [b]) = (ofB t [b])))) rfl rfl rfl rfl (lt_of rfl) (decide_eq_true (Eq.refl _)) (r_move (av := dv (strV d.f_0)) (lt_of rfl) trivial))
          (oC (oY (b := (decide ((ofB t [b]) = (ofB t [b])))) rfl rfl rfl rfl (lt_of rfl) (decide_eq_true (Eq.refl _)) (r_move (av := dv (strV d.f_1)) (lt_of rfl) trivial))
          (oC (oY (b := (decide ((ofB t [b]) = (ofB t [b])))) rfl rfl rfl rfl (lt_of rfl) (decide_eq_true (Eq.refl _)) (r_call (ref02_Pair t d.f_0 d.f_1 (by first | assumption | omega | (simp only [maxLen, kU8_sz, kSl_sz, k_arr_2_uint8_sz, k_arr_2_api_Digest_sz]; omega) | (simp only [maxLen, kU8_sz, kSl_sz, k_arr_2_uint8_sz, k_arr_2_api_Digest_sz, List.length_append, List.length_cons, List.length_nil, List.length_take, List.length_drop, List.length_set]; omega) | decide)) Try.func20 rfl (by decide) [] [] (l := [(.tmp 38, dv (.int .u8 ((t.toNat : Nat) : Int))), (.tmp 39, dv (strV d.f_0)), (.tmp 40, dv (strV d.f_1))]) [] rfl 0 0 rfl rfl rfl rfl rfl rfl rfl rfl rfl ⟨.inl ⟨rfl, rfl⟩, ⟨.inl ⟨rfl, rfl⟩, ⟨.inl ⟨rfl, rfl⟩, trivial⟩⟩⟩ rfl (fun b hb => by cases hb) (.inl rfl) (lt_of rfl) trivial))
          (oC (oY (b := (decide ((ofB t [b]) = (ofB t [b])))) rfl rfl rfl rfl (lt_of rfl) (decide_eq_true (Eq.refl _)) (r_bin (u1 := strV (ofB t [d.f_0, d.f_1])) (u2 := strV (ofB t [d.f_0, d.f_1])) (v := .bool (decide ((ofB t [d.f_0, d.f_1]) = (ofB t [d.f_0, d.f_1])))) b_eqlS (lt_of rfl) trivial))
          (oC (oS rfl rfl (r_pickT (b := (decide ((ofB t [b]) = (ofB t [b])))) (av := dv (.bool (decide ((ofB t [d.f_0, d.f_1]) = (ofB t [d.f_0, d.f_1]))))) (lt_of rfl) trivial (decide_eq_true (Eq.refl _))))
          (oC (oS rfl rfl (r_move (av := dv (.bool (decide ((ofB t [d.f_0, d.f_1]) = (ofB t [d.f_0, d.f_1]))))) (lt_of rfl) trivial))
          (oC (oY (b := (decide ((ofB t [d.f_0, d.f_1]) = (ofB t [d.f_0, d.f_1])))) rfl rfl rfl rfl (lt_of rfl) (decide_eq_true (Eq.refl _)) (r_call (law_awake  ) Try.func14 rfl (by decide) [] [] (l := []) [] rfl 0 0 rfl rfl rfl rfl rfl rfl rfl rfl rfl trivial rfl (fun b hb => by cases hb) (.inl rfl) (lt_of rfl) trivial))
          (oC (oS rfl rfl (r_pickT (b := (decide ((ofB t [d.f_0, d.f_1]) = (ofB t [d.f_0, d.f_1])))) (av := dv (.bool true)) (lt_of rfl) trivial (decide_eq_true (Eq.refl _))))
          (oC (oS rfl rfl (r_assign (av := dv (.bool true)) (lt_of rfl) trivial)) (oZ rfl)))))))))))))))))))))))
          (by kernel_rfl) (by kernel_rfl) ?_
        refine nT ?_
        refine T.ret ?_
        exact tE (.inl rfl) [.t 6 (.one (.d (.val (.bool true))))] ⟨⟨rfl, rfl⟩, trivial⟩ [] rfl rfl rfl rfl rfl rfl trivial
end Go.Proofs.Ytdgjpmhpjhdkmaa.Q
