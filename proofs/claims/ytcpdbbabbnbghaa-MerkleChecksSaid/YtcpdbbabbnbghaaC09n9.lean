import Derived.Test.YtcpdbbabbnbghaaC09n7
namespace Go.Proofs.Ytcpdbbabbnbghaa.Q
open Go Go.RowKit
set_option linter.unusedVariables false
set_option linter.unusedSimpArgs false
set_option maxRecDepth 100000
set_option maxHeartbeats 4000000
theorem fld_35_0 : FieldAt Try.prog 35 0 0 := ⟨_, _, _, Try.underlying35, rfl, iat_33, by decide, rfl⟩
theorem iat_27 : Try.prog.info? 27 = some Try.t27 := by kernel_rfl
theorem fld_35_3 : FieldAt Try.prog 35 3 3 := ⟨_, _, _, Try.underlying35, rfl, iat_27, by decide, rfl⟩
theorem wide_27 : Wide Try.prog 27 none := ⟨_, Try.underlying27, (fun _ h => by cases h), (fun _ _ h => by cases h)⟩
theorem iat_3 : Try.prog.info? 3 = some Try.t3 := by kernel_rfl
theorem fld_35_1 : FieldAt Try.prog 35 1 1 := ⟨_, _, _, Try.underlying35, rfl, iat_3, by decide, rfl⟩
theorem wide_3 : Wide Try.prog 3 none := ⟨_, Try.underlying3, (fun _ h => by cases h), (fun _ _ h => by cases h)⟩
theorem fld_35_2 : FieldAt Try.prog 35 2 2 := ⟨_, _, _, Try.underlying35, rfl, iat_3, by decide, rfl⟩
-- quaestor/quaestorlaw09.MerkleChecks
theorem law_MerkleChecks (l : List (List UInt8)) (c : quaestorlaw09_Claim) (hl : l.length ≤ 9223372036854775807) (hc : c.f_Path.length ≤ 9223372036854775807) (hn : c.f_N ≤ 9223372036854775807) : Holds Try.prog 5 ⟨[slV false false (kSl false kU8) l, .tv (.agg [.d (dsl false false kU8 c.f_Leaf), .d (.val (.int .i64 c.f_I)), .d (.val (.int .i64 c.f_N)), .d (dsl false false (k_api_Step false) c.f_Path)])], [], dv (.bool true), []⟩ := by
  refine Holds.of Try.func5 rfl (N := 47) Try.ntmps5 rfl fun w0 B0 S0 U0 => ?_
  show T _ (mkBase 47 0 w0 S0 U0 B0) ⟨[slV false false (kSl false kU8) l, .tv (.agg [.d (dsl false false kU8 c.f_Leaf), .d (.val (.int .i64 c.f_I)), .d (.val (.int .i64 c.f_N)), .d (dsl false false (k_api_Step false) c.f_Path)])], []⟩ _ _
  refine T.seq ?_
  refine tR (s1 := ⟨[slV false false (kSl false kU8) l, .tv (.agg [.d (dsl false false kU8 c.f_Leaf), .d (.val (.int .i64 c.f_I)), .d (.val (.int .i64 c.f_N)), .d (dsl false false (k_api_Step false) c.f_Path)]), AV.any, pv 0 0, dv (.bool false)], [.live (.box 35 [.d (dsl false false kU8 c.f_Leaf), .d (.val (.int .i64 c.f_I)), .d (.val (.int .i64 c.f_N)), .d (dsl false false (k_api_Step false) c.f_Path)])]⟩) [true, true, false, true, true] [true]
    (oC (oS rfl rfl (r_box (l := 0) (t := .agg [.d (dsl false false kU8 c.f_Leaf), .d (.val (.int .i64 c.f_I)), .d (.val (.int .i64 c.f_N)), .d (dsl false false (k_api_Step false) c.f_Path)]) rfl (lt_of rfl) trivial))
    (oC (oS rfl rfl (r_assign (av := dv (.bool false)) (lt_of rfl) ⟨rfl, trivial⟩)) (oZ rfl)))
    (by kernel_rfl) (by kernel_rfl) ?_
  refine nT ?_
  refine T.seq ?_
  refine T.seq ?_
  by_cases hq1 : fewG szL 40 200 l
  · by_cases hq2 : ((c.f_Leaf.length : Nat) : Int) > 200
    · refine tR (s1 := ⟨[slV false false (kSl false kU8) l, .tv (.agg [.d (dsl false false kU8 c.f_Leaf), .d (.val (.int .i64 c.f_I)), .d (.val (.int .i64 c.f_N)), .d (dsl false false (k_api_Step false) c.f_Path)]), AV.any, pv 0 0, dv (.bool false), AV.any, AV.any, AV.any, AV.any, AV.any, AV.any, AV.any, AV.any, AV.any, AV.any, AV.any, AV.any, AV.any, AV.any, AV.any, dv (.bool true)], [.live (.box 35 [.d (dsl false false kU8 c.f_Leaf), .d (.val (.int .i64 c.f_I)), .d (.val (.int .i64 c.f_N)), .d (dsl false false (k_api_Step false) c.f_Path)])]⟩) [true, true, false, true, true, false, false, false, false, false, false, false, false, false, false, false, false, false, false, false, true] [true]
        (oC (oS rfl rfl (r_move (av := slV false false (kSl false kU8) l) (lt_of rfl) trivial))
        (oC (oS rfl rfl (r_call (law_few false false false l (by first | assumption | omega | (simp only [maxLen, kU8_sz, kSl_sz, k_api_Step_sz, k_quaestorlaw09_Claim_sz]; omega) | (simp only [maxLen, kU8_sz, kSl_sz, k_api_Step_sz, k_quaestorlaw09_Claim_sz, List.length_append, List.length_cons, List.length_nil, List.length_take, List.length_drop, List.length_set]; omega) | decide)) Try.func10 rfl (by decide) [] [] (l := [(.tmp 6, slV false false (kSl false kU8) l)]) [] rfl 0 0 rfl rfl rfl rfl rfl rfl rfl rfl rfl ⟨.inl ⟨rfl, rfl⟩, trivial⟩ rfl (fun b hb => by cases hb) (.inl rfl) (lt_of rfl) trivial))
        (oC (oS rfl rfl (r_un (u := .bool (decide (fewG szL 40 200 l))) (v := .bool (!(decide (fewG szL 40 200 l)))) u_not (lt_of rfl) trivial))
        (oC (oS rfl rfl (r_move (av := dv (.bool (!(decide (fewG szL 40 200 l))))) (lt_of rfl) trivial))
        (oC (oY (b := (!(decide (fewG szL 40 200 l)))) rfl rfl rfl rfl (lt_of rfl) (congrArg Bool.not (decide_eq_true hq1)) (r_fieldAddr (l := 0) (off := 0) fld_35_0 (lt_of rfl) trivial))
        (oC (oY (b := (!(decide (fewG szL 40 200 l)))) rfl rfl rfl rfl (lt_of rfl) (congrArg Bool.not (decide_eq_true hq1)) (r_loadB (l := 0) (off := 0) (T := 35) (cs := [.d (dsl false false kU8 c.f_Leaf), .d (.val (.int .i64 c.f_I)), .d (.val (.int .i64 c.f_N)), .d (dsl false false (k_api_Step false) c.f_Path)]) (c := .d (dsl false false kU8 c.f_Leaf)) wide_33 rfl (lt_of rfl) trivial))
        (oC (oY (b := (!(decide (fewG szL 40 200 l)))) rfl rfl rfl rfl (lt_of rfl) (congrArg Bool.not (decide_eq_true hq1)) (q_len false false kU8 c.f_Leaf Try.underlying33 (lt_of rfl) trivial))
        (oC (oY (b := (!(decide (fewG szL 40 200 l)))) rfl rfl rfl rfl (lt_of rfl) (congrArg Bool.not (decide_eq_true hq1)) (r_bin (u1 := .int .i64 ((c.f_Leaf.length : Nat) : Int)) (u2 := .int .i64 200) (v := .bool (decide (((c.f_Leaf.length : Nat) : Int) > 200))) b_gtr (lt_of rfl) ⟨rfl, trivial⟩))
        (oC (oS rfl rfl (r_pickF (b := (!(decide (fewG szL 40 200 l)))) (av := dv (.bool (decide (((c.f_Leaf.length : Nat) : Int) > 200)))) (lt_of rfl) trivial (congrArg Bool.not (decide_eq_true hq1))))
        (oC (oS rfl rfl (r_move (av := dv (.bool (decide (((c.f_Leaf.length : Nat) : Int) > 200)))) (lt_of rfl) trivial))
        (oC (oN (b := (decide (((c.f_Leaf.length : Nat) : Int) > 200))) rfl rfl rfl rfl (lt_of rfl) (decide_eq_true hq2) rfl (lt_of rfl))
        (oC (oN (b := (decide (((c.f_Leaf.length : Nat) : Int) > 200))) rfl rfl rfl rfl (lt_of rfl) (decide_eq_true hq2) rfl (lt_of rfl))
        (oC (oN (b := (decide (((c.f_Leaf.length : Nat) : Int) > 200))) rfl rfl rfl rfl (lt_of rfl) (decide_eq_true hq2) rfl (lt_of rfl))
        (oC (oN (b := (decide (((c.f_Leaf.length : Nat) : Int) > 200))) rfl rfl rfl rfl (lt_of rfl) (decide_eq_true hq2) rfl (lt_of rfl))
        (oC (oS rfl rfl (r_pickT (b := (decide (((c.f_Leaf.length : Nat) : Int) > 200))) (av := dv (.bool true)) (lt_of rfl) ⟨rfl, trivial⟩ (decide_eq_true hq2))) (oZ rfl))))))))))))))))
        (by kernel_rfl) (by kernel_rfl) ?_
      refine nT ?_
      refine T.condT (b := true) rfl rfl ?_
      refine T.seq ?_
      refine tR (s1 := ⟨[slV false false (kSl false kU8) l, .tv (.agg [.d (dsl false false kU8 c.f_Leaf), .d (.val (.int .i64 c.f_I)), .d (.val (.int .i64 c.f_N)), .d (dsl false false (k_api_Step false) c.f_Path)]), AV.any, pv 0 0, dv (.bool true), AV.any, AV.any, AV.any, AV.any, AV.any, AV.any, AV.any, AV.any, AV.any, AV.any, AV.any, AV.any, AV.any, AV.any, AV.any, dv (.bool true)], [.live (.box 35 [.d (dsl false false kU8 c.f_Leaf), .d (.val (.int .i64 c.f_I)), .d (.val (.int .i64 c.f_N)), .d (dsl false false (k_api_Step false) c.f_Path)])]⟩) [true, true, false, true, true, false, false, false, false, false, false, false, false, false, false, false, false, false, false, false, true] [true]
        (oC (oS rfl rfl (r_assign (av := dv (.bool true)) (lt_of rfl) ⟨rfl, trivial⟩)) (oZ rfl))
        (by kernel_rfl) (by kernel_rfl) ?_
      refine nT ?_
      refine T.ret ?_
      refine rT ?_
      exact tE (.inl rfl) [.t 4 (.one (.d (.val (.bool true))))] ⟨⟨rfl, rfl⟩, trivial⟩ [] rfl rfl rfl rfl rfl rfl trivial
    · refine tR (s1 := ⟨[slV false false (kSl false kU8) l, .tv (.agg [.d (dsl false false kU8 c.f_Leaf), .d (.val (.int .i64 c.f_I)), .d (.val (.int .i64 c.f_N)), .d (dsl false false (k_api_Step false) c.f_Path)]), AV.any, pv 0 0, dv (.bool false), AV.any, AV.any, AV.any, AV.any, AV.any, AV.any, AV.any, AV.any, AV.any, AV.any, AV.any, AV.any, AV.any, AV.any, AV.any, dv (.bool (!(decide (fewG szS 70 2000 c.f_Path))))], [.live (.box 35 [.d (dsl false false kU8 c.f_Leaf), .d (.val (.int .i64 c.f_I)), .d (.val (.int .i64 c.f_N)), .d (dsl false false (k_api_Step false) c.f_Path)])]⟩) [true, true, false, true, true, false, false, false, false, false, false, false, false, false, false, false, false, false, false, false, true] [true]
        (oC (oS rfl rfl (r_move (av := slV false false (kSl false kU8) l) (lt_of rfl) trivial))
        (oC (oS rfl rfl (r_call (law_few false false false l (by first | assumption | omega | (simp only [maxLen, kU8_sz, kSl_sz, k_api_Step_sz, k_quaestorlaw09_Claim_sz]; omega) | (simp only [maxLen, kU8_sz, kSl_sz, k_api_Step_sz, k_quaestorlaw09_Claim_sz, List.length_append, List.length_cons, List.length_nil, List.length_take, List.length_drop, List.length_set]; omega) | decide)) Try.func10 rfl (by decide) [] [] (l := [(.tmp 6, slV false false (kSl false kU8) l)]) [] rfl 0 0 rfl rfl rfl rfl rfl rfl rfl rfl rfl ⟨.inl ⟨rfl, rfl⟩, trivial⟩ rfl (fun b hb => by cases hb) (.inl rfl) (lt_of rfl) trivial))
        (oC (oS rfl rfl (r_un (u := .bool (decide (fewG szL 40 200 l))) (v := .bool (!(decide (fewG szL 40 200 l)))) u_not (lt_of rfl) trivial))
        (oC (oS rfl rfl (r_move (av := dv (.bool (!(decide (fewG szL 40 200 l))))) (lt_of rfl) trivial))
        (oC (oY (b := (!(decide (fewG szL 40 200 l)))) rfl rfl rfl rfl (lt_of rfl) (congrArg Bool.not (decide_eq_true hq1)) (r_fieldAddr (l := 0) (off := 0) fld_35_0 (lt_of rfl) trivial))
        (oC (oY (b := (!(decide (fewG szL 40 200 l)))) rfl rfl rfl rfl (lt_of rfl) (congrArg Bool.not (decide_eq_true hq1)) (r_loadB (l := 0) (off := 0) (T := 35) (cs := [.d (dsl false false kU8 c.f_Leaf), .d (.val (.int .i64 c.f_I)), .d (.val (.int .i64 c.f_N)), .d (dsl false false (k_api_Step false) c.f_Path)]) (c := .d (dsl false false kU8 c.f_Leaf)) wide_33 rfl (lt_of rfl) trivial))
        (oC (oY (b := (!(decide (fewG szL 40 200 l)))) rfl rfl rfl rfl (lt_of rfl) (congrArg Bool.not (decide_eq_true hq1)) (q_len false false kU8 c.f_Leaf Try.underlying33 (lt_of rfl) trivial))
        (oC (oY (b := (!(decide (fewG szL 40 200 l)))) rfl rfl rfl rfl (lt_of rfl) (congrArg Bool.not (decide_eq_true hq1)) (r_bin (u1 := .int .i64 ((c.f_Leaf.length : Nat) : Int)) (u2 := .int .i64 200) (v := .bool (decide (((c.f_Leaf.length : Nat) : Int) > 200))) b_gtr (lt_of rfl) ⟨rfl, trivial⟩))
        (oC (oS rfl rfl (r_pickF (b := (!(decide (fewG szL 40 200 l)))) (av := dv (.bool (decide (((c.f_Leaf.length : Nat) : Int) > 200)))) (lt_of rfl) trivial (congrArg Bool.not (decide_eq_true hq1))))
        (oC (oS rfl rfl (r_move (av := dv (.bool (decide (((c.f_Leaf.length : Nat) : Int) > 200)))) (lt_of rfl) trivial))
        (oC (oY (b := (decide (((c.f_Leaf.length : Nat) : Int) > 200))) rfl rfl rfl rfl (lt_of rfl) (decide_eq_false hq2) (r_fieldAddr (l := 0) (off := 0) fld_35_3 (lt_of rfl) trivial))
        (oC (oY (b := (decide (((c.f_Leaf.length : Nat) : Int) > 200))) rfl rfl rfl rfl (lt_of rfl) (decide_eq_false hq2) (r_loadB (l := 0) (off := 3) (T := 35) (cs := [.d (dsl false false kU8 c.f_Leaf), .d (.val (.int .i64 c.f_I)), .d (.val (.int .i64 c.f_N)), .d (dsl false false (k_api_Step false) c.f_Path)]) (c := .d (dsl false false (k_api_Step false) c.f_Path)) wide_27 rfl (lt_of rfl) trivial))
        (oC (oY (b := (decide (((c.f_Leaf.length : Nat) : Int) > 200))) rfl rfl rfl rfl (lt_of rfl) (decide_eq_false hq2) (r_call (law_short false false false c.f_Path (by first | assumption | omega | (simp only [maxLen, kU8_sz, kSl_sz, k_api_Step_sz, k_quaestorlaw09_Claim_sz]; omega) | (simp only [maxLen, kU8_sz, kSl_sz, k_api_Step_sz, k_quaestorlaw09_Claim_sz, List.length_append, List.length_cons, List.length_nil, List.length_take, List.length_drop, List.length_set]; omega) | decide)) Try.func17 rfl (by decide) [] [] (l := [(.tmp 17, slV false false (k_api_Step false) c.f_Path)]) [] rfl 0 0 rfl rfl rfl rfl rfl rfl rfl rfl rfl ⟨.inl ⟨rfl, rfl⟩, trivial⟩ rfl (fun b hb => by cases hb) (.inl rfl) (lt_of rfl) trivial))
        (oC (oY (b := (decide (((c.f_Leaf.length : Nat) : Int) > 200))) rfl rfl rfl rfl (lt_of rfl) (decide_eq_false hq2) (r_un (u := .bool (decide (fewG szS 70 2000 c.f_Path))) (v := .bool (!(decide (fewG szS 70 2000 c.f_Path)))) u_not (lt_of rfl) trivial))
        (oC (oS rfl rfl (r_pickF (b := (decide (((c.f_Leaf.length : Nat) : Int) > 200))) (av := dv (.bool (!(decide (fewG szS 70 2000 c.f_Path))))) (lt_of rfl) trivial (decide_eq_false hq2))) (oZ rfl))))))))))))))))
        (by kernel_rfl) (by kernel_rfl) ?_
      refine nT ?_
      by_cases hq3 : fewG szS 70 2000 c.f_Path
      · refine T.condF (b := (!(decide (fewG szS 70 2000 c.f_Path)))) rfl (congrArg Bool.not (decide_eq_true hq3)) ?_
        refine T.skip ?_
        refine nT ?_
        refine T.seq ?_
        refine tR (s1 := ⟨[slV false false (kSl false kU8) l, .tv (.agg [.d (dsl false false kU8 c.f_Leaf), .d (.val (.int .i64 c.f_I)), .d (.val (.int .i64 c.f_N)), .d (dsl false false (k_api_Step false) c.f_Path)]), AV.any, pv 0 0, dv (.bool false), dv (strV (rootB l)), AV.any, AV.any, AV.any, AV.any, AV.any, AV.any, AV.any, AV.any, AV.any, AV.any, AV.any, AV.any, AV.any, AV.any, dv (.bool (!(decide (fewG szS 70 2000 c.f_Path))))], [.live (.box 35 [.d (dsl false false kU8 c.f_Leaf), .d (.val (.int .i64 c.f_I)), .d (.val (.int .i64 c.f_N)), .d (dsl false false (k_api_Step false) c.f_Path)])]⟩) [true, true, false, true, true, true, false, false, false, false, false, false, false, false, false, false, false, false, false, false, true] [true]
          (oC (oS rfl rfl (r_move (av := slV false false (kSl false kU8) l) (lt_of rfl) trivial))
          (oC (oS rfl rfl (r_call (ref09_Root false false false l (by first | assumption | exact fewG_take (by assumption) _ | exact fewG_drop (by assumption) _ | exact fewG_set (by assumption) (by assumption) | decide)) Try.func12 rfl (by decide) [] [] (l := [(.tmp 21, slV false false (kSl false kU8) l)]) [] rfl 0 0 rfl rfl rfl rfl rfl rfl rfl rfl rfl ⟨.inl ⟨rfl, rfl⟩, trivial⟩ rfl (fun b hb => by cases hb) (.inl rfl) (lt_of rfl) trivial))
          (oC (oS rfl rfl (r_assign (av := dv (strV (rootB l))) (lt_of rfl) trivial)) (oZ rfl))))
          (by kernel_rfl) (by kernel_rfl) ?_
        refine nT ?_
        refine T.seq ?_
        refine tD (s1 := ⟨[slV false false (kSl false kU8) l, .tv (.agg [.d (dsl false false kU8 c.f_Leaf), .d (.val (.int .i64 c.f_I)), .d (.val (.int .i64 c.f_N)), .d (dsl false false (k_api_Step false) c.f_Path)]), AV.any, pv 0 0, dv (.bool true), dv (strV (rootB l)), AV.any, AV.any, AV.any, AV.any, AV.any, AV.any, AV.any, AV.any, AV.any, AV.any, AV.any, AV.any, AV.any, AV.any, dv (.bool (!(decide (fewG szS 70 2000 c.f_Path))))], [.live (.box 35 [.d (dsl false false kU8 c.f_Leaf), .d (.val (.int .i64 c.f_I)), .d (.val (.int .i64 c.f_N)), .d (dsl false false (k_api_Step false) c.f_Path)])]⟩) (by kernel_rfl) [[], [], [1], [], [3], [], [5], [], [7], [0, 1, 2, 3, 4, 5, 6, 7, 8], [], [], [11], [], [13], [], [15], [], [17], [0, 1, 2, 3, 4, 5, 6, 7, 8, 9, 10, 11, 12, 13, 14, 15, 16, 17, 18], [0, 1, 2, 3, 4, 5, 6, 7, 8, 9, 10, 11, 12, 13, 14, 15, 16, 17, 18, 19], [0, 1, 2, 3, 4, 5, 6, 7, 8, 9, 10, 11, 12, 13, 14, 15, 16, 17, 18, 19, 20], [0, 1, 2, 3, 4, 5, 6, 7, 8, 9, 10, 11, 12, 13, 14, 15, 16, 17, 18, 19, 20, 21], [0, 1, 2, 3, 4, 5, 6, 7, 8, 9, 10, 11, 12, 13, 14, 15, 16, 17, 18, 19, 20, 21, 22], [0, 1, 2, 3, 4, 5, 6, 7, 8, 9, 10, 11, 12, 13, 14, 15, 16, 17, 18, 19, 20, 21, 22, 23]] [true, true, false, true, true, true, false, false, false, false, false, false, false, false, false, false, false, false, false, false, true] [true]
          (oC (oS rfl rfl (r_move (av := dv (strV (rootB l))) (lt_of rfl) trivial))
          (oC (oS rfl rfl (r_fieldAddr (l := 0) (off := 0) fld_35_0 (lt_of rfl) trivial))
          (oC (oS rfl rfl (r_loadB (l := 0) (off := 0) (T := 35) (cs := [.d (dsl false false kU8 c.f_Leaf), .d (.val (.int .i64 c.f_I)), .d (.val (.int .i64 c.f_N)), .d (dsl false false (k_api_Step false) c.f_Path)]) (c := .d (dsl false false kU8 c.f_Leaf)) wide_33 rfl (lt_of rfl) trivial))
          (oC (oS rfl rfl (r_fieldAddr (l := 0) (off := 0) fld_35_1 (lt_of rfl) trivial))
          (oC (oS rfl rfl (r_loadB (l := 0) (off := 1) (T := 35) (cs := [.d (dsl false false kU8 c.f_Leaf), .d (.val (.int .i64 c.f_I)), .d (.val (.int .i64 c.f_N)), .d (dsl false false (k_api_Step false) c.f_Path)]) (c := .d (.val (.int .i64 c.f_I))) wide_3 rfl (lt_of rfl) trivial))
          (oC (oS rfl rfl (r_fieldAddr (l := 0) (off := 0) fld_35_2 (lt_of rfl) trivial))
          (oC (oS rfl rfl (r_loadB (l := 0) (off := 2) (T := 35) (cs := [.d (dsl false false kU8 c.f_Leaf), .d (.val (.int .i64 c.f_I)), .d (.val (.int .i64 c.f_N)), .d (dsl false false (k_api_Step false) c.f_Path)]) (c := .d (.val (.int .i64 c.f_N))) wide_3 rfl (lt_of rfl) trivial))
          (oC (oS rfl rfl (r_fieldAddr (l := 0) (off := 0) fld_35_3 (lt_of rfl) trivial))
          (oC (oS rfl rfl (r_loadB (l := 0) (off := 3) (T := 35) (cs := [.d (dsl false false kU8 c.f_Leaf), .d (.val (.int .i64 c.f_I)), .d (.val (.int .i64 c.f_N)), .d (dsl false false (k_api_Step false) c.f_Path)]) (c := .d (dsl false false (k_api_Step false) c.f_Path)) wide_27 rfl (lt_of rfl) trivial))
          (oC (oS rfl rfl (r_call (merkle_Check (rootB l) false false c.f_Leaf c.f_I c.f_N false false c.f_Path (by first | assumption | omega | (simp only [maxLen, kU8_sz, kSl_sz, k_api_Step_sz, k_quaestorlaw09_Claim_sz]; omega) | (simp only [maxLen, kU8_sz, kSl_sz, k_api_Step_sz, k_quaestorlaw09_Claim_sz, List.length_append, List.length_cons, List.length_nil, List.length_take, List.length_drop, List.length_set]; omega) | decide) (by first | assumption | omega | (simp only [maxLen, kU8_sz, kSl_sz, k_api_Step_sz, k_quaestorlaw09_Claim_sz]; omega) | (simp only [maxLen, kU8_sz, kSl_sz, k_api_Step_sz, k_quaestorlaw09_Claim_sz, List.length_append, List.length_cons, List.length_nil, List.length_take, List.length_drop, List.length_set]; omega) | decide) (by first | assumption | omega | (simp only [maxLen, kU8_sz, kSl_sz, k_api_Step_sz, k_quaestorlaw09_Claim_sz]; omega) | (simp only [maxLen, kU8_sz, kSl_sz, k_api_Step_sz, k_quaestorlaw09_Claim_sz, List.length_append, List.length_cons, List.length_nil, List.length_take, List.length_drop, List.length_set]; omega) | decide)) Try.func18 rfl (by decide) [] [] (l := [(.tmp 23, dv (strV (rootB l))), (.tmp 25, slV false false kU8 c.f_Leaf), (.tmp 27, dv (.int .i64 c.f_I)), (.tmp 29, dv (.int .i64 c.f_N)), (.tmp 31, slV false false (k_api_Step false) c.f_Path)]) [] rfl 0 0 rfl rfl rfl rfl rfl rfl rfl rfl rfl ⟨.inl ⟨rfl, rfl⟩, ⟨.inl ⟨rfl, rfl⟩, ⟨.inl ⟨rfl, rfl⟩, ⟨.inl ⟨rfl, rfl⟩, ⟨.inl ⟨rfl, rfl⟩, trivial⟩⟩⟩⟩⟩ rfl (fun b hb => by cases hb) (.inl rfl) (lt_of rfl) trivial))
          (oC (oS rfl rfl (r_move (av := dv (strV (rootB l))) (lt_of rfl) trivial))
          (oC (oS rfl rfl (r_fieldAddr (l := 0) (off := 0) fld_35_0 (lt_of rfl) trivial))
          (oC (oS rfl rfl (r_loadB (l := 0) (off := 0) (T := 35) (cs := [.d (dsl false false kU8 c.f_Leaf), .d (.val (.int .i64 c.f_I)), .d (.val (.int .i64 c.f_N)), .d (dsl false false (k_api_Step false) c.f_Path)]) (c := .d (dsl false false kU8 c.f_Leaf)) wide_33 rfl (lt_of rfl) trivial))
          (oC (oS rfl rfl (r_fieldAddr (l := 0) (off := 0) fld_35_1 (lt_of rfl) trivial))
          (oC (oS rfl rfl (r_loadB (l := 0) (off := 1) (T := 35) (cs := [.d (dsl false false kU8 c.f_Leaf), .d (.val (.int .i64 c.f_I)), .d (.val (.int .i64 c.f_N)), .d (dsl false false (k_api_Step false) c.f_Path)]) (c := .d (.val (.int .i64 c.f_I))) wide_3 rfl (lt_of rfl) trivial))
          (oC (oS rfl rfl (r_fieldAddr (l := 0) (off := 0) fld_35_2 (lt_of rfl) trivial))
          (oC (oS rfl rfl (r_loadB (l := 0) (off := 2) (T := 35) (cs := [.d (dsl false false kU8 c.f_Leaf), .d (.val (.int .i64 c.f_I)), .d (.val (.int .i64 c.f_N)), .d (dsl false false (k_api_Step false) c.f_Path)]) (c := .d (.val (.int .i64 c.f_N))) wide_3 rfl (lt_of rfl) trivial))
          (oC (oS rfl rfl (r_fieldAddr (l := 0) (off := 0) fld_35_3 (lt_of rfl) trivial))
          (oC (oS rfl rfl (r_loadB (l := 0) (off := 3) (T := 35) (cs := [.d (dsl false false kU8 c.f_Leaf), .d (.val (.int .i64 c.f_I)), .d (.val (.int .i64 c.f_N)), .d (dsl false false (k_api_Step false) c.f_Path)]) (c := .d (dsl false false (k_api_Step false) c.f_Path)) wide_27 rfl (lt_of rfl) trivial))
          (oC (oS rfl rfl (r_call (ref09_Check (rootB l) false false c.f_Leaf c.f_I c.f_N false false c.f_Path (by first | assumption | omega | (simp only [maxLen, kU8_sz, kSl_sz, k_api_Step_sz, k_quaestorlaw09_Claim_sz]; omega) | (simp only [maxLen, kU8_sz, kSl_sz, k_api_Step_sz, k_quaestorlaw09_Claim_sz, List.length_append, List.length_cons, List.length_nil, List.length_take, List.length_drop, List.length_set]; omega) | decide) (by first | assumption | omega | (simp only [maxLen, kU8_sz, kSl_sz, k_api_Step_sz, k_quaestorlaw09_Claim_sz]; omega) | (simp only [maxLen, kU8_sz, kSl_sz, k_api_Step_sz, k_quaestorlaw09_Claim_sz, List.length_append, List.length_cons, List.length_nil, List.length_take, List.length_drop, List.length_set]; omega) | decide) (by first | assumption | omega | (simp only [maxLen, kU8_sz, kSl_sz, k_api_Step_sz, k_quaestorlaw09_Claim_sz]; omega) | (simp only [maxLen, kU8_sz, kSl_sz, k_api_Step_sz, k_quaestorlaw09_Claim_sz, List.length_append, List.length_cons, List.length_nil, List.length_take, List.length_drop, List.length_set]; omega) | decide)) Try.func19 rfl (by decide) [] [] (l := [(.tmp 33, dv (strV (rootB l))), (.tmp 35, slV false false kU8 c.f_Leaf), (.tmp 37, dv (.int .i64 c.f_I)), (.tmp 39, dv (.int .i64 c.f_N)), (.tmp 41, slV false false (k_api_Step false) c.f_Path)]) [] rfl 0 0 rfl rfl rfl rfl rfl rfl rfl rfl rfl ⟨.inl ⟨rfl, rfl⟩, ⟨.inl ⟨rfl, rfl⟩, ⟨.inl ⟨rfl, rfl⟩, ⟨.inl ⟨rfl, rfl⟩, ⟨.inl ⟨rfl, rfl⟩, trivial⟩⟩⟩⟩⟩ rfl (fun b hb => by cases hb) (.inl rfl) (lt_of rfl) trivial))
          (oC (oS rfl rfl (r_bin (u1 := .int .i64 (checkM (rootB l) c.f_Leaf c.f_I c.f_N c.f_Path)) (u2 := .int .i64 (checkM (rootB l) c.f_Leaf c.f_I c.f_N c.f_Path)) (v := .bool (decide ((checkM (rootB l) c.f_Leaf c.f_I c.f_N c.f_Path) = (checkM (rootB l) c.f_Leaf c.f_I c.f_N c.f_Path)))) b_eql (lt_of rfl) trivial))
          (oC (oS rfl rfl (r_move (av := dv (.bool (decide ((checkM (rootB l) c.f_Leaf c.f_I c.f_N c.f_Path) = (checkM (rootB l) c.f_Leaf c.f_I c.f_N c.f_Path))))) (lt_of rfl) trivial))
          (oC (oY (b := (decide ((checkM (rootB l) c.f_Leaf c.f_I c.f_N c.f_Path) = (checkM (rootB l) c.f_Leaf c.f_I c.f_N c.f_Path)))) rfl rfl rfl rfl (lt_of rfl) (decide_eq_true (Eq.refl _)) (r_call (law_awake  ) Try.func13 rfl (by decide) [] [] (l := []) [] rfl 0 0 rfl rfl rfl rfl rfl rfl rfl rfl rfl trivial rfl (fun b hb => by cases hb) (.inl rfl) (lt_of rfl) trivial))
          (oC (oS rfl rfl (r_pickT (b := (decide ((checkM (rootB l) c.f_Leaf c.f_I c.f_N c.f_Path) = (checkM (rootB l) c.f_Leaf c.f_I c.f_N c.f_Path)))) (av := dv (.bool true)) (lt_of rfl) trivial (decide_eq_true (Eq.refl _))))
          (oC (oS rfl rfl (r_assign (av := dv (.bool true)) (lt_of rfl) trivial)) (oZ rfl))))))))))))))))))))))))))
          (by kernel_rfl) (by kernel_rfl) (by kernel_rfl) (by kernel_rfl) (by kernel_rfl) ?_
        refine nT ?_
        refine T.ret ?_
        exact tE (.inl rfl) [.t 4 (.one (.d (.val (.bool true))))] ⟨⟨rfl, rfl⟩, trivial⟩ [] rfl rfl rfl rfl rfl rfl trivial
      · refine T.condT (b := (!(decide (fewG szS 70 2000 c.f_Path)))) rfl (congrArg Bool.not (decide_eq_false hq3)) ?_
        refine T.seq ?_
        refine tR (s1 := ⟨[slV false false (kSl false kU8) l, .tv (.agg [.d (dsl false false kU8 c.f_Leaf), .d (.val (.int .i64 c.f_I)), .d (.val (.int .i64 c.f_N)), .d (dsl false false (k_api_Step false) c.f_Path)]), AV.any, pv 0 0, dv (.bool true), AV.any, AV.any, AV.any, AV.any, AV.any, AV.any, AV.any, AV.any, AV.any, AV.any, AV.any, AV.any, AV.any, AV.any, AV.any, dv (.bool (!(decide (fewG szS 70 2000 c.f_Path))))], [.live (.box 35 [.d (dsl false false kU8 c.f_Leaf), .d (.val (.int .i64 c.f_I)), .d (.val (.int .i64 c.f_N)), .d (dsl false false (k_api_Step false) c.f_Path)])]⟩) [true, true, false, true, true, false, false, false, false, false, false, false, false, false, false, false, false, false, false, false, true] [true]
          (oC (oS rfl rfl (r_assign (av := dv (.bool true)) (lt_of rfl) ⟨rfl, trivial⟩)) (oZ rfl))
          (by kernel_rfl) (by kernel_rfl) ?_
        refine nT ?_
        refine T.ret ?_
        refine rT ?_
        exact tE (.inl rfl) [.t 4 (.one (.d (.val (.bool true))))] ⟨⟨rfl, rfl⟩, trivial⟩ [] rfl rfl rfl rfl rfl rfl trivial
  · refine tR (s1 := ⟨[slV false false (kSl false kU8) l, .tv (.agg [.d (dsl false false kU8 c.f_Leaf), .d (.val (.int .i64 c.f_I)), .d (.val (.int .i64 c.f_N)), .d (dsl false false (k_api_Step false) c.f_Path)]), AV.any, pv 0 0, dv (.bool false), AV.any, AV.any, AV.any, AV.any, AV.any, AV.any, AV.any, AV.any, AV.any, AV.any, AV.any, AV.any, AV.any, AV.any, AV.any, dv (.bool true)], [.live (.box 35 [.d (dsl false false kU8 c.f_Leaf), .d (.val (.int .i64 c.f_I)), .d (.val (.int .i64 c.f_N)), .d (dsl false false (k_api_Step false) c.f_Path)])]⟩) [true, true, false, true, true, false, false, false, false, false, false, false, false, false, false, false, false, false, false, false, true] [true]
      (oC (oS rfl rfl (r_move (av := slV false false (kSl false kU8) l) (lt_of rfl) trivial))
      (oC (oS rfl rfl (r_call (law_few false false false l (by first | assumption | omega | (simp only [maxLen, kU8_sz, kSl_sz, k_api_Step_sz, k_quaestorlaw09_Claim_sz]; omega) | (simp only [maxLen, kU8_sz, kSl_sz, k_api_Step_sz, k_quaestorlaw09_Claim_sz, List.length_append, List.length_cons, List.length_nil, List.length_take, List.length_drop, List.length_set]; omega) | decide)) Try.func10 rfl (by decide) [] [] (l := [(.tmp 6, slV false false (kSl false kU8) l)]) [] rfl 0 0 rfl rfl rfl rfl rfl rfl rfl rfl rfl ⟨.inl ⟨rfl, rfl⟩, trivial⟩ rfl (fun b hb => by cases hb) (.inl rfl) (lt_of rfl) trivial))
      (oC (oS rfl rfl (r_un (u := .bool (decide (fewG szL 40 200 l))) (v := .bool (!(decide (fewG szL 40 200 l)))) u_not (lt_of rfl) trivial))
      (oC (oS rfl rfl (r_move (av := dv (.bool (!(decide (fewG szL 40 200 l))))) (lt_of rfl) trivial))
      (oC (oN (b := (!(decide (fewG szL 40 200 l)))) rfl rfl rfl rfl (lt_of rfl) (congrArg Bool.not (decide_eq_false hq1)) rfl (lt_of rfl))
      (oC (oN (b := (!(decide (fewG szL 40 200 l)))) rfl rfl rfl rfl (lt_of rfl) (congrArg Bool.not (decide_eq_false hq1)) rfl (lt_of rfl))
      (oC (oN (b := (!(decide (fewG szL 40 200 l)))) rfl rfl rfl rfl (lt_of rfl) (congrArg Bool.not (decide_eq_false hq1)) rfl (lt_of rfl))
      (oC (oN (b := (!(decide (fewG szL 40 200 l)))) rfl rfl rfl rfl (lt_of rfl) (congrArg Bool.not (decide_eq_false hq1)) rfl (lt_of rfl))
      (oC (oS rfl rfl (r_pickT (b := (!(decide (fewG szL 40 200 l)))) (av := dv (.bool true)) (lt_of rfl) ⟨rfl, trivial⟩ (congrArg Bool.not (decide_eq_false hq1))))
      (oC (oS rfl rfl (r_move (av := dv (.bool true)) (lt_of rfl) trivial))
      (oC (oN (b := true) rfl rfl rfl rfl (lt_of rfl) rfl rfl (lt_of rfl))
      (oC (oN (b := true) rfl rfl rfl rfl (lt_of rfl) rfl rfl (lt_of rfl))
      (oC (oN (b := true) rfl rfl rfl rfl (lt_of rfl) rfl rfl (lt_of rfl))
      (oC (oN (b := true) rfl rfl rfl rfl (lt_of rfl) rfl rfl (lt_of rfl))
      (oC (oS rfl rfl (r_pickT (b := true) (av := dv (.bool true)) (lt_of rfl) ⟨rfl, trivial⟩ rfl)) (oZ rfl))))))))))))))))
      (by kernel_rfl) (by kernel_rfl) ?_
    refine nT ?_
    refine T.condT (b := true) rfl rfl ?_
    refine T.seq ?_
    refine tR (s1 := ⟨[slV false false (kSl false kU8) l, .tv (.agg [.d (dsl false false kU8 c.f_Leaf), .d (.val (.int .i64 c.f_I)), .d (.val (.int .i64 c.f_N)), .d (dsl false false (k_api_Step false) c.f_Path)]), AV.any, pv 0 0, dv (.bool true), AV.any, AV.any, AV.any, AV.any, AV.any, AV.any, AV.any, AV.any, AV.any, AV.any, AV.any, AV.any, AV.any, AV.any, AV.any, dv (.bool true)], [.live (.box 35 [.d (dsl false false kU8 c.f_Leaf), .d (.val (.int .i64 c.f_I)), .d (.val (.int .i64 c.f_N)), .d (dsl false false (k_api_Step false) c.f_Path)])]⟩) [true, true, false, true, true, false, false, false, false, false, false, false, false, false, false, false, false, false, false, false, true] [true]
      (oC (oS rfl rfl (r_assign (av := dv (.bool true)) (lt_of rfl) ⟨rfl, trivial⟩)) (oZ rfl))
      (by kernel_rfl) (by kernel_rfl) ?_
    refine nT ?_
    refine T.ret ?_
    refine rT ?_
    exact tE (.inl rfl) [.t 4 (.one (.d (.val (.bool true))))] ⟨⟨rfl, rfl⟩, trivial⟩ [] rfl rfl rfl rfl rfl rfl trivial
end Go.Proofs.Ytcpdbbabbnbghaa.Q
