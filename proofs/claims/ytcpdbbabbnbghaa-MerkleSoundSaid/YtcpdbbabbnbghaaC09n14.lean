import Derived.Test.YtcpdbbabbnbghaaC09n8
namespace Go.Proofs.Ytcpdbbabbnbghaa.Q
open Go Go.RowKit
set_option linter.unusedVariables false
set_option linter.unusedSimpArgs false
set_option maxRecDepth 100000
set_option maxHeartbeats 4000000
theorem fld_35_0 : FieldAt Try.prog 35 0 0 := ⟨_, _, _, Try.underlying35, rfl, iat_33, by decide, rfl⟩
theorem iat_27 : Try.prog.info? 27 = some Try.t27 := by kernel_rfl
theorem fld_35_3 : FieldAt Try.prog 35 3 3 := ⟨_, _, _, Try.underlying35, rfl, iat_27, by decide, rfl⟩
theorem wide_27 : Wide Try.prog 27 none := ⟨_, Try.underlying27, (fun _ h => by cases h), (fun _ _ h => by cases h)⟩
theorem iat_3 : Try.prog.info? 3 = some Try.t3 := by kernel_rfl
theorem fld_35_1 : FieldAt Try.prog 35 1 1 := ⟨_, _, _, Try.underlying35, rfl, iat_3, by decide, rfl⟩
theorem wide_3 : Wide Try.prog 3 none := ⟨_, Try.underlying3, (fun _ h => by cases h), (fun _ _ h => by cases h)⟩
-- quaestor/quaestorlaw09.MerkleSound
theorem law_MerkleSound (l : List (List UInt8)) (c : quaestorlaw09_Claim) (hl : l.length ≤ 9223372036854775807) (hc : c.f_Path.length ≤ 9223372036854775807) : Holds Try.prog 7 ⟨[slV false false (kSl false kU8) l, .tv (.agg [.d (dsl false false kU8 c.f_Leaf), .d (.val (.int .i64 c.f_I)), .d (.val (.int .i64 c.f_N)), .d (dsl false false (k_api_Step false) c.f_Path)])], [], dv (.bool true), []⟩ := by
  refine Holds.of Try.func7 rfl (N := 74) Try.ntmps7 rfl fun w0 B0 S0 U0 => ?_
  show T _ (mkBase 74 0 w0 S0 U0 B0) ⟨[slV false false (kSl false kU8) l, .tv (.agg [.d (dsl false false kU8 c.f_Leaf), .d (.val (.int .i64 c.f_I)), .d (.val (.int .i64 c.f_N)), .d (dsl false false (k_api_Step false) c.f_Path)])], []⟩ _ _
  refine T.seq ?_
  refine tR (s1 := ⟨[slV false false (kSl false kU8) l, .tv (.agg [.d (dsl false false kU8 c.f_Leaf), .d (.val (.int .i64 c.f_I)), .d (.val (.int .i64 c.f_N)), .d (dsl false false (k_api_Step false) c.f_Path)]), AV.any, pv 0 0, dv (.bool false)], [.live (.box 35 [.d (dsl false false kU8 c.f_Leaf), .d (.val (.int .i64 c.f_I)), .d (.val (.int .i64 c.f_N)), .d (dsl false false (k_api_Step false) c.f_Path)])]⟩) [true, true, false, true, true] [true]
    (oC (oS rfl rfl (r_box (l := 0) (t := .agg [.d (dsl false false kU8 c.f_Leaf), .d (.val (.int .i64 c.f_I)), .d (.val (.int .i64 c.f_N)), .d (dsl false false (k_api_Step false) c.f_Path)]) rfl (lt_of rfl) trivial))
    (oC (oS rfl rfl (r_assign (av := dv (.bool false)) (lt_of rfl) ⟨rfl, trivial⟩)) (oZ rfl)))
    (by kernel_rfl) (by kernel_rfl) ?_
  refine nT ?_
  refine T.seq ?_
  refine T.seq ?_
  by_cases hq1 : fewG szL 40 200 l
  · have hf := hq1; have hl40 := hf.1
    by_cases hq2 : ((c.f_Leaf.length : Nat) : Int) > 200
    · refine tR (s1 := ⟨[slV false false (kSl false kU8) l, .tv (.agg [.d (dsl false false kU8 c.f_Leaf), .d (.val (.int .i64 c.f_I)), .d (.val (.int .i64 c.f_N)), .d (dsl false false (k_api_Step false) c.f_Path)]), AV.any, pv 0 0, dv (.bool false), AV.any, AV.any, AV.any, AV.any, AV.any, AV.any, AV.any, AV.any, AV.any, AV.any, AV.any, AV.any, AV.any, AV.any, AV.any, AV.any, dv (.bool true)], [.live (.box 35 [.d (dsl false false kU8 c.f_Leaf), .d (.val (.int .i64 c.f_I)), .d (.val (.int .i64 c.f_N)), .d (dsl false false (k_api_Step false) c.f_Path)])]⟩) [true, true, false, true, true, false, false, false, false, false, false, false, false, false, false, false, false, false, false, false, false, true] [true]
        (oC (oS rfl rfl (r_move (av := slV false false (kSl false kU8) l) (lt_of rfl) trivial))
        (oC (oS rfl rfl (r_call (law_few false false false l (by first | assumption | omega | (simp only [maxLen, kU8_sz, kSl_sz, k_api_Step_sz, k_quaestorlaw09_Claim_sz]; omega) | (simp only [maxLen, kU8_sz, kSl_sz, k_api_Step_sz, k_quaestorlaw09_Claim_sz, List.length_append, List.length_cons, List.length_nil, List.length_take, List.length_drop, List.length_set]; omega) | decide)) Try.func10 rfl (by decide) [] [] (l := [(.tmp 7, slV false false (kSl false kU8) l)]) [] rfl 0 0 rfl rfl rfl rfl rfl rfl rfl rfl rfl ⟨.inl ⟨rfl, rfl⟩, trivial⟩ rfl (fun b hb => by cases hb) (.inl rfl) (lt_of rfl) trivial))
        (oC (oS rfl rfl (r_un (u := .bool (decide (fewG szL 40 200 l))) (v := .bool (!(decide (fewG szL 40 200 l)))) u_not (lt_of rfl) trivial))
        (oC (oS rfl rfl (r_move (av := dv (.bool (!(decide (fewG szL 40 200 l))))) (lt_of rfl) trivial))
        (oC (oY (b := (!(decide (fewG szL 40 200 l)))) rfl rfl rfl rfl (lt_of rfl) (congrArg Bool.not (decide_eq_true hq1)) (r_fieldAddr (l := 0) (off := 0) fld_35_0 (lt_of rfl) trivial))
        (oC (oY (b := (!(decide (fewG szL 40 200 l)))) rfl rfl rfl rfl (lt_of rfl) (congrArg Bool.not (decide_eq_true hq1)) (r_loadB (l := 0) (off := 0) (T := 35) (cs := [.d (dsl false false kU8 c.f_Leaf), .d (.val (.int .i64 c.f_I)), .d (.val (.int .i64 c.f_N)), .d (dsl false false (k_api_Step false) c.f_Path)]) (c := .d (dsl false false kU8 c.f_Leaf)) wide_33 rfl (lt_of rfl) trivial))
        (oC (oY (b := (!(decide (fewG szL 40 200 l)))) rfl rfl rfl rfl (lt_of rfl) (congrArg Bool.not (decide_eq_true hq1)) (q_len false false kU8 c.f_Leaf Try.underlying33 (lt_of rfl) trivial))
        (oC (oY (b := (!(decide (fewG szL 40 200 l)))) rfl rfl rfl rfl (lt_of rfl) (congrArg Bool.not (decide_eq_true hq1)) (r_bin (u1 := .int .i64 ((c.f_Leaf.length : Nat) : Int)) (u2 := .int .i64 200) (v := .bool (decide (((c.f_Leaf.length : Nat) : Int) > 200))) b_gtr (lt_of rfl) ⟨rfl, trivial⟩))
        (oC (oS rfl rfl (r_pickF (b := (!(decide (fewG szL 40 200 l)))) (av := dv (.bool (decide (((c.f_Leaf.length : Nat) : Int) > 200)))) (lt_of rfl) trivial (congrArg Bool.not (decide_eq_true hq1))))
        (oC (oS rfl rfl (r_move (av := dv (.bool (decide (((c.f_Leaf.length : Nat) : Int) > 200)))) (lt_of rfl) trivial))
        (oC (oN (b := (decide (((c.f_Leaf.length : Nat) : Int) > 200))) rfl rfl rfl rfl (lt_of rfl) (decide_eq_true hq2) rfl (lt_of rfl))
        (oC (oN (b := (decide (((c.f_Leaf.length : Nat) : Int) > 200))) rfl rfl rfl rfl (lt_of rfl) (decide_eq_true hq2) rfl (lt_of rfl))
        (oC (oN (b := (decide (((c.f_Leaf.length : Nat) : Int) > 200))) rfl rfl rfl rfl (lt_of rfl) (decide_eq_true hq2) rfl (lt_of rfl))
        (oC (oN (b := (decide (((c.f_Leaf.length : Nat) : Int) > 200))) rfl rfl rfl rfl (lt_of rfl) (decide_eq_true hq2) rfl (lt_of rfl))
        (oC (oS rfl rfl (r_pickT (b := (decide (((c.f_Leaf.length : Nat) : Int) > 200))) (av := dv (.bool true)) (lt_of rfl) ⟨rfl, trivial⟩ (decide_eq_true hq2))) (oZ rfl))))))))))))))))
        (by kernel_rfl) (by kernel_rfl) ?_
      refine nT ?_
      refine T.condT (b := true) rfl rfl ?_
      refine T.seq ?_
      refine tR (s1 := ⟨[slV false false (kSl false kU8) l, .tv (.agg [.d (dsl false false kU8 c.f_Leaf), .d (.val (.int .i64 c.f_I)), .d (.val (.int .i64 c.f_N)), .d (dsl false false (k_api_Step false) c.f_Path)]), AV.any, pv 0 0, dv (.bool true), AV.any, AV.any, AV.any, AV.any, AV.any, AV.any, AV.any, AV.any, AV.any, AV.any, AV.any, AV.any, AV.any, AV.any, AV.any, AV.any, dv (.bool true)], [.live (.box 35 [.d (dsl false false kU8 c.f_Leaf), .d (.val (.int .i64 c.f_I)), .d (.val (.int .i64 c.f_N)), .d (dsl false false (k_api_Step false) c.f_Path)])]⟩) [true, true, false, true, true, false, false, false, false, false, false, false, false, false, false, false, false, false, false, false, false, true] [true]
        (oC (oS rfl rfl (r_assign (av := dv (.bool true)) (lt_of rfl) ⟨rfl, trivial⟩)) (oZ rfl))
        (by kernel_rfl) (by kernel_rfl) ?_
      refine nT ?_
      refine T.ret ?_
      refine rT ?_
      exact tE (.inl rfl) [.t 4 (.one (.d (.val (.bool true))))] ⟨⟨rfl, rfl⟩, trivial⟩ [] rfl rfl rfl rfl rfl rfl trivial
    · have hle : c.f_Leaf.length ≤ 200 := (by omega)
      refine tR (s1 := ⟨[slV false false (kSl false kU8) l, .tv (.agg [.d (dsl false false kU8 c.f_Leaf), .d (.val (.int .i64 c.f_I)), .d (.val (.int .i64 c.f_N)), .d (dsl false false (k_api_Step false) c.f_Path)]), AV.any, pv 0 0, dv (.bool false), AV.any, AV.any, AV.any, AV.any, AV.any, AV.any, AV.any, AV.any, AV.any, AV.any, AV.any, AV.any, AV.any, AV.any, AV.any, AV.any, dv (.bool (!(decide (fewG szS 70 2000 c.f_Path))))], [.live (.box 35 [.d (dsl false false kU8 c.f_Leaf), .d (.val (.int .i64 c.f_I)), .d (.val (.int .i64 c.f_N)), .d (dsl false false (k_api_Step false) c.f_Path)])]⟩) [true, true, false, true, true, false, false, false, false, false, false, false, false, false, false, false, false, false, false, false, false, true] [true]
        (oC (oS rfl rfl (r_move (av := slV false false (kSl false kU8) l) (lt_of rfl) trivial))
        (oC (oS rfl rfl (r_call (law_few false false false l (by first | assumption | omega | (simp only [maxLen, kU8_sz, kSl_sz, k_api_Step_sz, k_quaestorlaw09_Claim_sz]; omega) | (simp only [maxLen, kU8_sz, kSl_sz, k_api_Step_sz, k_quaestorlaw09_Claim_sz, List.length_append, List.length_cons, List.length_nil, List.length_take, List.length_drop, List.length_set]; omega) | decide)) Try.func10 rfl (by decide) [] [] (l := [(.tmp 7, slV false false (kSl false kU8) l)]) [] rfl 0 0 rfl rfl rfl rfl rfl rfl rfl rfl rfl ⟨.inl ⟨rfl, rfl⟩, trivial⟩ rfl (fun b hb => by cases hb) (.inl rfl) (lt_of rfl) trivial))
        (oC (oS rfl rfl (r_un (u := .bool (decide (fewG szL 40 200 l))) (v := .bool (!(decide (fewG szL 40 200 l)))) u_not (lt_of rfl) trivial))
        (oC (oS rfl rfl (r_move (av := dv (.bool (!(decide (fewG szL 40 200 l))))) (lt_of rfl) trivial))
        (oC (oY (b := (!(decide (fewG szL 40 200 l)))) rfl rfl rfl rfl (lt_of rfl) (congrArg Bool.not (decide_eq_true hq1)) (r_fieldAddr (l := 0) (off := 0) fld_35_0 (lt_of rfl) trivial))
        (oC (oY (b := (!(decide (fewG szL 40 200 l)))) rfl rfl rfl rfl (lt_of rfl) (congrArg Bool.not (decide_eq_true hq1)) (r_loadB (l := 0) (off := 0) (T := 35) (cs := [.d (dsl false false kU8 c.f_Leaf), .d (.val (.int .i64 c.f_I)), .d (.val (.int .i64 c.f_N)), .d (dsl false false (k_api_Step false) c.f_Path)]) (c := .d (dsl false false kU8 c.f_Leaf)) wide_33 rfl (lt_of rfl) trivial))
        (oC (oY (b := (!(decide (fewG szL 40 200 l)))) rfl rfl rfl rfl (lt_of rfl) (congrArg Bool.not (decide_eq_true hq1)) (q_len false false kU8 c.f_Leaf Try.underlying33 (lt_of rfl) trivial))
        (oC (oY (b := (!(decide (fewG szL 40 200 l)))) rfl rfl rfl rfl (lt_of rfl) (congrArg Bool.not (decide_eq_true hq1)) (r_bin (u1 := .int .i64 ((c.f_Leaf.length : Nat) : Int)) (u2 := .int .i64 200) (v := .bool (decide (((c.f_Leaf.length : Nat) : Int) > 200))) b_gtr (lt_of rfl) ⟨rfl, trivial⟩))
        (oC (oS rfl rfl (r_pickF (b := (!(decide (fewG szL 40 200 l)))) (av := dv (.bool (decide (((c.f_Leaf.length : Nat) : Int) > 200)))) (lt_of rfl) trivial (congrArg Bool.not (decide_eq_true hq1))))
        (oC (oS rfl rfl (r_move (av := dv (.bool (decide (((c.f_Leaf.length : Nat) : Int) > 200)))) (lt_of rfl) trivial))
        (oC (oY (b := (decide (((c.f_Leaf.length : Nat) : Int) > 200))) rfl rfl rfl rfl (lt_of rfl) (decide_eq_false hq2) (r_fieldAddr (l := 0) (off := 0) fld_35_3 (lt_of rfl) trivial))
        (oC (oY (b := (decide (((c.f_Leaf.length : Nat) : Int) > 200))) rfl rfl rfl rfl (lt_of rfl) (decide_eq_false hq2) (r_loadB (l := 0) (off := 3) (T := 35) (cs := [.d (dsl false false kU8 c.f_Leaf), .d (.val (.int .i64 c.f_I)), .d (.val (.int .i64 c.f_N)), .d (dsl false false (k_api_Step false) c.f_Path)]) (c := .d (dsl false false (k_api_Step false) c.f_Path)) wide_27 rfl (lt_of rfl) trivial))
        (oC (oY (b := (decide (((c.f_Leaf.length : Nat) : Int) > 200))) rfl rfl rfl rfl (lt_of rfl) (decide_eq_false hq2) (r_call (law_short false false false c.f_Path (by first | assumption | omega | (simp only [maxLen, kU8_sz, kSl_sz, k_api_Step_sz, k_quaestorlaw09_Claim_sz]; omega) | (simp only [maxLen, kU8_sz, kSl_sz, k_api_Step_sz, k_quaestorlaw09_Claim_sz, List.length_append, List.length_cons, List.length_nil, List.length_take, List.length_drop, List.length_set]; omega) | decide)) Try.func17 rfl (by decide) [] [] (l := [(.tmp 18, slV false false (k_api_Step false) c.f_Path)]) [] rfl 0 0 rfl rfl rfl rfl rfl rfl rfl rfl rfl ⟨.inl ⟨rfl, rfl⟩, trivial⟩ rfl (fun b hb => by cases hb) (.inl rfl) (lt_of rfl) trivial))
        (oC (oY (b := (decide (((c.f_Leaf.length : Nat) : Int) > 200))) rfl rfl rfl rfl (lt_of rfl) (decide_eq_false hq2) (r_un (u := .bool (decide (fewG szS 70 2000 c.f_Path))) (v := .bool (!(decide (fewG szS 70 2000 c.f_Path)))) u_not (lt_of rfl) trivial))
        (oC (oS rfl rfl (r_pickF (b := (decide (((c.f_Leaf.length : Nat) : Int) > 200))) (av := dv (.bool (!(decide (fewG szS 70 2000 c.f_Path))))) (lt_of rfl) trivial (decide_eq_false hq2))) (oZ rfl))))))))))))))))
        (by kernel_rfl) (by kernel_rfl) ?_
      refine nT ?_
      by_cases hq3 : fewG szS 70 2000 c.f_Path
      · have hps := hq3
        refine T.condF (b := (!(decide (fewG szS 70 2000 c.f_Path)))) rfl (congrArg Bool.not (decide_eq_true hq3)) ?_
        refine T.skip ?_
        refine nT ?_
        refine T.seq ?_
        refine T.seq ?_
        refine tD (s1 := ⟨[slV false false (kSl false kU8) l, .tv (.agg [.d (dsl false false kU8 c.f_Leaf), .d (.val (.int .i64 c.f_I)), .d (.val (.int .i64 c.f_N)), .d (dsl false false (k_api_Step false) c.f_Path)]), AV.any, pv 0 0, dv (.bool false), AV.any, AV.any, AV.any, AV.any, AV.any, AV.any, AV.any, AV.any, AV.any, AV.any, AV.any, AV.any, AV.any, AV.any, AV.any, AV.any, dv (.bool (!(decide (fewG szS 70 2000 c.f_Path)))), AV.any, AV.any, AV.any, AV.any, AV.any, AV.any, AV.any, AV.any, AV.any, AV.any, AV.any, dv (.bool (decide ((checkM (rootB l) c.f_Leaf c.f_I ((l.length : Nat) : Int) c.f_Path) ≠ 0)))], [.live (.box 35 [.d (dsl false false kU8 c.f_Leaf), .d (.val (.int .i64 c.f_I)), .d (.val (.int .i64 c.f_N)), .d (dsl false false (k_api_Step false) c.f_Path)])]⟩) (by kernel_rfl) [[], [0], [], [2], [], [4], [], [6], [], [8], [0, 1, 2, 3, 4, 5, 6, 7, 8, 9], [0, 1, 2, 3, 4, 5, 6, 7, 8, 9, 10]] [true, true, false, true, true, false, false, false, false, false, false, false, false, false, false, false, false, false, false, false, false, true, false, false, false, false, false, false, false, false, false, false, false, true] [true]
          (oC (oS rfl rfl (r_move (av := slV false false (kSl false kU8) l) (lt_of rfl) trivial))
          (oC (oS rfl rfl (r_call (merkle_Root false false false l (by first | assumption | exact fewG_take (by assumption) _ | exact fewG_drop (by assumption) _ | exact fewG_set (by assumption) (by assumption) | decide)) Try.func11 rfl (by decide) [] [] (l := [(.tmp 22, slV false false (kSl false kU8) l)]) [] rfl 0 0 rfl rfl rfl rfl rfl rfl rfl rfl rfl ⟨.inl ⟨rfl, rfl⟩, trivial⟩ rfl (fun b hb => by cases hb) (.inl rfl) (lt_of rfl) trivial))
          (oC (oS rfl rfl (r_fieldAddr (l := 0) (off := 0) fld_35_0 (lt_of rfl) trivial))
          (oC (oS rfl rfl (r_loadB (l := 0) (off := 0) (T := 35) (cs := [.d (dsl false false kU8 c.f_Leaf), .d (.val (.int .i64 c.f_I)), .d (.val (.int .i64 c.f_N)), .d (dsl false false (k_api_Step false) c.f_Path)]) (c := .d (dsl false false kU8 c.f_Leaf)) wide_33 rfl (lt_of rfl) trivial))
          (oC (oS rfl rfl (r_fieldAddr (l := 0) (off := 0) fld_35_1 (lt_of rfl) trivial))
          (oC (oS rfl rfl (r_loadB (l := 0) (off := 1) (T := 35) (cs := [.d (dsl false false kU8 c.f_Leaf), .d (.val (.int .i64 c.f_I)), .d (.val (.int .i64 c.f_N)), .d (dsl false false (k_api_Step false) c.f_Path)]) (c := .d (.val (.int .i64 c.f_I))) wide_3 rfl (lt_of rfl) trivial))
          (oC (oS rfl rfl (r_move (av := slV false false (kSl false kU8) l) (lt_of rfl) trivial))
          (oC (oS rfl rfl (q_len false false (kSl false kU8) l Try.underlying22 (lt_of rfl) trivial))
          (oC (oS rfl rfl (r_fieldAddr (l := 0) (off := 0) fld_35_3 (lt_of rfl) trivial))
          (oC (oS rfl rfl (r_loadB (l := 0) (off := 3) (T := 35) (cs := [.d (dsl false false kU8 c.f_Leaf), .d (.val (.int .i64 c.f_I)), .d (.val (.int .i64 c.f_N)), .d (dsl false false (k_api_Step false) c.f_Path)]) (c := .d (dsl false false (k_api_Step false) c.f_Path)) wide_27 rfl (lt_of rfl) trivial))
          (oC (oS rfl rfl (r_call (merkle_Check (rootB l) false false c.f_Leaf c.f_I ((l.length : Nat) : Int) false false c.f_Path (by first | assumption | exact few_path (by assumption) _ | exact fewG_mono (by assumption) (by decide) | decide +kernel) (by first | assumption | omega | (simp only [maxLen, kU8_sz, kSl_sz, k_api_Step_sz, k_quaestorlaw09_Claim_sz]; omega) | (simp only [maxLen, kU8_sz, kSl_sz, k_api_Step_sz, k_quaestorlaw09_Claim_sz, List.length_append, List.length_cons, List.length_nil, List.length_take, List.length_drop, List.length_set]; omega) | decide) (by first | assumption | omega | (simp only [maxLen, kU8_sz, kSl_sz, k_api_Step_sz, k_quaestorlaw09_Claim_sz]; omega) | (simp only [maxLen, kU8_sz, kSl_sz, k_api_Step_sz, k_quaestorlaw09_Claim_sz, List.length_append, List.length_cons, List.length_nil, List.length_take, List.length_drop, List.length_set]; omega) | decide)) Try.func18 rfl (by decide) [] [] (l := [(.tmp 23, dv (strV (rootB l))), (.tmp 25, slV false false kU8 c.f_Leaf), (.tmp 27, dv (.int .i64 c.f_I)), (.tmp 29, dv (.int .i64 ((l.length : Nat) : Int))), (.tmp 31, slV false false (k_api_Step false) c.f_Path)]) [] rfl 0 0 rfl rfl rfl rfl rfl rfl rfl rfl rfl ⟨.inl ⟨rfl, rfl⟩, ⟨.inl ⟨rfl, rfl⟩, ⟨.inl ⟨rfl, rfl⟩, ⟨.inl ⟨rfl, rfl⟩, ⟨.inl ⟨rfl, rfl⟩, trivial⟩⟩⟩⟩⟩ rfl (fun b hb => by cases hb) (.inl rfl) (lt_of rfl) trivial))
          (oC (oS rfl rfl (r_bin (u1 := .int .i64 (checkM (rootB l) c.f_Leaf c.f_I ((l.length : Nat) : Int) c.f_Path)) (u2 := .int .i64 0) (v := .bool (decide ((checkM (rootB l) c.f_Leaf c.f_I ((l.length : Nat) : Int) c.f_Path) ≠ 0))) b_neq (lt_of rfl) ⟨rfl, trivial⟩)) (oZ rfl)))))))))))))
          (by kernel_rfl) (by kernel_rfl) (by kernel_rfl) (by kernel_rfl) (by kernel_rfl) ?_
        refine nT ?_
        by_cases hq4 : (checkM (rootB l) c.f_Leaf c.f_I ((l.length : Nat) : Int) c.f_Path) ≠ 0
        · refine T.condT (b := (decide ((checkM (rootB l) c.f_Leaf c.f_I ((l.length : Nat) : Int) c.f_Path) ≠ 0))) rfl (decide_eq_true hq4) ?_
          refine T.seq ?_
          refine tR (s1 := ⟨[slV false false (kSl false kU8) l, .tv (.agg [.d (dsl false false kU8 c.f_Leaf), .d (.val (.int .i64 c.f_I)), .d (.val (.int .i64 c.f_N)), .d (dsl false false (k_api_Step false) c.f_Path)]), AV.any, pv 0 0, dv (.bool true), AV.any, AV.any, AV.any, AV.any, AV.any, AV.any, AV.any, AV.any, AV.any, AV.any, AV.any, AV.any, AV.any, AV.any, AV.any, AV.any, dv (.bool (!(decide (fewG szS 70 2000 c.f_Path)))), AV.any, AV.any, AV.any, AV.any, AV.any, AV.any, AV.any, AV.any, AV.any, AV.any, AV.any, dv (.bool (decide ((checkM (rootB l) c.f_Leaf c.f_I ((l.length : Nat) : Int) c.f_Path) ≠ 0)))], [.live (.box 35 [.d (dsl false false kU8 c.f_Leaf), .d (.val (.int .i64 c.f_I)), .d (.val (.int .i64 c.f_N)), .d (dsl false false (k_api_Step false) c.f_Path)])]⟩) [true, true, false, true, true, false, false, false, false, false, false, false, false, false, false, false, false, false, false, false, false, true, false, false, false, false, false, false, false, false, false, false, false, true] [true]
            (oC (oS rfl rfl (r_call (law_awake  ) Try.func13 rfl (by decide) [] [] (l := []) [] rfl 0 0 rfl rfl rfl rfl rfl rfl rfl rfl rfl trivial rfl (fun b hb => by cases hb) (.inl rfl) (lt_of rfl) trivial))
            (oC (oS rfl rfl (r_assign (av := dv (.bool true)) (lt_of rfl) trivial)) (oZ rfl)))
            (by kernel_rfl) (by kernel_rfl) ?_
          refine nT ?_
          refine T.ret ?_
          refine rT ?_
          exact tE (.inl rfl) [.t 4 (.one (.d (.val (.bool true))))] ⟨⟨rfl, rfl⟩, trivial⟩ [] rfl rfl rfl rfl rfl rfl trivial
        · obtain ⟨s1, s2, s3, s4, s5⟩ := sound_ok hf hle hps (Classical.not_not.1 hq4); have hpl9 : (pathB l c.f_I).length ≤ 70 := (few_path hf c.f_I).1
          refine T.condF (b := (decide ((checkM (rootB l) c.f_Leaf c.f_I ((l.length : Nat) : Int) c.f_Path) ≠ 0))) rfl (decide_eq_false hq4) ?_
          refine T.skip ?_
          refine nT ?_
          refine T.seq ?_
          refine T.seq ?_
          by_cases hq5 : c.f_I < 0
          · exact absurd hq5 (by omega)
          · by_cases hq6 : c.f_I ≥ ((l.length : Nat) : Int)
            · exact absurd hq6 (by omega)
            · refine tD (s1 := ⟨[slV false false (kSl false kU8) l, .tv (.agg [.d (dsl false false kU8 c.f_Leaf), .d (.val (.int .i64 c.f_I)), .d (.val (.int .i64 c.f_N)), .d (dsl false false (k_api_Step false) c.f_Path)]), AV.any, pv 0 0, dv (.bool false), AV.any, AV.any, AV.any, AV.any, AV.any, AV.any, AV.any, AV.any, AV.any, AV.any, AV.any, AV.any, AV.any, AV.any, AV.any, AV.any, dv (.bool (!(decide (fewG szS 70 2000 c.f_Path)))), AV.any, AV.any, AV.any, AV.any, AV.any, AV.any, AV.any, AV.any, AV.any, AV.any, AV.any, dv (.bool (decide ((checkM (rootB l) c.f_Leaf c.f_I ((l.length : Nat) : Int) c.f_Path) ≠ 0))), AV.any, AV.any, AV.any, AV.any, AV.any, AV.any, AV.any, AV.any, AV.any, AV.any, AV.any, AV.any, AV.any, AV.any, AV.any, AV.any, AV.any, AV.any, AV.any, AV.any, AV.any, dv (.bool (!(decide ((l.getD (c.f_I).toNat []) = c.f_Leaf))))], [.live (.box 35 [.d (dsl false false kU8 c.f_Leaf), .d (.val (.int .i64 c.f_I)), .d (.val (.int .i64 c.f_N)), .d (dsl false false (k_api_Step false) c.f_Path)])]⟩) (by kernel_rfl) [[], [0], [0, 1], [0, 1, 2], [0, 1, 2, 3], [0, 1, 2, 3, 4], [0, 1, 2, 3], [0, 1, 2, 3, 6], [0, 1, 2, 3, 4, 5, 6, 7], [0, 1, 2, 3, 4, 5, 6, 7, 8], [0, 1, 2, 3, 4, 5, 6, 7, 8, 9], [0, 1, 2, 3, 4, 5, 6, 7, 8, 9, 10], [0, 1, 2, 3, 4, 5, 6, 7, 8, 9, 10], [0, 1, 2, 3, 4, 5, 6, 7, 8, 9, 10, 12], [0, 1, 2, 3, 4, 5, 6, 7, 8, 9, 10, 11, 12, 13], [0, 1, 2, 3, 4, 5, 6, 7, 8, 9, 10, 11, 12, 13, 14], [0, 1, 2, 3, 4, 5, 6, 7, 8, 9, 10], [0, 1, 2, 3, 4, 5, 6, 7, 8, 9, 10, 16], [0, 1, 2, 3, 4, 5, 6, 7, 8, 9, 10, 11, 12, 13, 14, 15, 16, 17], [0, 1, 2, 3, 4, 5, 6, 7, 8, 9, 10, 11, 12, 13, 14, 15, 16, 17, 18], [0, 1, 2, 3, 4, 5, 6, 7, 8, 9, 10, 11, 12, 13, 14, 15, 16, 17, 18, 19]] [true, true, false, true, true, false, false, false, false, false, false, false, false, false, false, false, false, false, false, false, false, true, false, false, false, false, false, false, false, false, false, false, false, true, false, false, false, false, false, false, false, false, false, false, false, false, false, false, false, false, false, false, false, false, false, true] [true]
                (oC (oS rfl rfl (r_fieldAddr (l := 0) (off := 0) fld_35_1 (lt_of rfl) trivial))
                (oC (oS rfl rfl (r_loadB (l := 0) (off := 1) (T := 35) (cs := [.d (dsl false false kU8 c.f_Leaf), .d (.val (.int .i64 c.f_I)), .d (.val (.int .i64 c.f_N)), .d (dsl false false (k_api_Step false) c.f_Path)]) (c := .d (.val (.int .i64 c.f_I))) wide_3 rfl (lt_of rfl) trivial))
                (oC (oS rfl rfl (r_bin (u1 := .int .i64 c.f_I) (u2 := .int .i64 0) (v := .bool (decide (c.f_I < 0))) b_lss (lt_of rfl) ⟨rfl, trivial⟩))
                (oC (oS rfl rfl (r_move (av := dv (.bool (decide (c.f_I < 0)))) (lt_of rfl) trivial))
                (oC (oY (b := (decide (c.f_I < 0))) rfl rfl rfl rfl (lt_of rfl) (decide_eq_false hq5) (r_fieldAddr (l := 0) (off := 0) fld_35_1 (lt_of rfl) trivial))
                (oC (oY (b := (decide (c.f_I < 0))) rfl rfl rfl rfl (lt_of rfl) (decide_eq_false hq5) (r_loadB (l := 0) (off := 1) (T := 35) (cs := [.d (dsl false false kU8 c.f_Leaf), .d (.val (.int .i64 c.f_I)), .d (.val (.int .i64 c.f_N)), .d (dsl false false (k_api_Step false) c.f_Path)]) (c := .d (.val (.int .i64 c.f_I))) wide_3 rfl (lt_of rfl) trivial))
                (oC (oY (b := (decide (c.f_I < 0))) rfl rfl rfl rfl (lt_of rfl) (decide_eq_false hq5) (r_move (av := slV false false (kSl false kU8) l) (lt_of rfl) trivial))
                (oC (oY (b := (decide (c.f_I < 0))) rfl rfl rfl rfl (lt_of rfl) (decide_eq_false hq5) (q_len false false (kSl false kU8) l Try.underlying22 (lt_of rfl) trivial))
                (oC (oY (b := (decide (c.f_I < 0))) rfl rfl rfl rfl (lt_of rfl) (decide_eq_false hq5) (r_bin (u1 := .int .i64 c.f_I) (u2 := .int .i64 ((l.length : Nat) : Int)) (v := .bool (decide (c.f_I ≥ ((l.length : Nat) : Int)))) b_geq (lt_of rfl) trivial))
                (oC (oS rfl rfl (r_pickF (b := (decide (c.f_I < 0))) (av := dv (.bool (decide (c.f_I ≥ ((l.length : Nat) : Int))))) (lt_of rfl) trivial (decide_eq_false hq5)))
                (oC (oS rfl rfl (r_move (av := dv (.bool (decide (c.f_I ≥ ((l.length : Nat) : Int))))) (lt_of rfl) trivial))
                (oC (oY (b := (decide (c.f_I ≥ ((l.length : Nat) : Int)))) rfl rfl rfl rfl (lt_of rfl) (decide_eq_false hq6) (r_move (av := slV false false (kSl false kU8) l) (lt_of rfl) trivial))
                (oC (oY (b := (decide (c.f_I ≥ ((l.length : Nat) : Int)))) rfl rfl rfl rfl (lt_of rfl) (decide_eq_false hq6) (r_fieldAddr (l := 0) (off := 0) fld_35_1 (lt_of rfl) trivial))
                (oC (oY (b := (decide (c.f_I ≥ ((l.length : Nat) : Int)))) rfl rfl rfl rfl (lt_of rfl) (decide_eq_false hq6) (r_loadB (l := 0) (off := 1) (T := 35) (cs := [.d (dsl false false kU8 c.f_Leaf), .d (.val (.int .i64 c.f_I)), .d (.val (.int .i64 c.f_N)), .d (dsl false false (k_api_Step false) c.f_Path)]) (c := .d (.val (.int .i64 c.f_I))) wide_3 rfl (lt_of rfl) trivial))
                (oC (oY (b := (decide (c.f_I ≥ ((l.length : Nat) : Int)))) rfl rfl rfl rfl (lt_of rfl) (decide_eq_false hq6) (q_index false false (kSl false kU8) l (c.f_I).toNat (k := .i64) (i := c.f_I) Try.underlying22 iat_33 rfl (by omega) (by first | assumption | omega | (simp only [maxLen, kU8_sz, kSl_sz, k_api_Step_sz, k_quaestorlaw09_Claim_sz]; omega) | (simp only [maxLen, kU8_sz, kSl_sz, k_api_Step_sz, k_quaestorlaw09_Claim_sz, List.length_append, List.length_cons, List.length_nil, List.length_take, List.length_drop, List.length_set]; omega) | decide) (lt_of rfl) trivial))
                (oC (oY (b := (decide (c.f_I ≥ ((l.length : Nat) : Int)))) rfl rfl rfl rfl (lt_of rfl) (decide_eq_false hq6) (r_loadE (tag := false) (n := 1) (el := (kSl false kU8).cell (l.getD (c.f_I).toNat (kSl false kU8).z)) (e0 := dsl false false kU8 (l.getD (c.f_I).toNat [])) wide_33 (by decide) rfl (lt_of rfl) trivial))
                (oC (oY (b := (decide (c.f_I ≥ ((l.length : Nat) : Int)))) rfl rfl rfl rfl (lt_of rfl) (decide_eq_false hq6) (r_fieldAddr (l := 0) (off := 0) fld_35_0 (lt_of rfl) trivial))
                (oC (oY (b := (decide (c.f_I ≥ ((l.length : Nat) : Int)))) rfl rfl rfl rfl (lt_of rfl) (decide_eq_false hq6) (r_loadB (l := 0) (off := 0) (T := 35) (cs := [.d (dsl false false kU8 c.f_Leaf), .d (.val (.int .i64 c.f_I)), .d (.val (.int .i64 c.f_N)), .d (dsl false false (k_api_Step false) c.f_Path)]) (c := .d (dsl false false kU8 c.f_Leaf)) wide_33 rfl (lt_of rfl) trivial))
                (oC (oY (b := (decide (c.f_I ≥ ((l.length : Nat) : Int)))) rfl rfl rfl rfl (lt_of rfl) (decide_eq_false hq6) (r_call (ref01_Same false false false false (l.getD (c.f_I).toNat []) c.f_Leaf ) Try.func20 rfl (by decide) [] [] (l := [(.tmp 50, slV false false kU8 (l.getD (c.f_I).toNat [])), (.tmp 52, slV false false kU8 c.f_Leaf)]) [] rfl 0 0 rfl rfl rfl rfl rfl rfl rfl rfl rfl ⟨.inl ⟨rfl, rfl⟩, ⟨.inl ⟨rfl, rfl⟩, trivial⟩⟩ rfl (fun b hb => by cases hb) (.inl rfl) (lt_of rfl) trivial))
                (oC (oY (b := (decide (c.f_I ≥ ((l.length : Nat) : Int)))) rfl rfl rfl rfl (lt_of rfl) (decide_eq_false hq6) (r_un (u := .bool (decide ((l.getD (c.f_I).toNat []) = c.f_Leaf))) (v := .bool (!(decide ((l.getD (c.f_I).toNat []) = c.f_Leaf)))) u_not (lt_of rfl) trivial))
                (oC (oS rfl rfl (r_pickF (b := (decide (c.f_I ≥ ((l.length : Nat) : Int)))) (av := dv (.bool (!(decide ((l.getD (c.f_I).toNat []) = c.f_Leaf))))) (lt_of rfl) trivial (decide_eq_false hq6))) (oZ rfl))))))))))))))))))))))
                (by kernel_rfl) (by kernel_rfl) (by kernel_rfl) (by kernel_rfl) (by kernel_rfl) ?_
              refine nT ?_
              by_cases hq7 : (l.getD (c.f_I).toNat []) = c.f_Leaf
              · refine T.condF (b := (!(decide ((l.getD (c.f_I).toNat []) = c.f_Leaf)))) rfl (congrArg Bool.not (decide_eq_true hq7)) ?_
                refine T.skip ?_
                refine nT ?_
                refine T.seq ?_
                refine tR (s1 := ⟨[slV false false (kSl false kU8) l, .tv (.agg [.d (dsl false false kU8 c.f_Leaf), .d (.val (.int .i64 c.f_I)), .d (.val (.int .i64 c.f_N)), .d (dsl false false (k_api_Step false) c.f_Path)]), AV.any, pv 0 0, dv (.bool false), slV false false (k_api_Step false) (pathB l c.f_I), dv (.int .i64 (pathE l c.f_I)), AV.any, AV.any, AV.any, AV.any, AV.any, AV.any, AV.any, AV.any, AV.any, AV.any, AV.any, AV.any, AV.any, AV.any, dv (.bool (!(decide (fewG szS 70 2000 c.f_Path)))), AV.any, AV.any, AV.any, AV.any, AV.any, AV.any, AV.any, AV.any, AV.any, AV.any, AV.any, dv (.bool (decide ((checkM (rootB l) c.f_Leaf c.f_I ((l.length : Nat) : Int) c.f_Path) ≠ 0))), AV.any, AV.any, AV.any, AV.any, AV.any, AV.any, AV.any, AV.any, AV.any, AV.any, AV.any, AV.any, AV.any, AV.any, AV.any, AV.any, AV.any, AV.any, AV.any, AV.any, AV.any, dv (.bool (!(decide ((l.getD (c.f_I).toNat []) = c.f_Leaf))))], [.live (.box 35 [.d (dsl false false kU8 c.f_Leaf), .d (.val (.int .i64 c.f_I)), .d (.val (.int .i64 c.f_N)), .d (dsl false false (k_api_Step false) c.f_Path)])]⟩) [true, true, false, true, true, true, true, false, false, false, false, false, false, false, false, false, false, false, false, false, false, true, false, false, false, false, false, false, false, false, false, false, false, true, false, false, false, false, false, false, false, false, false, false, false, false, false, false, false, false, false, false, false, false, false, true] [true]
                  (oC (oS rfl rfl (r_move (av := slV false false (kSl false kU8) l) (lt_of rfl) trivial))
                  (oC (oS rfl rfl (r_fieldAddr (l := 0) (off := 0) fld_35_1 (lt_of rfl) trivial))
                  (oC (oS rfl rfl (r_loadB (l := 0) (off := 1) (T := 35) (cs := [.d (dsl false false kU8 c.f_Leaf), .d (.val (.int .i64 c.f_I)), .d (.val (.int .i64 c.f_N)), .d (dsl false false (k_api_Step false) c.f_Path)]) (c := .d (.val (.int .i64 c.f_I))) wide_3 rfl (lt_of rfl) trivial))
                  (oC (oS rfl rfl (r_call (merkle_Path false false false l c.f_I (by first | assumption | exact fewG_take (by assumption) _ | exact fewG_drop (by assumption) _ | exact fewG_set (by assumption) (by assumption) | decide)) Try.func14 rfl (by decide) [] [] (l := [(.tmp 57, slV false false (kSl false kU8) l), (.tmp 59, dv (.int .i64 c.f_I))]) [] rfl 0 0 rfl rfl rfl rfl rfl rfl rfl rfl rfl ⟨.inl ⟨rfl, rfl⟩, ⟨.inl ⟨rfl, rfl⟩, trivial⟩⟩ rfl (fun b hb => by cases hb) (.inl rfl) (lt_of rfl) trivial))
                  (oC (oS rfl rfl (r_move (av := .tup [.one (.d (dsl false false (k_api_Step false) (pathB l c.f_I))), .one (.d (.val (.int .i64 (pathE l c.f_I))))]) (lt_of rfl) trivial))
                  (oC (oS rfl rfl (r_extract (l := [.one (.d (dsl false false (k_api_Step false) (pathB l c.f_I))), .one (.d (.val (.int .i64 (pathE l c.f_I))))]) (tv := .one (.d (dsl false false (k_api_Step false) (pathB l c.f_I)))) rfl (lt_of rfl) trivial))
                  (oC (oS rfl rfl (r_extract (l := [.one (.d (dsl false false (k_api_Step false) (pathB l c.f_I))), .one (.d (.val (.int .i64 (pathE l c.f_I))))]) (tv := .one (.d (.val (.int .i64 (pathE l c.f_I))))) rfl (lt_of rfl) trivial))
                  (oC (oS rfl rfl (r_assign (av := slV false false (k_api_Step false) (pathB l c.f_I)) (lt_of rfl) trivial))
                  (oC (oS rfl rfl (r_assign (av := dv (.int .i64 (pathE l c.f_I))) (lt_of rfl) trivial)) (oZ rfl))))))))))
                  (by kernel_rfl) (by kernel_rfl) ?_
                refine nT ?_
                refine T.seq ?_
                by_cases hq8 : (pathE l c.f_I) = 0
                · by_cases hq9 : (pathB l c.f_I) = c.f_Path
                  · refine tR (s1 := ⟨[slV false false (kSl false kU8) l, .tv (.agg [.d (dsl false false kU8 c.f_Leaf), .d (.val (.int .i64 c.f_I)), .d (.val (.int .i64 c.f_N)), .d (dsl false false (k_api_Step false) c.f_Path)]), AV.any, pv 0 0, dv (.bool true), slV false false (k_api_Step false) (pathB l c.f_I), dv (.int .i64 (pathE l c.f_I)), AV.any, AV.any, AV.any, AV.any, AV.any, AV.any, AV.any, AV.any, AV.any, AV.any, AV.any, AV.any, AV.any, AV.any, dv (.bool (!(decide (fewG szS 70 2000 c.f_Path)))), AV.any, AV.any, AV.any, AV.any, AV.any, AV.any, AV.any, AV.any, AV.any, AV.any, AV.any, dv (.bool (decide ((checkM (rootB l) c.f_Leaf c.f_I ((l.length : Nat) : Int) c.f_Path) ≠ 0))), AV.any, AV.any, AV.any, AV.any, AV.any, AV.any, AV.any, AV.any, AV.any, AV.any, AV.any, AV.any, AV.any, AV.any, AV.any, AV.any, AV.any, AV.any, AV.any, AV.any, AV.any, dv (.bool (!(decide ((l.getD (c.f_I).toNat []) = c.f_Leaf))))], [.live (.box 35 [.d (dsl false false kU8 c.f_Leaf), .d (.val (.int .i64 c.f_I)), .d (.val (.int .i64 c.f_N)), .d (dsl false false (k_api_Step false) c.f_Path)])]⟩) [true, true, false, true, true, true, true, false, false, false, false, false, false, false, false, false, false, false, false, false, false, true, false, false, false, false, false, false, false, false, false, false, false, true, false, false, false, false, false, false, false, false, false, false, false, false, false, false, false, false, false, false, false, false, false, true] [true]
                      (oC (oS rfl rfl (r_move (av := dv (.int .i64 (pathE l c.f_I))) (lt_of rfl) trivial))
                      (oC (oS rfl rfl (r_bin (u1 := .int .i64 (pathE l c.f_I)) (u2 := .int .i64 0) (v := .bool (decide ((pathE l c.f_I) = 0))) b_eql (lt_of rfl) ⟨rfl, trivial⟩))
                      (oC (oS rfl rfl (r_move (av := dv (.bool (decide ((pathE l c.f_I) = 0)))) (lt_of rfl) trivial))
                      (oC (oY (b := (decide ((pathE l c.f_I) = 0))) rfl rfl rfl rfl (lt_of rfl) (decide_eq_true hq8) (r_move (av := slV false false (k_api_Step false) (pathB l c.f_I)) (lt_of rfl) trivial))
                      (oC (oY (b := (decide ((pathE l c.f_I) = 0))) rfl rfl rfl rfl (lt_of rfl) (decide_eq_true hq8) (r_fieldAddr (l := 0) (off := 0) fld_35_3 (lt_of rfl) trivial))
                      (oC (oY (b := (decide ((pathE l c.f_I) = 0))) rfl rfl rfl rfl (lt_of rfl) (decide_eq_true hq8) (r_loadB (l := 0) (off := 3) (T := 35) (cs := [.d (dsl false false kU8 c.f_Leaf), .d (.val (.int .i64 c.f_I)), .d (.val (.int .i64 c.f_N)), .d (dsl false false (k_api_Step false) c.f_Path)]) (c := .d (dsl false false (k_api_Step false) c.f_Path)) wide_27 rfl (lt_of rfl) trivial))
                      (oC (oY (b := (decide ((pathE l c.f_I) = 0))) rfl rfl rfl rfl (lt_of rfl) (decide_eq_true hq8) (r_call (ref09_Same false false false false false false (pathB l c.f_I) c.f_Path (by first | assumption | omega | (simp only [maxLen, kU8_sz, kSl_sz, k_api_Step_sz, k_quaestorlaw09_Claim_sz]; omega) | (simp only [maxLen, kU8_sz, kSl_sz, k_api_Step_sz, k_quaestorlaw09_Claim_sz, List.length_append, List.length_cons, List.length_nil, List.length_take, List.length_drop, List.length_set]; omega) | decide)) Try.func16 rfl (by decide) [] [] (l := [(.tmp 66, slV false false (k_api_Step false) (pathB l c.f_I)), (.tmp 68, slV false false (k_api_Step false) c.f_Path)]) [] rfl 0 0 rfl rfl rfl rfl rfl rfl rfl rfl rfl ⟨.inl ⟨rfl, rfl⟩, ⟨.inl ⟨rfl, rfl⟩, trivial⟩⟩ rfl (fun b hb => by cases hb) (.inl rfl) (lt_of rfl) trivial))
                      (oC (oS rfl rfl (r_pickT (b := (decide ((pathE l c.f_I) = 0))) (av := dv (.bool (decide ((pathB l c.f_I) = c.f_Path)))) (lt_of rfl) trivial (decide_eq_true hq8)))
                      (oC (oS rfl rfl (r_move (av := dv (.bool (decide ((pathB l c.f_I) = c.f_Path)))) (lt_of rfl) trivial))
                      (oC (oY (b := (decide ((pathB l c.f_I) = c.f_Path))) rfl rfl rfl rfl (lt_of rfl) (decide_eq_true hq9) (r_call (law_awake  ) Try.func13 rfl (by decide) [] [] (l := []) [] rfl 0 0 rfl rfl rfl rfl rfl rfl rfl rfl rfl trivial rfl (fun b hb => by cases hb) (.inl rfl) (lt_of rfl) trivial))
                      (oC (oS rfl rfl (r_pickT (b := (decide ((pathB l c.f_I) = c.f_Path))) (av := dv (.bool true)) (lt_of rfl) trivial (decide_eq_true hq9)))
                      (oC (oS rfl rfl (r_assign (av := dv (.bool true)) (lt_of rfl) trivial)) (oZ rfl)))))))))))))
                      (by kernel_rfl) (by kernel_rfl) ?_
                    refine nT ?_
                    refine T.ret ?_
                    exact tE (.inl rfl) [.t 4 (.one (.d (.val (.bool true))))] ⟨⟨rfl, rfl⟩, trivial⟩ [] rfl rfl rfl rfl rfl rfl trivial
                  · exact absurd s4 hq9
                · exact absurd s5 hq8
              · exact absurd s3 hq7
      · refine T.condT (b := (!(decide (fewG szS 70 2000 c.f_Path)))) rfl (congrArg Bool.not (decide_eq_false hq3)) ?_
        refine T.seq ?_
        refine tR (s1 := ⟨[slV false false (kSl false kU8) l, .tv (.agg [.d (dsl false false kU8 c.f_Leaf), .d (.val (.int .i64 c.f_I)), .d (.val (.int .i64 c.f_N)), .d (dsl false false (k_api_Step false) c.f_Path)]), AV.any, pv 0 0, dv (.bool true), AV.any, AV.any, AV.any, AV.any, AV.any, AV.any, AV.any, AV.any, AV.any, AV.any, AV.any, AV.any, AV.any, AV.any, AV.any, AV.any, dv (.bool (!(decide (fewG szS 70 2000 c.f_Path))))], [.live (.box 35 [.d (dsl false false kU8 c.f_Leaf), .d (.val (.int .i64 c.f_I)), .d (.val (.int .i64 c.f_N)), .d (dsl false false (k_api_Step false) c.f_Path)])]⟩) [true, true, false, true, true, false, false, false, false, false, false, false, false, false, false, false, false, false, false, false, false, true] [true]
          (oC (oS rfl rfl (r_assign (av := dv (.bool true)) (lt_of rfl) ⟨rfl, trivial⟩)) (oZ rfl))
          (by kernel_rfl) (by kernel_rfl) ?_
        refine nT ?_
        refine T.ret ?_
        refine rT ?_
        exact tE (.inl rfl) [.t 4 (.one (.d (.val (.bool true))))] ⟨⟨rfl, rfl⟩, trivial⟩ [] rfl rfl rfl rfl rfl rfl trivial
  · refine tR (s1 := ⟨[slV false false (kSl false kU8) l, .tv (.agg [.d (dsl false false kU8 c.f_Leaf), .d (.val (.int .i64 c.f_I)), .d (.val (.int .i64 c.f_N)), .d (dsl false false (k_api_Step false) c.f_Path)]), AV.any, pv 0 0, dv (.bool false), AV.any, AV.any, AV.any, AV.any, AV.any, AV.any, AV.any, AV.any, AV.any, AV.any, AV.any, AV.any, AV.any, AV.any, AV.any, AV.any, dv (.bool true)], [.live (.box 35 [.d (dsl false false kU8 c.f_Leaf), .d (.val (.int .i64 c.f_I)), .d (.val (.int .i64 c.f_N)), .d (dsl false false (k_api_Step false) c.f_Path)])]⟩) [true, true, false, true, true, false, false, false, false, false, false, false, false, false, false, false, false, false, false, false, false, true] [true]
      (oC (oS rfl rfl (r_move (av := slV false false (kSl false kU8) l) (lt_of rfl) trivial))
      (oC (oS rfl rfl (r_call (law_few false false false l (by first | assumption | omega | (simp only [maxLen, kU8_sz, kSl_sz, k_api_Step_sz, k_quaestorlaw09_Claim_sz]; omega) | (simp only [maxLen, kU8_sz, kSl_sz, k_api_Step_sz, k_quaestorlaw09_Claim_sz, List.length_append, List.length_cons, List.length_nil, List.length_take, List.length_drop, List.length_set]; omega) | decide)) Try.func10 rfl (by decide) [] [] (l := [(.tmp 7, slV false false (kSl false kU8) l)]) [] rfl 0 0 rfl rfl rfl rfl rfl rfl rfl rfl rfl ⟨.inl ⟨rfl, rfl⟩, trivial⟩ rfl (fun b hb => by cases hb) (.inl rfl) (lt_of rfl) trivial))
      (oC (oS rfl rfl (r_un (u := .bool (decide (fewG szL 40 200 l))) (v := .bool (!(decide (fewG szL 40 200 l)))) u_not (lt_of rfl) trivial))
      (oC (oS rfl rfl (r_move (av := dv (.bool (!(decide (fewG szL 40 200 l))))) (lt_of rfl) trivial))
      (oC (oN (b := (!(decide (fewG szL 40 200 l)))) rfl rfl rfl rfl (lt_of rfl) (congrArg Bool.not (decide_eq_false hq1)) rfl (lt_of rfl))
      (oC (oN (b := (!(decide (fewG szL 40 200 l)))) rfl rfl rfl rfl (lt_of rfl) (congrArg Bool.not (decide_eq_false hq1)) rfl (lt_of rfl))
      (oC (oN (b := (!(decide (fewG szL 40 200 l)))) rfl rfl rfl rfl (lt_of rfl) (congrArg Bool.not (decide_eq_false hq1)) rfl (lt_of rfl))
      (oC (oN (b := (!(decide (fewG szL 40 200 l)))) rfl rfl rfl rfl (lt_of rfl) (congrArg Bool.not (decide_eq_false hq1)) rfl (lt_of rfl))
      (oC (oS rfl rfl (r_pickT (b := (!(decide (fewG szL 40 200 l)))) (av := dv (.bool true)) (lt_of rfl) ⟨rfl, trivial⟩ (congrArg Bool.not (decide_eq_false hq1))))
      (oC (oS rfl rfl (r_move (av := dv (.bool true)) (lt_of rfl) trivial))
      (oC (oN (b := true) rfl rfl rfl rfl (lt_of rfl) rfl rfl (lt_of rfl))
      (oC (oN (b := true) rfl rfl rfl rfl (lt_of rfl) rfl rfl (lt_of rfl))
      (oC (oN (b := true) rfl rfl rfl rfl (lt_of rfl) rfl rfl (lt_of rfl))
      (oC (oN (b := true) rfl rfl rfl rfl (lt_of rfl) rfl rfl (lt_of rfl))
      (oC (oS rfl rfl (r_pickT (b := true) (av := dv (.bool true)) (lt_of rfl) ⟨rfl, trivial⟩ rfl)) (oZ rfl))))))))))))))))
      (by kernel_rfl) (by kernel_rfl) ?_
    refine nT ?_
    refine T.condT (b := true) rfl rfl ?_
    refine T.seq ?_
    refine tR (s1 := ⟨[slV false false (kSl false kU8) l, .tv (.agg [.d (dsl false false kU8 c.f_Leaf), .d (.val (.int .i64 c.f_I)), .d (.val (.int .i64 c.f_N)), .d (dsl false false (k_api_Step false) c.f_Path)]), AV.any, pv 0 0, dv (.bool true), AV.any, AV.any, AV.any, AV.any, AV.any, AV.any, AV.any, AV.any, AV.any, AV.any, AV.any, AV.any, AV.any, AV.any, AV.any, AV.any, dv (.bool true)], [.live (.box 35 [.d (dsl false false kU8 c.f_Leaf), .d (.val (.int .i64 c.f_I)), .d (.val (.int .i64 c.f_N)), .d (dsl false false (k_api_Step false) c.f_Path)])]⟩) [true, true, false, true, true, false, false, false, false, false, false, false, false, false, false, false, false, false, false, false, false, true] [true]
      (oC (oS rfl rfl (r_assign (av := dv (.bool true)) (lt_of rfl) ⟨rfl, trivial⟩)) (oZ rfl))
      (by kernel_rfl) (by kernel_rfl) ?_
    refine nT ?_
    refine T.ret ?_
    refine rT ?_
    exact tE (.inl rfl) [.t 4 (.one (.d (.val (.bool true))))] ⟨⟨rfl, rfl⟩, trivial⟩ [] rfl rfl rfl rfl rfl rfl trivial
end Go.Proofs.Ytcpdbbabbnbghaa.Q
