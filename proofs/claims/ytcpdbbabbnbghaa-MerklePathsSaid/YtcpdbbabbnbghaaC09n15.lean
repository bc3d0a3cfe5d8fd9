import Derived.Test.YtcpdbbabbnbghaaC09n8
namespace Go.Proofs.Ytcpdbbabbnbghaa.Q
open Go Go.RowKit
set_option linter.unusedVariables false
set_option linter.unusedSimpArgs false
set_option maxRecDepth 100000
set_option maxHeartbeats 4000000
-- quaestor/quaestorlaw09.MerklePaths
theorem law_MerklePaths (l : List (List UInt8)) (i : Int) (hl : l.length ≤ 9223372036854775807) (hi : -9223372036854775808 ≤ i ∧ i ≤ 9223372036854775807) : Holds Try.prog 4 ⟨[slV false false (kSl false kU8) l, dv (.int .i64 i)], [], dv (.bool true), []⟩ := by
  refine Holds.of Try.func4 rfl (N := 35) Try.ntmps4 rfl fun w0 B0 S0 U0 => ?_
  show T _ (mkBase 35 0 w0 S0 U0 B0) ⟨[slV false false (kSl false kU8) l, dv (.int .i64 i)], []⟩ _ _
  refine T.seq ?_
  refine tR (s1 := ⟨[slV false false (kSl false kU8) l, dv (.int .i64 i), AV.any, AV.any, dv (.bool false)], []⟩) [true, true, false, false, true] []
    (oC (oS rfl rfl (r_assign (av := dv (.bool false)) (lt_of rfl) ⟨rfl, trivial⟩)) (oZ rfl))
    (by kernel_rfl) (by kernel_rfl) ?_
  refine nT ?_
  refine T.seq ?_
  refine T.seq ?_
  refine tR (s1 := ⟨[slV false false (kSl false kU8) l, dv (.int .i64 i), AV.any, AV.any, dv (.bool false), AV.any, AV.any, AV.any, AV.any, AV.any, AV.any, dv (.bool (!(decide (fewG szL 40 200 l))))], []⟩) [true, true, false, false, true, false, false, false, false, false, false, true] []
    (oC (oS rfl rfl (r_move (av := slV false false (kSl false kU8) l) (lt_of rfl) trivial))
    (oC (oS rfl rfl (r_call (law_few false false false l (by first | assumption | omega | (simp only [maxLen, kU8_sz, kSl_sz, k_api_Step_sz, k_quaestorlaw09_Claim_sz]; omega) | (simp only [maxLen, kU8_sz, kSl_sz, k_api_Step_sz, k_quaestorlaw09_Claim_sz, List.length_append, List.length_cons, List.length_nil, List.length_take, List.length_drop, List.length_set]; omega) | decide)) Try.func10 rfl (by decide) [] [] (l := [(.tmp 9, slV false false (kSl false kU8) l)]) [] rfl 0 0 rfl rfl rfl rfl rfl rfl rfl rfl rfl ⟨.inl ⟨rfl, rfl⟩, trivial⟩ rfl (fun b hb => by cases hb) (.inl rfl) (lt_of rfl) trivial))
    (oC (oS rfl rfl (r_un (u := .bool (decide (fewG szL 40 200 l))) (v := .bool (!(decide (fewG szL 40 200 l)))) u_not (lt_of rfl) trivial)) (oZ rfl))))
    (by kernel_rfl) (by kernel_rfl) ?_
  refine nT ?_
  by_cases hq1 : fewG szL 40 200 l
  · have hf := hq1; have hl40 := hf.1; have hpl9 : (pathB l i).length ≤ 70 := (few_path hf i).1
    refine T.condF (b := (!(decide (fewG szL 40 200 l)))) rfl (congrArg Bool.not (decide_eq_true hq1)) ?_
    refine T.skip ?_
    refine nT ?_
    refine T.seq ?_
    refine tR (s1 := ⟨[slV false false (kSl false kU8) l, dv (.int .i64 i), AV.any, AV.any, dv (.bool false), slV false false (k_api_Step false) (pathB l i), dv (.int .i64 (pathE l i)), AV.any, AV.any, AV.any, AV.any, dv (.bool (!(decide (fewG szL 40 200 l))))], []⟩) [true, true, false, false, true, true, true, false, false, false, false, true] []
      (oC (oS rfl rfl (r_move (av := slV false false (kSl false kU8) l) (lt_of rfl) trivial))
      (oC (oS rfl rfl (r_move (av := dv (.int .i64 i)) (lt_of rfl) trivial))
      (oC (oS rfl rfl (r_call (merkle_Path false false false l i (by first | assumption | exact fewG_take (by assumption) _ | exact fewG_drop (by assumption) _ | exact fewG_set (by assumption) (by assumption) | decide)) Try.func14 rfl (by decide) [] [] (l := [(.tmp 13, slV false false (kSl false kU8) l), (.tmp 14, dv (.int .i64 i))]) [] rfl 0 0 rfl rfl rfl rfl rfl rfl rfl rfl rfl ⟨.inl ⟨rfl, rfl⟩, ⟨.inl ⟨rfl, rfl⟩, trivial⟩⟩ rfl (fun b hb => by cases hb) (.inl rfl) (lt_of rfl) trivial))
      (oC (oS rfl rfl (r_move (av := .tup [.one (.d (dsl false false (k_api_Step false) (pathB l i))), .one (.d (.val (.int .i64 (pathE l i))))]) (lt_of rfl) trivial))
      (oC (oS rfl rfl (r_extract (l := [.one (.d (dsl false false (k_api_Step false) (pathB l i))), .one (.d (.val (.int .i64 (pathE l i))))]) (tv := .one (.d (dsl false false (k_api_Step false) (pathB l i)))) rfl (lt_of rfl) trivial))
      (oC (oS rfl rfl (r_extract (l := [.one (.d (dsl false false (k_api_Step false) (pathB l i))), .one (.d (.val (.int .i64 (pathE l i))))]) (tv := .one (.d (.val (.int .i64 (pathE l i))))) rfl (lt_of rfl) trivial))
      (oC (oS rfl rfl (r_assign (av := slV false false (k_api_Step false) (pathB l i)) (lt_of rfl) trivial))
      (oC (oS rfl rfl (r_assign (av := dv (.int .i64 (pathE l i))) (lt_of rfl) trivial)) (oZ rfl)))))))))
      (by kernel_rfl) (by kernel_rfl) ?_
    refine nT ?_
    refine T.seq ?_
    refine tR (s1 := ⟨[slV false false (kSl false kU8) l, dv (.int .i64 i), AV.any, AV.any, dv (.bool false), slV false false (k_api_Step false) (pathB l i), dv (.int .i64 (pathE l i)), slV false false (k_api_Step false) (pathB l i), dv (.int .i64 (pathE l i)), AV.any, AV.any, dv (.bool (!(decide (fewG szL 40 200 l))))], []⟩) [true, true, false, false, true, true, true, true, true, false, false, true] []
      (oC (oS rfl rfl (r_move (av := slV false false (kSl false kU8) l) (lt_of rfl) trivial))
      (oC (oS rfl rfl (r_move (av := dv (.int .i64 i)) (lt_of rfl) trivial))
      (oC (oS rfl rfl (r_call (ref09_Path false false false l i (by first | assumption | exact fewG_take (by assumption) _ | exact fewG_drop (by assumption) _ | exact fewG_set (by assumption) (by assumption) | decide)) Try.func15 rfl (by decide) [] [] (l := [(.tmp 19, slV false false (kSl false kU8) l), (.tmp 20, dv (.int .i64 i))]) [] rfl 0 0 rfl rfl rfl rfl rfl rfl rfl rfl rfl ⟨.inl ⟨rfl, rfl⟩, ⟨.inl ⟨rfl, rfl⟩, trivial⟩⟩ rfl (fun b hb => by cases hb) (.inl rfl) (lt_of rfl) trivial))
      (oC (oS rfl rfl (r_move (av := .tup [.one (.d (dsl false false (k_api_Step false) (pathB l i))), .one (.d (.val (.int .i64 (pathE l i))))]) (lt_of rfl) trivial))
      (oC (oS rfl rfl (r_extract (l := [.one (.d (dsl false false (k_api_Step false) (pathB l i))), .one (.d (.val (.int .i64 (pathE l i))))]) (tv := .one (.d (dsl false false (k_api_Step false) (pathB l i)))) rfl (lt_of rfl) trivial))
      (oC (oS rfl rfl (r_extract (l := [.one (.d (dsl false false (k_api_Step false) (pathB l i))), .one (.d (.val (.int .i64 (pathE l i))))]) (tv := .one (.d (.val (.int .i64 (pathE l i))))) rfl (lt_of rfl) trivial))
      (oC (oS rfl rfl (r_assign (av := slV false false (k_api_Step false) (pathB l i)) (lt_of rfl) trivial))
      (oC (oS rfl rfl (r_assign (av := dv (.int .i64 (pathE l i))) (lt_of rfl) trivial)) (oZ rfl)))))))))
      (by kernel_rfl) (by kernel_rfl) ?_
    refine nT ?_
    refine T.seq ?_
    refine tR (s1 := ⟨[slV false false (kSl false kU8) l, dv (.int .i64 i), AV.any, AV.any, dv (.bool true), slV false false (k_api_Step false) (pathB l i), dv (.int .i64 (pathE l i)), slV false false (k_api_Step false) (pathB l i), dv (.int .i64 (pathE l i)), AV.any, AV.any, dv (.bool (!(decide (fewG szL 40 200 l))))], []⟩) [true, true, false, false, true, true, true, true, true, false, false, true] []
      (oC (oS rfl rfl (r_move (av := slV false false (k_api_Step false) (pathB l i)) (lt_of rfl) trivial))
      (oC (oS rfl rfl (r_move (av := slV false false (k_api_Step false) (pathB l i)) (lt_of rfl) trivial))
      (oC (oS rfl rfl (r_call (ref09_Same false false false false false false (pathB l i) (pathB l i) (by first | assumption | omega | (simp only [maxLen, kU8_sz, kSl_sz, k_api_Step_sz, k_quaestorlaw09_Claim_sz]; omega) | (simp only [maxLen, kU8_sz, kSl_sz, k_api_Step_sz, k_quaestorlaw09_Claim_sz, List.length_append, List.length_cons, List.length_nil, List.length_take, List.length_drop, List.length_set]; omega) | decide)) Try.func16 rfl (by decide) [] [] (l := [(.tmp 24, slV false false (k_api_Step false) (pathB l i)), (.tmp 25, slV false false (k_api_Step false) (pathB l i))]) [] rfl 0 0 rfl rfl rfl rfl rfl rfl rfl rfl rfl ⟨.inl ⟨rfl, rfl⟩, ⟨.inl ⟨rfl, rfl⟩, trivial⟩⟩ rfl (fun b hb => by cases hb) (.inl rfl) (lt_of rfl) trivial))
      (oC (oS rfl rfl (r_move (av := dv (.bool (decide ((pathB l i) = (pathB l i))))) (lt_of rfl) trivial))
      (oC (oY (b := (decide ((pathB l i) = (pathB l i)))) rfl rfl rfl rfl (lt_of rfl) (decide_eq_true (Eq.refl _)) (r_move (av := dv (.int .i64 (pathE l i))) (lt_of rfl) trivial))
      (oC (oY (b := (decide ((pathB l i) = (pathB l i)))) rfl rfl rfl rfl (lt_of rfl) (decide_eq_true (Eq.refl _)) (r_move (av := dv (.int .i64 (pathE l i))) (lt_of rfl) trivial))
      (oC (oY (b := (decide ((pathB l i) = (pathB l i)))) rfl rfl rfl rfl (lt_of rfl) (decide_eq_true (Eq.refl _)) (r_bin (u1 := .int .i64 (pathE l i)) (u2 := .int .i64 (pathE l i)) (v := .bool (decide ((pathE l i) = (pathE l i)))) b_eql (lt_of rfl) trivial))
      (oC (oS rfl rfl (r_pickT (b := (decide ((pathB l i) = (pathB l i)))) (av := dv (.bool (decide ((pathE l i) = (pathE l i))))) (lt_of rfl) trivial (decide_eq_true (Eq.refl _))))
      (oC (oS rfl rfl (r_move (av := dv (.bool (decide ((pathE l i) = (pathE l i))))) (lt_of rfl) trivial))
      (oC (oY (b := (decide ((pathE l i) = (pathE l i)))) rfl rfl rfl rfl (lt_of rfl) (decide_eq_true (Eq.refl _)) (r_call (law_awake  ) Try.func13 rfl (by decide) [] [] (l := []) [] rfl 0 0 rfl rfl rfl rfl rfl rfl rfl rfl rfl trivial rfl (fun b hb => by cases hb) (.inl rfl) (lt_of rfl) trivial))
      (oC (oS rfl rfl (r_pickT (b := (decide ((pathE l i) = (pathE l i)))) (av := dv (.bool true)) (lt_of rfl) trivial (decide_eq_true (Eq.refl _))))
      (oC (oS rfl rfl (r_assign (av := dv (.bool true)) (lt_of rfl) trivial)) (oZ rfl)))))))))))))
      (by kernel_rfl) (by kernel_rfl) ?_
    refine nT ?_
    refine T.ret ?_
    exact tE (.inl rfl) [.t 4 (.one (.d (.val (.bool true))))] ⟨⟨rfl, rfl⟩, trivial⟩ [] rfl rfl rfl rfl rfl rfl trivial
  · refine T.condT (b := (!(decide (fewG szL 40 200 l)))) rfl (congrArg Bool.not (decide_eq_false hq1)) ?_
    refine T.seq ?_
    refine tR (s1 := ⟨[slV false false (kSl false kU8) l, dv (.int .i64 i), AV.any, AV.any, dv (.bool true), AV.any, AV.any, AV.any, AV.any, AV.any, AV.any, dv (.bool (!(decide (fewG szL 40 200 l))))], []⟩) [true, true, false, false, true, false, false, false, false, false, false, true] []
      (oC (oS rfl rfl (r_assign (av := dv (.bool true)) (lt_of rfl) ⟨rfl, trivial⟩)) (oZ rfl))
      (by kernel_rfl) (by kernel_rfl) ?_
    refine nT ?_
    refine T.ret ?_
    refine rT ?_
    exact tE (.inl rfl) [.t 4 (.one (.d (.val (.bool true))))] ⟨⟨rfl, rfl⟩, trivial⟩ [] rfl rfl rfl rfl rfl rfl trivial
end Go.Proofs.Ytcpdbbabbnbghaa.Q
