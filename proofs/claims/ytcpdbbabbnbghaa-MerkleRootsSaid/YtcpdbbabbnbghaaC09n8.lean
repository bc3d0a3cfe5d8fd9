import Derived.Test.YtcpdbbabbnbghaaC09n7
namespace Go.Proofs.Ytcpdbbabbnbghaa.Q
open Go Go.RowKit
set_option linter.unusedVariables false
set_option linter.unusedSimpArgs false
set_option maxRecDepth 100000
set_option maxHeartbeats 4000000
-- quaestor/quaestorlaw09.MerkleRoots
theorem law_MerkleRoots (l : List (List UInt8)) (hl : l.length ≤ 9223372036854775807) : Holds Try.prog 3 ⟨[slV false false (kSl false kU8) l], [], dv (.bool true), []⟩ := by
  refine Holds.of Try.func3 rfl (N := 14) Try.ntmps3 rfl fun w0 B0 S0 U0 => ?_
  show T _ (mkBase 14 0 w0 S0 U0 B0) ⟨[slV false false (kSl false kU8) l], []⟩ _ _
  refine T.seq ?_
  refine tR (s1 := ⟨[slV false false (kSl false kU8) l, AV.any, dv (.bool false)], []⟩) [true, false, true] []
    (oC (oS rfl rfl (r_assign (av := dv (.bool false)) (lt_of rfl) ⟨rfl, trivial⟩)) (oZ rfl))
    (by kernel_rfl) (by kernel_rfl) ?_
  refine nT ?_
  refine T.seq ?_
  refine T.seq ?_
  refine tR (s1 := ⟨[slV false false (kSl false kU8) l, AV.any, dv (.bool false), AV.any, AV.any, dv (.bool (!(decide (fewG szL 40 200 l))))], []⟩) [true, false, true, false, false, true] []
    (oC (oS rfl rfl (r_move (av := slV false false (kSl false kU8) l) (lt_of rfl) trivial))
    (oC (oS rfl rfl (r_call (law_few false false false l (by first | assumption | omega | (simp only [maxLen, kU8_sz, kSl_sz, k_api_Step_sz, k_quaestorlaw09_Claim_sz]; omega) | (simp only [maxLen, kU8_sz, kSl_sz, k_api_Step_sz, k_quaestorlaw09_Claim_sz, List.length_append, List.length_cons, List.length_nil, List.length_take, List.length_drop, List.length_set]; omega) | decide)) Try.func10 rfl (by decide) [] [] (l := [(.tmp 3, slV false false (kSl false kU8) l)]) [] rfl 0 0 rfl rfl rfl rfl rfl rfl rfl rfl rfl ⟨.inl ⟨rfl, rfl⟩, trivial⟩ rfl (fun b hb => by cases hb) (.inl rfl) (lt_of rfl) trivial))
    (oC (oS rfl rfl (r_un (u := .bool (decide (fewG szL 40 200 l))) (v := .bool (!(decide (fewG szL 40 200 l)))) u_not (lt_of rfl) trivial)) (oZ rfl))))
    (by kernel_rfl) (by kernel_rfl) ?_
  refine nT ?_
  by_cases hq1 : fewG szL 40 200 l
  · refine T.condF (b := (!(decide (fewG szL 40 200 l)))) rfl (congrArg Bool.not (decide_eq_true hq1)) ?_
    refine T.skip ?_
    refine nT ?_
    refine T.seq ?_
    refine tR (s1 := ⟨[slV false false (kSl false kU8) l, AV.any, dv (.bool true), AV.any, AV.any, dv (.bool (!(decide (fewG szL 40 200 l))))], []⟩) [true, false, true, false, false, true] []
      (oC (oS rfl rfl (r_move (av := slV false false (kSl false kU8) l) (lt_of rfl) trivial))
      (oC (oS rfl rfl (r_call (merkle_Root false false false l (by first | assumption | exact fewG_take (by assumption) _ | exact fewG_drop (by assumption) _ | exact fewG_set (by assumption) (by assumption) | decide)) Try.func11 rfl (by decide) [] [] (l := [(.tmp 6, slV false false (kSl false kU8) l)]) [] rfl 0 0 rfl rfl rfl rfl rfl rfl rfl rfl rfl ⟨.inl ⟨rfl, rfl⟩, trivial⟩ rfl (fun b hb => by cases hb) (.inl rfl) (lt_of rfl) trivial))
      (oC (oS rfl rfl (r_move (av := slV false false (kSl false kU8) l) (lt_of rfl) trivial))
      (oC (oS rfl rfl (r_call (ref09_Root false false false l (by first | assumption | exact fewG_take (by assumption) _ | exact fewG_drop (by assumption) _ | exact fewG_set (by assumption) (by assumption) | decide)) Try.func12 rfl (by decide) [] [] (l := [(.tmp 8, slV false false (kSl false kU8) l)]) [] rfl 0 0 rfl rfl rfl rfl rfl rfl rfl rfl rfl ⟨.inl ⟨rfl, rfl⟩, trivial⟩ rfl (fun b hb => by cases hb) (.inl rfl) (lt_of rfl) trivial))
      (oC (oS rfl rfl (r_bin (u1 := strV (rootB l)) (u2 := strV (rootB l)) (v := .bool (decide ((rootB l) = (rootB l)))) b_eqlS (lt_of rfl) trivial))
      (oC (oS rfl rfl (r_move (av := dv (.bool (decide ((rootB l) = (rootB l))))) (lt_of rfl) trivial))
      (oC (oY (b := (decide ((rootB l) = (rootB l)))) rfl rfl rfl rfl (lt_of rfl) (decide_eq_true (Eq.refl _)) (r_call (law_awake  ) Try.func13 rfl (by decide) [] [] (l := []) [] rfl 0 0 rfl rfl rfl rfl rfl rfl rfl rfl rfl trivial rfl (fun b hb => by cases hb) (.inl rfl) (lt_of rfl) trivial))
      (oC (oS rfl rfl (r_pickT (b := (decide ((rootB l) = (rootB l)))) (av := dv (.bool true)) (lt_of rfl) trivial (decide_eq_true (Eq.refl _))))
      (oC (oS rfl rfl (r_assign (av := dv (.bool true)) (lt_of rfl) trivial)) (oZ rfl))))))))))
      (by kernel_rfl) (by kernel_rfl) ?_
    refine nT ?_
    refine T.ret ?_
    exact tE (.inl rfl) [.t 2 (.one (.d (.val (.bool true))))] ⟨⟨rfl, rfl⟩, trivial⟩ [] rfl rfl rfl rfl rfl rfl trivial
  · refine T.condT (b := (!(decide (fewG szL 40 200 l)))) rfl (congrArg Bool.not (decide_eq_false hq1)) ?_
    refine T.seq ?_
    refine tR (s1 := ⟨[slV false false (kSl false kU8) l, AV.any, dv (.bool true), AV.any, AV.any, dv (.bool (!(decide (fewG szL 40 200 l))))], []⟩) [true, false, true, false, false, true] []
      (oC (oS rfl rfl (r_assign (av := dv (.bool true)) (lt_of rfl) ⟨rfl, trivial⟩)) (oZ rfl))
      (by kernel_rfl) (by kernel_rfl) ?_
    refine nT ?_
    refine T.ret ?_
    refine rT ?_
    exact tE (.inl rfl) [.t 2 (.one (.d (.val (.bool true))))] ⟨⟨rfl, rfl⟩, trivial⟩ [] rfl rfl rfl rfl rfl rfl trivial
end Go.Proofs.Ytcpdbbabbnbghaa.Q
