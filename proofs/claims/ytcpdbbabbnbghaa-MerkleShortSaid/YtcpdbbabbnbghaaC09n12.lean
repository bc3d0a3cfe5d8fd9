import Derived.Test.YtcpdbbabbnbghaaC09n8
namespace Go.Proofs.Ytcpdbbabbnbghaa.Q
open Go Go.RowKit
set_option linter.unusedVariables false
set_option linter.unusedSimpArgs false
set_option maxRecDepth 100000
set_option maxHeartbeats 4000000
-- quaestor/quaestorlaw09.MerkleShort
theorem law_MerkleShort (l : List (List UInt8)) (at_ : Int) (hl : l.length ≤ 9223372036854775807) : Holds Try.prog 9 ⟨[slV false false (kSl false kU8) l, dv (.int .i64 at_)], [], dv (.bool true), []⟩ := by
  refine Holds.of Try.func9 rfl (N := 65) Try.ntmps9 rfl fun w0 B0 S0 U0 => ?_
  show T _ (mkBase 65 0 w0 S0 U0 B0) ⟨[slV false false (kSl false kU8) l, dv (.int .i64 at_)], []⟩ _ _
  refine T.seq ?_
  refine tR (s1 := ⟨[slV false false (kSl false kU8) l, dv (.int .i64 at_), AV.any, AV.any, dv (.bool false)], []⟩) [true, true, false, false, true] []
    (oC (oS rfl rfl (r_assign (av := dv (.bool false)) (lt_of rfl) ⟨rfl, trivial⟩)) (oZ rfl))
    (by kernel_rfl) (by kernel_rfl) ?_
  refine nT ?_
  refine T.seq ?_
  refine T.seq ?_
  by_cases hq1 : fewG szL 40 200 l
  · have hf := hq1; have hl40 := hf.1
    refine tR (s1 := ⟨[slV false false (kSl false kU8) l, dv (.int .i64 at_), AV.any, AV.any, dv (.bool false), AV.any, AV.any, AV.any, AV.any, AV.any, AV.any, AV.any, AV.any, AV.any, AV.any, AV.any, dv (.bool (decide (((l.length : Nat) : Int) = 0)))], []⟩) [true, true, false, false, true, false, false, false, false, false, false, false, false, false, false, false, true] []
      (oC (oS rfl rfl (r_move (av := slV false false (kSl false kU8) l) (lt_of rfl) trivial))
      (oC (oS rfl rfl (r_call (law_few false false false l (by first | assumption | omega | (simp only [maxLen, kU8_sz, kSl_sz, k_api_Step_sz, k_quaestorlaw09_Claim_sz]; omega) | (simp only [maxLen, kU8_sz, kSl_sz, k_api_Step_sz, k_quaestorlaw09_Claim_sz, List.length_append, List.length_cons, List.length_nil, List.length_take, List.length_drop, List.length_set]; omega) | decide)) Try.func10 rfl (by decide) [] [] (l := [(.tmp 9, slV false false (kSl false kU8) l)]) [] rfl 0 0 rfl rfl rfl rfl rfl rfl rfl rfl rfl ⟨.inl ⟨rfl, rfl⟩, trivial⟩ rfl (fun b hb => by cases hb) (.inl rfl) (lt_of rfl) trivial))
      (oC (oS rfl rfl (r_un (u := .bool (decide (fewG szL 40 200 l))) (v := .bool (!(decide (fewG szL 40 200 l)))) u_not (lt_of rfl) trivial))
      (oC (oS rfl rfl (r_move (av := dv (.bool (!(decide (fewG szL 40 200 l))))) (lt_of rfl) trivial))
      (oC (oY (b := (!(decide (fewG szL 40 200 l)))) rfl rfl rfl rfl (lt_of rfl) (congrArg Bool.not (decide_eq_true hq1)) (r_move (av := slV false false (kSl false kU8) l) (lt_of rfl) trivial))
      (oC (oY (b := (!(decide (fewG szL 40 200 l)))) rfl rfl rfl rfl (lt_of rfl) (congrArg Bool.not (decide_eq_true hq1)) (q_len false false (kSl false kU8) l Try.underlying22 (lt_of rfl) trivial))
      (oC (oY (b := (!(decide (fewG szL 40 200 l)))) rfl rfl rfl rfl (lt_of rfl) (congrArg Bool.not (decide_eq_true hq1)) (r_bin (u1 := .int .i64 ((l.length : Nat) : Int)) (u2 := .int .i64 0) (v := .bool (decide (((l.length : Nat) : Int) = 0))) b_eql (lt_of rfl) ⟨rfl, trivial⟩))
      (oC (oS rfl rfl (r_pickF (b := (!(decide (fewG szL 40 200 l)))) (av := dv (.bool (decide (((l.length : Nat) : Int) = 0)))) (lt_of rfl) trivial (congrArg Bool.not (decide_eq_true hq1)))) (oZ rfl)))))))))
      (by kernel_rfl) (by kernel_rfl) ?_
    refine nT ?_
    by_cases hq2 : ((l.length : Nat) : Int) = 0
    · refine T.condT (b := (decide (((l.length : Nat) : Int) = 0))) rfl (decide_eq_true hq2) ?_
      refine T.seq ?_
      refine tR (s1 := ⟨[slV false false (kSl false kU8) l, dv (.int .i64 at_), AV.any, AV.any, dv (.bool true), AV.any, AV.any, AV.any, AV.any, AV.any, AV.any, AV.any, AV.any, AV.any, AV.any, AV.any, dv (.bool (decide (((l.length : Nat) : Int) = 0)))], []⟩) [true, true, false, false, true, false, false, false, false, false, false, false, false, false, false, false, true] []
        (oC (oS rfl rfl (r_call (law_awake  ) Try.func13 rfl (by decide) [] [] (l := []) [] rfl 0 0 rfl rfl rfl rfl rfl rfl rfl rfl rfl trivial rfl (fun b hb => by cases hb) (.inl rfl) (lt_of rfl) trivial))
        (oC (oS rfl rfl (r_assign (av := dv (.bool true)) (lt_of rfl) trivial)) (oZ rfl)))
        (by kernel_rfl) (by kernel_rfl) ?_
      refine nT ?_
      refine T.ret ?_
      refine rT ?_
      exact tE (.inl rfl) [.t 4 (.one (.d (.val (.bool true))))] ⟨⟨rfl, rfl⟩, trivial⟩ [] rfl rfl rfl rfl rfl rfl trivial
    · have hbd := tmod_bd (a := at_) (b := ((l.length : Nat) : Int)) (by omega)
      refine T.condF (b := (decide (((l.length : Nat) : Int) = 0))) rfl (decide_eq_false hq2) ?_
      refine T.skip ?_
      refine nT ?_
      refine T.seq ?_
      refine tR (s1 := ⟨[slV false false (kSl false kU8) l, dv (.int .i64 (((Int.tmod at_ ((l.length : Nat) : Int)) + ((l.length : Nat) : Int)) % ((l.length : Nat) : Int))), AV.any, AV.any, dv (.bool false), AV.any, AV.any, AV.any, AV.any, AV.any, AV.any, AV.any, AV.any, AV.any, AV.any, AV.any, dv (.bool (decide (((l.length : Nat) : Int) = 0)))], []⟩) [true, true, false, false, true, false, false, false, false, false, false, false, false, false, false, false, true] []
        (oC (oS rfl rfl (r_move (av := dv (.int .i64 at_)) (lt_of rfl) trivial))
        (oC (oS rfl rfl (r_move (av := slV false false (kSl false kU8) l) (lt_of rfl) trivial))
        (oC (oS rfl rfl (q_len false false (kSl false kU8) l Try.underlying22 (lt_of rfl) trivial))
        (oC (oS rfl rfl (r_bin (u1 := .int .i64 at_) (u2 := .int .i64 ((l.length : Nat) : Int)) (v := .int .i64 (Int.tmod at_ ((l.length : Nat) : Int))) (b_rem (by omega) rfl) (lt_of rfl) trivial))
        (oC (oS rfl rfl (r_move (av := slV false false (kSl false kU8) l) (lt_of rfl) trivial))
        (oC (oS rfl rfl (q_len false false (kSl false kU8) l Try.underlying22 (lt_of rfl) trivial))
        (oC (oS rfl rfl (r_bin (u1 := .int .i64 (Int.tmod at_ ((l.length : Nat) : Int))) (u2 := .int .i64 ((l.length : Nat) : Int)) (v := .int .i64 ((Int.tmod at_ ((l.length : Nat) : Int)) + ((l.length : Nat) : Int))) (b_add (by rw [IntKind.wrap_i64]; omega)) (lt_of rfl) trivial))
        (oC (oS rfl rfl (r_move (av := slV false false (kSl false kU8) l) (lt_of rfl) trivial))
        (oC (oS rfl rfl (q_len false false (kSl false kU8) l Try.underlying22 (lt_of rfl) trivial))
        (oC (oS rfl rfl (r_bin (u1 := .int .i64 ((Int.tmod at_ ((l.length : Nat) : Int)) + ((l.length : Nat) : Int))) (u2 := .int .i64 ((l.length : Nat) : Int)) (v := .int .i64 (((Int.tmod at_ ((l.length : Nat) : Int)) + ((l.length : Nat) : Int)) % ((l.length : Nat) : Int))) (b_remP (by first | assumption | omega | (simp only [maxLen, kU8_sz, kSl_sz, k_api_Step_sz, k_quaestorlaw09_Claim_sz]; omega) | (simp only [maxLen, kU8_sz, kSl_sz, k_api_Step_sz, k_quaestorlaw09_Claim_sz, List.length_append, List.length_cons, List.length_nil, List.length_take, List.length_drop, List.length_set]; omega) | decide) (by first | assumption | omega | (simp only [maxLen, kU8_sz, kSl_sz, k_api_Step_sz, k_quaestorlaw09_Claim_sz]; omega) | (simp only [maxLen, kU8_sz, kSl_sz, k_api_Step_sz, k_quaestorlaw09_Claim_sz, List.length_append, List.length_cons, List.length_nil, List.length_take, List.length_drop, List.length_set]; omega) | decide)) (lt_of rfl) trivial))
        (oC (oS rfl rfl (r_assign (av := dv (.int .i64 (((Int.tmod at_ ((l.length : Nat) : Int)) + ((l.length : Nat) : Int)) % ((l.length : Nat) : Int)))) (lt_of rfl) trivial)) (oZ rfl))))))))))))
        (by kernel_rfl) (by kernel_rfl) ?_
      refine nT ?_
      refine T.seq ?_
      have hml : 0 < ((l.length : Nat) : Int) := by omega
      have hmb := Int.emod_lt_of_pos (Int.tmod at_ ((l.length : Nat) : Int) + ((l.length : Nat) : Int)) hml
      have hmn := Int.emod_nonneg (Int.tmod at_ ((l.length : Nat) : Int) + ((l.length : Nat) : Int)) (show ((l.length : Nat) : Int) ≠ 0 by omega)
      obtain ⟨j, hjE, hj⟩ : ∃ j : Nat, ((Int.tmod at_ ((l.length : Nat) : Int) + ((l.length : Nat) : Int)) % ((l.length : Nat) : Int)) = ((j : Nat) : Int) ∧ j < l.length := ⟨((Int.tmod at_ ((l.length : Nat) : Int) + ((l.length : Nat) : Int)) % ((l.length : Nat) : Int)).toNat, by omega, by omega⟩
      refine T.turn (s' := ⟨[slV false false (kSl false kU8) l, dv (.int .i64 ((j : Nat) : Int)), AV.any, AV.any, dv (.bool false), AV.any, AV.any, AV.any, AV.any, AV.any, AV.any, AV.any, AV.any, AV.any, AV.any, AV.any, dv (.bool (decide (((l.length : Nat) : Int) = 0)))], []⟩) (fun _ _ hG => Gs.into2 (s := ⟨[slV false false (kSl false kU8) l, dv (.int .i64 (((Int.tmod at_ ((l.length : Nat) : Int)) + ((l.length : Nat) : Int)) % ((l.length : Nat) : Int))), AV.any, AV.any, dv (.bool false), AV.any, AV.any, AV.any, AV.any, AV.any, AV.any, AV.any, AV.any, AV.any, AV.any, AV.any, dv (.bool (decide (((l.length : Nat) : Int) = 0)))], []⟩) (s' := ⟨[slV false false (kSl false kU8) l, dv (.int .i64 ((j : Nat) : Int)), AV.any, AV.any, dv (.bool false), AV.any, AV.any, AV.any, AV.any, AV.any, AV.any, AV.any, AV.any, AV.any, AV.any, AV.any, dv (.bool (decide (((l.length : Nat) : Int) = 0)))], []⟩) [] [true, true, false, false, true, false, false, false, false, false, false, false, false, false, false, false, true] (t1 := [slV false false (kSl false kU8) l, dv (.int .i64 ((j : Nat) : Int)), AV.any, AV.any, dv (.bool false), AV.any, AV.any, AV.any, AV.any, AV.any, AV.any, AV.any, AV.any, AV.any, AV.any, AV.any, dv (.bool (decide (((l.length : Nat) : Int) = 0)))]) (t2 := [slV false false (kSl false kU8) l, dv (.int .i64 (((Int.tmod at_ ((l.length : Nat) : Int)) + ((l.length : Nat) : Int)) % ((l.length : Nat) : Int))), AV.any, AV.any, dv (.bool false), AV.any, AV.any, AV.any, AV.any, AV.any, AV.any, AV.any, AV.any, AV.any, AV.any, AV.any, dv (.bool (decide (((l.length : Nat) : Int) = 0)))]) (h1 := []) (h2 := []) (by have e1 : (((j : Nat) : Int) : Int) = ((Int.tmod at_ ((l.length : Nat) : Int)) + ((l.length : Nat) : Int)) % ((l.length : Nat) : Int) := (by omega); have hE := congrArg (fun (q1 : Int) => ([slV false false (kSl false kU8) l, dv (.int .i64 q1), AV.any, AV.any, dv (.bool false), AV.any, AV.any, AV.any, AV.any, AV.any, AV.any, AV.any, AV.any, AV.any, AV.any, AV.any, dv (.bool (decide (((l.length : Nat) : Int) = 0)))] : List AV)) e1; exact hE) rfl (by kernel_rfl) (by kernel_rfl) (by kernel_rfl) (by kernel_rfl) (by kernel_rfl) (by kernel_rfl) (by kernel_rfl) (by kernel_rfl) (by kernel_rfl) (by kernel_rfl) (by kernel_rfl) hG) ?_
      refine tR (s1 := ⟨[slV false false (kSl false kU8) l, dv (.int .i64 ((j : Nat) : Int)), AV.any, AV.any, dv (.bool false), slV false false (k_api_Step false) (pathB l ((j : Nat) : Int)), dv (.int .i64 (pathE l ((j : Nat) : Int))), AV.any, AV.any, AV.any, AV.any, AV.any, AV.any, AV.any, AV.any, AV.any, dv (.bool (decide (((l.length : Nat) : Int) = 0)))], []⟩) [true, true, false, false, true, true, true, false, false, false, false, false, false, false, false, false, true] []
        (oC (oS rfl rfl (r_move (av := slV false false (kSl false kU8) l) (lt_of rfl) trivial))
        (oC (oS rfl rfl (r_move (av := dv (.int .i64 ((j : Nat) : Int))) (lt_of rfl) trivial))
        (oC (oS rfl rfl (r_call (merkle_Path false false false l ((j : Nat) : Int) (by first | assumption | exact fewG_take (by assumption) _ | exact fewG_drop (by assumption) _ | exact fewG_set (by assumption) (by assumption) | decide)) Try.func14 rfl (by decide) [] [] (l := [(.tmp 29, slV false false (kSl false kU8) l), (.tmp 30, dv (.int .i64 ((j : Nat) : Int)))]) [] rfl 0 0 rfl rfl rfl rfl rfl rfl rfl rfl rfl ⟨.inl ⟨rfl, rfl⟩, ⟨.inl ⟨rfl, rfl⟩, trivial⟩⟩ rfl (fun b hb => by cases hb) (.inl rfl) (lt_of rfl) trivial))
        (oC (oS rfl rfl (r_move (av := .tup [.one (.d (dsl false false (k_api_Step false) (pathB l ((j : Nat) : Int)))), .one (.d (.val (.int .i64 (pathE l ((j : Nat) : Int)))))]) (lt_of rfl) trivial))
        (oC (oS rfl rfl (r_extract (l := [.one (.d (dsl false false (k_api_Step false) (pathB l ((j : Nat) : Int)))), .one (.d (.val (.int .i64 (pathE l ((j : Nat) : Int)))))]) (tv := .one (.d (dsl false false (k_api_Step false) (pathB l ((j : Nat) : Int))))) rfl (lt_of rfl) trivial))
        (oC (oS rfl rfl (r_extract (l := [.one (.d (dsl false false (k_api_Step false) (pathB l ((j : Nat) : Int)))), .one (.d (.val (.int .i64 (pathE l ((j : Nat) : Int)))))]) (tv := .one (.d (.val (.int .i64 (pathE l ((j : Nat) : Int)))))) rfl (lt_of rfl) trivial))
        (oC (oS rfl rfl (r_assign (av := slV false false (k_api_Step false) (pathB l ((j : Nat) : Int))) (lt_of rfl) trivial))
        (oC (oS rfl rfl (r_assign (av := dv (.int .i64 (pathE l ((j : Nat) : Int)))) (lt_of rfl) trivial)) (oZ rfl)))))))))
        (by kernel_rfl) (by kernel_rfl) ?_
      refine nT ?_
      refine T.seq ?_
      refine tR (s1 := ⟨[slV false false (kSl false kU8) l, dv (.int .i64 ((j : Nat) : Int)), AV.any, AV.any, dv (.bool false), slV false false (k_api_Step false) (pathB l ((j : Nat) : Int)), dv (.int .i64 (pathE l ((j : Nat) : Int))), dv (.int .i64 0), dv (.int .i64 1), AV.any, AV.any, AV.any, AV.any, AV.any, AV.any, AV.any, dv (.bool (decide (((l.length : Nat) : Int) = 0)))], []⟩) [true, true, false, false, true, true, true, true, true, false, false, false, false, false, false, false, true] []
        (oC (oS rfl rfl (r_assign (av := dv (.int .i64 0)) (lt_of rfl) ⟨rfl, trivial⟩))
        (oC (oS rfl rfl (r_assign (av := dv (.int .i64 1)) (lt_of rfl) ⟨rfl, trivial⟩)) (oZ rfl)))
        (by kernel_rfl) (by kernel_rfl) ?_
      refine nT ?_
      refine T.seq ?_
      refine T.block ?_
      refine T.loop (ι := Nat × Nat) (fun (x_ : Nat × Nat) => ⟨[slV false false (kSl false kU8) l, dv (.int .i64 ((j : Nat) : Int)), AV.any, AV.any, dv (.bool false), slV false false (k_api_Step false) (pathB l ((j : Nat) : Int)), dv (.int .i64 (pathE l ((j : Nat) : Int))), dv (.int .i64 ((x_.1 : Nat) : Int)), dv (.int .i64 ((x_.2 : Nat) : Int)), AV.any, AV.any, AV.any, AV.any, AV.any, AV.any, AV.any, dv (.bool (decide (((l.length : Nat) : Int) = 0)))], []⟩) (fun (x_ : Nat × Nat) => (x_.2 = 2 ^ x_.1) ∧ (x_.1 < x_.2) ∧ (x_.2 ≤ 80)) (fun (x_ : Nat × Nat) => l.length - x_.2) (0, 1) ⟨rfl, (by decide), (by decide)⟩ (fun _ _ hG => Gs.into2 (s := ⟨[slV false false (kSl false kU8) l, dv (.int .i64 ((j : Nat) : Int)), AV.any, AV.any, dv (.bool false), slV false false (k_api_Step false) (pathB l ((j : Nat) : Int)), dv (.int .i64 (pathE l ((j : Nat) : Int))), dv (.int .i64 0), dv (.int .i64 1), AV.any, AV.any, AV.any, AV.any, AV.any, AV.any, AV.any, dv (.bool (decide (((l.length : Nat) : Int) = 0)))], []⟩) (s' := ⟨[slV false false (kSl false kU8) l, dv (.int .i64 ((j : Nat) : Int)), AV.any, AV.any, dv (.bool false), slV false false (k_api_Step false) (pathB l ((j : Nat) : Int)), dv (.int .i64 (pathE l ((j : Nat) : Int))), dv (.int .i64 0), dv (.int .i64 1), AV.any, AV.any, AV.any, AV.any, AV.any, AV.any, AV.any, dv (.bool (decide (((l.length : Nat) : Int) = 0)))], []⟩) [] [true, true, false, false, true, true, true, true, true, false, false, false, false, false, false, false, true] (t1 := [slV false false (kSl false kU8) l, dv (.int .i64 ((j : Nat) : Int)), AV.any, AV.any, dv (.bool false), slV false false (k_api_Step false) (pathB l ((j : Nat) : Int)), dv (.int .i64 (pathE l ((j : Nat) : Int))), dv (.int .i64 0), dv (.int .i64 1), AV.any, AV.any, AV.any, AV.any, AV.any, AV.any, AV.any, dv (.bool (decide (((l.length : Nat) : Int) = 0)))]) (t2 := [slV false false (kSl false kU8) l, dv (.int .i64 ((j : Nat) : Int)), AV.any, AV.any, dv (.bool false), slV false false (k_api_Step false) (pathB l ((j : Nat) : Int)), dv (.int .i64 (pathE l ((j : Nat) : Int))), dv (.int .i64 0), dv (.int .i64 1), AV.any, AV.any, AV.any, AV.any, AV.any, AV.any, AV.any, dv (.bool (decide (((l.length : Nat) : Int) = 0)))]) (h1 := []) (h2 := []) rfl rfl (by kernel_rfl) (by kernel_rfl) (by kernel_rfl) (by kernel_rfl) (by kernel_rfl) (by kernel_rfl) (by kernel_rfl) (by kernel_rfl) (by kernel_rfl) (by kernel_rfl) (by kernel_rfl) hG) ?_
      rintro ⟨d, K⟩ ⟨hK, hd, hK8⟩
      show T _ _ ⟨[slV false false (kSl false kU8) l, dv (.int .i64 ((j : Nat) : Int)), AV.any, AV.any, dv (.bool false), slV false false (k_api_Step false) (pathB l ((j : Nat) : Int)), dv (.int .i64 (pathE l ((j : Nat) : Int))), dv (.int .i64 ((d : Nat) : Int)), dv (.int .i64 ((K : Nat) : Int)), AV.any, AV.any, AV.any, AV.any, AV.any, AV.any, AV.any, dv (.bool (decide (((l.length : Nat) : Int) = 0)))], []⟩ _ _
      replace hK : K = 2 ^ d := hK
      replace hd : d < K := hd
      replace hK8 : K ≤ 80 := hK8
      refine T.seq ?_
      refine T.seq ?_
      refine tR (s1 := ⟨[slV false false (kSl false kU8) l, dv (.int .i64 ((j : Nat) : Int)), AV.any, AV.any, dv (.bool false), slV false false (k_api_Step false) (pathB l ((j : Nat) : Int)), dv (.int .i64 (pathE l ((j : Nat) : Int))), dv (.int .i64 ((d : Nat) : Int)), dv (.int .i64 ((K : Nat) : Int)), AV.any, AV.any, AV.any, AV.any, AV.any, AV.any, AV.any, dv (.bool (decide (((l.length : Nat) : Int) = 0))), AV.any, AV.any, AV.any, AV.any, AV.any, AV.any, AV.any, AV.any, AV.any, AV.any, AV.any, AV.any, AV.any, AV.any, AV.any, AV.any, AV.any, AV.any, AV.any, AV.any, dv (.bool (decide (((K : Nat) : Int) < ((l.length : Nat) : Int))))], []⟩) [true, true, false, false, true, true, true, true, true, false, false, false, false, false, false, false, true, false, false, false, false, false, false, false, false, false, false, false, false, false, false, false, false, false, false, false, false, true] []
        (oC (oS rfl rfl (r_move (av := dv (.int .i64 ((K : Nat) : Int))) (lt_of rfl) trivial))
        (oC (oS rfl rfl (r_move (av := slV false false (kSl false kU8) l) (lt_of rfl) trivial))
        (oC (oS rfl rfl (q_len false false (kSl false kU8) l Try.underlying22 (lt_of rfl) trivial))
        (oC (oS rfl rfl (r_bin (u1 := .int .i64 ((K : Nat) : Int)) (u2 := .int .i64 ((l.length : Nat) : Int)) (v := .bool (decide (((K : Nat) : Int) < ((l.length : Nat) : Int)))) b_lss (lt_of rfl) trivial)) (oZ rfl)))))
        (by kernel_rfl) (by kernel_rfl) ?_
      refine nT ?_
      by_cases hq3 : ((K : Nat) : Int) < ((l.length : Nat) : Int)
      · refine T.condT (b := (decide (((K : Nat) : Int) < ((l.length : Nat) : Int)))) rfl (decide_eq_true hq3) ?_
        refine T.skip ?_
        refine nT ?_
        refine T.block ?_
        refine T.seq ?_
        refine tR (s1 := ⟨[slV false false (kSl false kU8) l, dv (.int .i64 ((j : Nat) : Int)), AV.any, AV.any, dv (.bool false), slV false false (k_api_Step false) (pathB l ((j : Nat) : Int)), dv (.int .i64 (pathE l ((j : Nat) : Int))), dv (.int .i64 ((d : Nat) : Int)), dv (.int .i64 ((2 * K : Nat) : Int)), AV.any, AV.any, AV.any, AV.any, AV.any, AV.any, AV.any, dv (.bool (decide (((l.length : Nat) : Int) = 0))), AV.any, AV.any, AV.any, AV.any, AV.any, AV.any, AV.any, AV.any, AV.any, AV.any, AV.any, AV.any, AV.any, AV.any, AV.any, AV.any, AV.any, AV.any, AV.any, AV.any, dv (.bool (decide (((K : Nat) : Int) < ((l.length : Nat) : Int))))], []⟩) [true, true, false, false, true, true, true, true, true, false, false, false, false, false, false, false, true, false, false, false, false, false, false, false, false, false, false, false, false, false, false, false, false, false, false, false, false, true] []
          (oC (oS rfl rfl (r_move (av := dv (.int .i64 ((K : Nat) : Int))) (lt_of rfl) trivial))
          (oC (oS rfl rfl (r_bin (u1 := .int .i64 2) (u2 := .int .i64 ((K : Nat) : Int)) (v := .int .i64 ((2 * K : Nat) : Int)) (b_mul (by rw [IntKind.wrap_i64]; omega)) (lt_of rfl) ⟨rfl, trivial⟩))
          (oC (oS rfl rfl (r_assign (av := dv (.int .i64 ((2 * K : Nat) : Int))) (lt_of rfl) trivial)) (oZ rfl))))
          (by kernel_rfl) (by kernel_rfl) ?_
        refine nT ?_
        refine tR (s1 := ⟨[slV false false (kSl false kU8) l, dv (.int .i64 ((j : Nat) : Int)), AV.any, AV.any, dv (.bool false), slV false false (k_api_Step false) (pathB l ((j : Nat) : Int)), dv (.int .i64 (pathE l ((j : Nat) : Int))), dv (.int .i64 ((d + 1 : Nat) : Int)), dv (.int .i64 ((2 * K : Nat) : Int)), AV.any, AV.any, AV.any, AV.any, AV.any, AV.any, AV.any, dv (.bool (decide (((l.length : Nat) : Int) = 0))), AV.any, AV.any, AV.any, AV.any, AV.any, AV.any, AV.any, AV.any, AV.any, AV.any, AV.any, AV.any, AV.any, AV.any, AV.any, AV.any, AV.any, AV.any, AV.any, AV.any, dv (.bool (decide (((K : Nat) : Int) < ((l.length : Nat) : Int))))], []⟩) [true, true, false, false, true, true, true, true, true, false, false, false, false, false, false, false, true, false, false, false, false, false, false, false, false, false, false, false, false, false, false, false, false, false, false, false, false, true] []
          (oC (oS rfl rfl (r_move (av := dv (.int .i64 ((d : Nat) : Int))) (lt_of rfl) trivial))
          (oC (oS rfl rfl (r_bin (u1 := .int .i64 ((d : Nat) : Int)) (u2 := .int .i64 1) (v := .int .i64 ((d + 1 : Nat) : Int)) (b_add (by rw [IntKind.wrap_i64]; omega)) (lt_of rfl) ⟨rfl, trivial⟩))
          (oC (oS rfl rfl (r_assign (av := dv (.int .i64 ((d + 1 : Nat) : Int))) (lt_of rfl) trivial)) (oZ rfl))))
          (by kernel_rfl) (by kernel_rfl) ?_
        refine nB ?_
        refine nL (d + 1, 2 * K) ⟨(show (2 * K) = 2 ^ (d + 1) from (by rw [hK, Nat.pow_succ, Nat.mul_comm])), (show (d + 1) < (2 * K) from (by omega)), (show (2 * K) ≤ 80 from (by omega))⟩ (show (l.length - (2 * K) : Nat) < l.length - K from (by omega)) (fun _ _ hG => Gs.into2 (s := ⟨[slV false false (kSl false kU8) l, dv (.int .i64 ((j : Nat) : Int)), AV.any, AV.any, dv (.bool false), slV false false (k_api_Step false) (pathB l ((j : Nat) : Int)), dv (.int .i64 (pathE l ((j : Nat) : Int))), dv (.int .i64 ((d + 1 : Nat) : Int)), dv (.int .i64 ((2 * K : Nat) : Int)), AV.any, AV.any, AV.any, AV.any, AV.any, AV.any, AV.any, dv (.bool (decide (((l.length : Nat) : Int) = 0))), AV.any, AV.any, AV.any, AV.any, AV.any, AV.any, AV.any, AV.any, AV.any, AV.any, AV.any, AV.any, AV.any, AV.any, AV.any, AV.any, AV.any, AV.any, AV.any, AV.any, dv (.bool (decide (((K : Nat) : Int) < ((l.length : Nat) : Int))))], []⟩) (s' := ⟨[slV false false (kSl false kU8) l, dv (.int .i64 ((j : Nat) : Int)), AV.any, AV.any, dv (.bool false), slV false false (k_api_Step false) (pathB l ((j : Nat) : Int)), dv (.int .i64 (pathE l ((j : Nat) : Int))), dv (.int .i64 ((d + 1 : Nat) : Int)), dv (.int .i64 ((2 * K : Nat) : Int)), AV.any, AV.any, AV.any, AV.any, AV.any, AV.any, AV.any, dv (.bool (decide (((l.length : Nat) : Int) = 0)))], []⟩) [] [true, true, false, false, true, true, true, true, true, false, false, false, false, false, false, false, true] (t1 := [slV false false (kSl false kU8) l, dv (.int .i64 ((j : Nat) : Int)), AV.any, AV.any, dv (.bool false), slV false false (k_api_Step false) (pathB l ((j : Nat) : Int)), dv (.int .i64 (pathE l ((j : Nat) : Int))), dv (.int .i64 ((d + 1 : Nat) : Int)), dv (.int .i64 ((2 * K : Nat) : Int)), AV.any, AV.any, AV.any, AV.any, AV.any, AV.any, AV.any, dv (.bool (decide (((l.length : Nat) : Int) = 0)))]) (t2 := [slV false false (kSl false kU8) l, dv (.int .i64 ((j : Nat) : Int)), AV.any, AV.any, dv (.bool false), slV false false (k_api_Step false) (pathB l ((j : Nat) : Int)), dv (.int .i64 (pathE l ((j : Nat) : Int))), dv (.int .i64 ((d + 1 : Nat) : Int)), dv (.int .i64 ((2 * K : Nat) : Int)), AV.any, AV.any, AV.any, AV.any, AV.any, AV.any, AV.any, dv (.bool (decide (((l.length : Nat) : Int) = 0)))]) (h1 := []) (h2 := []) rfl rfl (by kernel_rfl) (by kernel_rfl) (by kernel_rfl) (by kernel_rfl) (by kernel_rfl) (by kernel_rfl) (by kernel_rfl) (by kernel_rfl) (by kernel_rfl) (by kernel_rfl) (by kernel_rfl) hG)
      · refine T.condF (b := (decide (((K : Nat) : Int) < ((l.length : Nat) : Int)))) rfl (decide_eq_false hq3) ?_
        refine T.exit ?_
        refine xT ?_
        refine xT ?_
        refine xH ?_
        refine nT ?_
        refine T.seq ?_
        by_cases hq4 : (pathE l ((j : Nat) : Int)) = 0
        · by_cases hq5 : (((pathB l ((j : Nat) : Int)).length : Nat) : Int) ≤ ((d : Nat) : Int)
          · by_cases hq6 : ((K : Nat) : Int) ≠ ((l.length : Nat) : Int)
            · refine tR (s1 := ⟨[slV false false (kSl false kU8) l, dv (.int .i64 ((j : Nat) : Int)), AV.any, AV.any, dv (.bool true), slV false false (k_api_Step false) (pathB l ((j : Nat) : Int)), dv (.int .i64 (pathE l ((j : Nat) : Int))), dv (.int .i64 ((d : Nat) : Int)), dv (.int .i64 ((K : Nat) : Int)), AV.any, AV.any, AV.any, AV.any, AV.any, AV.any, AV.any, dv (.bool (decide (((l.length : Nat) : Int) = 0))), AV.any, AV.any, AV.any, AV.any, AV.any, AV.any, AV.any, AV.any, AV.any, AV.any, AV.any, AV.any, AV.any, AV.any, AV.any, AV.any, AV.any, AV.any, AV.any, AV.any, dv (.bool (decide (((K : Nat) : Int) < ((l.length : Nat) : Int))))], []⟩) [true, true, false, false, true, true, true, true, true, false, false, false, false, false, false, false, true, false, false, false, false, false, false, false, false, false, false, false, false, false, false, false, false, false, false, false, false, true] []
                (oC (oS rfl rfl (r_move (av := dv (.int .i64 (pathE l ((j : Nat) : Int)))) (lt_of rfl) trivial))
                (oC (oS rfl rfl (r_bin (u1 := .int .i64 (pathE l ((j : Nat) : Int))) (u2 := .int .i64 0) (v := .bool (decide ((pathE l ((j : Nat) : Int)) = 0))) b_eql (lt_of rfl) ⟨rfl, trivial⟩))
                (oC (oS rfl rfl (r_move (av := dv (.bool (decide ((pathE l ((j : Nat) : Int)) = 0)))) (lt_of rfl) trivial))
                (oC (oY (b := (decide ((pathE l ((j : Nat) : Int)) = 0))) rfl rfl rfl rfl (lt_of rfl) (decide_eq_true hq4) (r_move (av := slV false false (k_api_Step false) (pathB l ((j : Nat) : Int))) (lt_of rfl) trivial))
                (oC (oY (b := (decide ((pathE l ((j : Nat) : Int)) = 0))) rfl rfl rfl rfl (lt_of rfl) (decide_eq_true hq4) (q_len false false (k_api_Step false) (pathB l ((j : Nat) : Int)) Try.underlying27 (lt_of rfl) trivial))
                (oC (oY (b := (decide ((pathE l ((j : Nat) : Int)) = 0))) rfl rfl rfl rfl (lt_of rfl) (decide_eq_true hq4) (r_move (av := dv (.int .i64 ((d : Nat) : Int))) (lt_of rfl) trivial))
                (oC (oY (b := (decide ((pathE l ((j : Nat) : Int)) = 0))) rfl rfl rfl rfl (lt_of rfl) (decide_eq_true hq4) (r_bin (u1 := .int .i64 (((pathB l ((j : Nat) : Int)).length : Nat) : Int)) (u2 := .int .i64 ((d : Nat) : Int)) (v := .bool (decide ((((pathB l ((j : Nat) : Int)).length : Nat) : Int) ≤ ((d : Nat) : Int)))) b_leq (lt_of rfl) trivial))
                (oC (oS rfl rfl (r_pickT (b := (decide ((pathE l ((j : Nat) : Int)) = 0))) (av := dv (.bool (decide ((((pathB l ((j : Nat) : Int)).length : Nat) : Int) ≤ ((d : Nat) : Int))))) (lt_of rfl) trivial (decide_eq_true hq4)))
                (oC (oS rfl rfl (r_move (av := dv (.bool (decide ((((pathB l ((j : Nat) : Int)).length : Nat) : Int) ≤ ((d : Nat) : Int))))) (lt_of rfl) trivial))
                (oC (oY (b := (decide ((((pathB l ((j : Nat) : Int)).length : Nat) : Int) ≤ ((d : Nat) : Int)))) rfl rfl rfl rfl (lt_of rfl) (decide_eq_true hq5) (r_move (av := dv (.int .i64 ((K : Nat) : Int))) (lt_of rfl) trivial))
                (oC (oY (b := (decide ((((pathB l ((j : Nat) : Int)).length : Nat) : Int) ≤ ((d : Nat) : Int)))) rfl rfl rfl rfl (lt_of rfl) (decide_eq_true hq5) (r_move (av := slV false false (kSl false kU8) l) (lt_of rfl) trivial))
                (oC (oY (b := (decide ((((pathB l ((j : Nat) : Int)).length : Nat) : Int) ≤ ((d : Nat) : Int)))) rfl rfl rfl rfl (lt_of rfl) (decide_eq_true hq5) (q_len false false (kSl false kU8) l Try.underlying22 (lt_of rfl) trivial))
                (oC (oY (b := (decide ((((pathB l ((j : Nat) : Int)).length : Nat) : Int) ≤ ((d : Nat) : Int)))) rfl rfl rfl rfl (lt_of rfl) (decide_eq_true hq5) (r_bin (u1 := .int .i64 ((K : Nat) : Int)) (u2 := .int .i64 ((l.length : Nat) : Int)) (v := .bool (decide (((K : Nat) : Int) ≠ ((l.length : Nat) : Int)))) b_neq (lt_of rfl) trivial))
                (oC (oY (b := (decide ((((pathB l ((j : Nat) : Int)).length : Nat) : Int) ≤ ((d : Nat) : Int)))) rfl rfl rfl rfl (lt_of rfl) (decide_eq_true hq5) (r_move (av := dv (.bool (decide (((K : Nat) : Int) ≠ ((l.length : Nat) : Int))))) (lt_of rfl) trivial))
                (oC (oN (b := (decide (((K : Nat) : Int) ≠ ((l.length : Nat) : Int)))) rfl rfl rfl rfl (lt_of rfl) (decide_eq_true hq6) rfl (lt_of rfl))
                (oC (oN (b := (decide (((K : Nat) : Int) ≠ ((l.length : Nat) : Int)))) rfl rfl rfl rfl (lt_of rfl) (decide_eq_true hq6) rfl (lt_of rfl))
                (oC (oN (b := (decide (((K : Nat) : Int) ≠ ((l.length : Nat) : Int)))) rfl rfl rfl rfl (lt_of rfl) (decide_eq_true hq6) rfl (lt_of rfl))
                (oC (oN (b := (decide (((K : Nat) : Int) ≠ ((l.length : Nat) : Int)))) rfl rfl rfl rfl (lt_of rfl) (decide_eq_true hq6) rfl (lt_of rfl))
                (oC (oY (b := (decide ((((pathB l ((j : Nat) : Int)).length : Nat) : Int) ≤ ((d : Nat) : Int)))) rfl rfl rfl rfl (lt_of rfl) (decide_eq_true hq5) (r_pickT (b := (decide (((K : Nat) : Int) ≠ ((l.length : Nat) : Int)))) (av := dv (.bool true)) (lt_of rfl) ⟨rfl, trivial⟩ (decide_eq_true hq6)))
                (oC (oS rfl rfl (r_pickT (b := (decide ((((pathB l ((j : Nat) : Int)).length : Nat) : Int) ≤ ((d : Nat) : Int)))) (av := dv (.bool true)) (lt_of rfl) trivial (decide_eq_true hq5)))
                (oC (oS rfl rfl (r_move (av := dv (.bool true)) (lt_of rfl) trivial))
                (oC (oY (b := true) rfl rfl rfl rfl (lt_of rfl) rfl (r_call (law_awake  ) Try.func13 rfl (by decide) [] [] (l := []) [] rfl 0 0 rfl rfl rfl rfl rfl rfl rfl rfl rfl trivial rfl (fun b hb => by cases hb) (.inl rfl) (lt_of rfl) trivial))
                (oC (oS rfl rfl (r_pickT (b := true) (av := dv (.bool true)) (lt_of rfl) trivial rfl))
                (oC (oS rfl rfl (r_assign (av := dv (.bool true)) (lt_of rfl) trivial)) (oZ rfl)))))))))))))))))))))))))
                (by kernel_rfl) (by kernel_rfl) ?_
              refine nT ?_
              refine T.ret ?_
              exact tE (.inl rfl) [.t 4 (.one (.d (.val (.bool true))))] ⟨⟨rfl, rfl⟩, trivial⟩ [] rfl rfl rfl rfl rfl rfl trivial
            · by_cases hq7 : (((pathB l ((j : Nat) : Int)).length : Nat) : Int) = ((d : Nat) : Int)
              · refine tR (s1 := ⟨[slV false false (kSl false kU8) l, dv (.int .i64 ((j : Nat) : Int)), AV.any, AV.any, dv (.bool true), slV false false (k_api_Step false) (pathB l ((j : Nat) : Int)), dv (.int .i64 (pathE l ((j : Nat) : Int))), dv (.int .i64 ((d : Nat) : Int)), dv (.int .i64 ((K : Nat) : Int)), AV.any, AV.any, AV.any, AV.any, AV.any, AV.any, AV.any, dv (.bool (decide (((l.length : Nat) : Int) = 0))), AV.any, AV.any, AV.any, AV.any, AV.any, AV.any, AV.any, AV.any, AV.any, AV.any, AV.any, AV.any, AV.any, AV.any, AV.any, AV.any, AV.any, AV.any, AV.any, AV.any, dv (.bool (decide (((K : Nat) : Int) < ((l.length : Nat) : Int))))], []⟩) [true, true, false, false, true, true, true, true, true, false, false, false, false, false, false, false, true, false, false, false, false, false, false, false, false, false, false, false, false, false, false, false, false, false, false, false, false, true] []
                  (oC (oS rfl rfl (r_move (av := dv (.int .i64 (pathE l ((j : Nat) : Int)))) (lt_of rfl) trivial))
                  (oC (oS rfl rfl (r_bin (u1 := .int .i64 (pathE l ((j : Nat) : Int))) (u2 := .int .i64 0) (v := .bool (decide ((pathE l ((j : Nat) : Int)) = 0))) b_eql (lt_of rfl) ⟨rfl, trivial⟩))
                  (oC (oS rfl rfl (r_move (av := dv (.bool (decide ((pathE l ((j : Nat) : Int)) = 0)))) (lt_of rfl) trivial))
                  (oC (oY (b := (decide ((pathE l ((j : Nat) : Int)) = 0))) rfl rfl rfl rfl (lt_of rfl) (decide_eq_true hq4) (r_move (av := slV false false (k_api_Step false) (pathB l ((j : Nat) : Int))) (lt_of rfl) trivial))
                  (oC (oY (b := (decide ((pathE l ((j : Nat) : Int)) = 0))) rfl rfl rfl rfl (lt_of rfl) (decide_eq_true hq4) (q_len false false (k_api_Step false) (pathB l ((j : Nat) : Int)) Try.underlying27 (lt_of rfl) trivial))
                  (oC (oY (b := (decide ((pathE l ((j : Nat) : Int)) = 0))) rfl rfl rfl rfl (lt_of rfl) (decide_eq_true hq4) (r_move (av := dv (.int .i64 ((d : Nat) : Int))) (lt_of rfl) trivial))
                  (oC (oY (b := (decide ((pathE l ((j : Nat) : Int)) = 0))) rfl rfl rfl rfl (lt_of rfl) (decide_eq_true hq4) (r_bin (u1 := .int .i64 (((pathB l ((j : Nat) : Int)).length : Nat) : Int)) (u2 := .int .i64 ((d : Nat) : Int)) (v := .bool (decide ((((pathB l ((j : Nat) : Int)).length : Nat) : Int) ≤ ((d : Nat) : Int)))) b_leq (lt_of rfl) trivial))
                  (oC (oS rfl rfl (r_pickT (b := (decide ((pathE l ((j : Nat) : Int)) = 0))) (av := dv (.bool (decide ((((pathB l ((j : Nat) : Int)).length : Nat) : Int) ≤ ((d : Nat) : Int))))) (lt_of rfl) trivial (decide_eq_true hq4)))
                  (oC (oS rfl rfl (r_move (av := dv (.bool (decide ((((pathB l ((j : Nat) : Int)).length : Nat) : Int) ≤ ((d : Nat) : Int))))) (lt_of rfl) trivial))
                  (oC (oY (b := (decide ((((pathB l ((j : Nat) : Int)).length : Nat) : Int) ≤ ((d : Nat) : Int)))) rfl rfl rfl rfl (lt_of rfl) (decide_eq_true hq5) (r_move (av := dv (.int .i64 ((K : Nat) : Int))) (lt_of rfl) trivial))
                  (oC (oY (b := (decide ((((pathB l ((j : Nat) : Int)).length : Nat) : Int) ≤ ((d : Nat) : Int)))) rfl rfl rfl rfl (lt_of rfl) (decide_eq_true hq5) (r_move (av := slV false false (kSl false kU8) l) (lt_of rfl) trivial))
                  (oC (oY (b := (decide ((((pathB l ((j : Nat) : Int)).length : Nat) : Int) ≤ ((d : Nat) : Int)))) rfl rfl rfl rfl (lt_of rfl) (decide_eq_true hq5) (q_len false false (kSl false kU8) l Try.underlying22 (lt_of rfl) trivial))
                  (oC (oY (b := (decide ((((pathB l ((j : Nat) : Int)).length : Nat) : Int) ≤ ((d : Nat) : Int)))) rfl rfl rfl rfl (lt_of rfl) (decide_eq_true hq5) (r_bin (u1 := .int .i64 ((K : Nat) : Int)) (u2 := .int .i64 ((l.length : Nat) : Int)) (v := .bool (decide (((K : Nat) : Int) ≠ ((l.length : Nat) : Int)))) b_neq (lt_of rfl) trivial))
                  (oC (oY (b := (decide ((((pathB l ((j : Nat) : Int)).length : Nat) : Int) ≤ ((d : Nat) : Int)))) rfl rfl rfl rfl (lt_of rfl) (decide_eq_true hq5) (r_move (av := dv (.bool (decide (((K : Nat) : Int) ≠ ((l.length : Nat) : Int))))) (lt_of rfl) trivial))
                  (oC (oY (b := (decide (((K : Nat) : Int) ≠ ((l.length : Nat) : Int)))) rfl rfl rfl rfl (lt_of rfl) (decide_eq_false hq6) (r_move (av := slV false false (k_api_Step false) (pathB l ((j : Nat) : Int))) (lt_of rfl) trivial))
                  (oC (oY (b := (decide (((K : Nat) : Int) ≠ ((l.length : Nat) : Int)))) rfl rfl rfl rfl (lt_of rfl) (decide_eq_false hq6) (q_len false false (k_api_Step false) (pathB l ((j : Nat) : Int)) Try.underlying27 (lt_of rfl) trivial))
                  (oC (oY (b := (decide (((K : Nat) : Int) ≠ ((l.length : Nat) : Int)))) rfl rfl rfl rfl (lt_of rfl) (decide_eq_false hq6) (r_move (av := dv (.int .i64 ((d : Nat) : Int))) (lt_of rfl) trivial))
                  (oC (oY (b := (decide (((K : Nat) : Int) ≠ ((l.length : Nat) : Int)))) rfl rfl rfl rfl (lt_of rfl) (decide_eq_false hq6) (r_bin (u1 := .int .i64 (((pathB l ((j : Nat) : Int)).length : Nat) : Int)) (u2 := .int .i64 ((d : Nat) : Int)) (v := .bool (decide ((((pathB l ((j : Nat) : Int)).length : Nat) : Int) = ((d : Nat) : Int)))) b_eql (lt_of rfl) trivial))
                  (oC (oY (b := (decide ((((pathB l ((j : Nat) : Int)).length : Nat) : Int) ≤ ((d : Nat) : Int)))) rfl rfl rfl rfl (lt_of rfl) (decide_eq_true hq5) (r_pickF (b := (decide (((K : Nat) : Int) ≠ ((l.length : Nat) : Int)))) (av := dv (.bool (decide ((((pathB l ((j : Nat) : Int)).length : Nat) : Int) = ((d : Nat) : Int))))) (lt_of rfl) trivial (decide_eq_false hq6)))
                  (oC (oS rfl rfl (r_pickT (b := (decide ((((pathB l ((j : Nat) : Int)).length : Nat) : Int) ≤ ((d : Nat) : Int)))) (av := dv (.bool (decide ((((pathB l ((j : Nat) : Int)).length : Nat) : Int) = ((d : Nat) : Int))))) (lt_of rfl) trivial (decide_eq_true hq5)))
                  (oC (oS rfl rfl (r_move (av := dv (.bool (decide ((((pathB l ((j : Nat) : Int)).length : Nat) : Int) = ((d : Nat) : Int))))) (lt_of rfl) trivial))
                  (oC (oY (b := (decide ((((pathB l ((j : Nat) : Int)).length : Nat) : Int) = ((d : Nat) : Int)))) rfl rfl rfl rfl (lt_of rfl) (decide_eq_true hq7) (r_call (law_awake  ) Try.func13 rfl (by decide) [] [] (l := []) [] rfl 0 0 rfl rfl rfl rfl rfl rfl rfl rfl rfl trivial rfl (fun b hb => by cases hb) (.inl rfl) (lt_of rfl) trivial))
                  (oC (oS rfl rfl (r_pickT (b := (decide ((((pathB l ((j : Nat) : Int)).length : Nat) : Int) = ((d : Nat) : Int)))) (av := dv (.bool true)) (lt_of rfl) trivial (decide_eq_true hq7)))
                  (oC (oS rfl rfl (r_assign (av := dv (.bool true)) (lt_of rfl) trivial)) (oZ rfl)))))))))))))))))))))))))
                  (by kernel_rfl) (by kernel_rfl) ?_
                refine nT ?_
                refine T.ret ?_
                exact tE (.inl rfl) [.t 4 (.one (.d (.val (.bool true))))] ⟨⟨rfl, rfl⟩, trivial⟩ [] rfl rfl rfl rfl rfl rfl trivial
              · exact absurd (by rw [pathB_ok hj]; have h9 := path_short d l j; rw [← hK] at h9; have h8 := h9.1 (by omega); have h7 := h9.2 (by omega) hj; omega) hq7
          · exact absurd (by rw [pathB_ok hj]; have h9 := path_short d l j; rw [← hK] at h9; have h8 := h9.1 (by omega); omega) hq5
        · exact absurd (pathE_ok hj) hq4
  · refine tR (s1 := ⟨[slV false false (kSl false kU8) l, dv (.int .i64 at_), AV.any, AV.any, dv (.bool false), AV.any, AV.any, AV.any, AV.any, AV.any, AV.any, AV.any, AV.any, AV.any, AV.any, AV.any, dv (.bool true)], []⟩) [true, true, false, false, true, false, false, false, false, false, false, false, false, false, false, false, true] []
      (oC (oS rfl rfl (r_move (av := slV false false (kSl false kU8) l) (lt_of rfl) trivial))
      (oC (oS rfl rfl (r_call (law_few false false false l (by first | assumption | omega | (simp only [maxLen, kU8_sz, kSl_sz, k_api_Step_sz, k_quaestorlaw09_Claim_sz]; omega) | (simp only [maxLen, kU8_sz, kSl_sz, k_api_Step_sz, k_quaestorlaw09_Claim_sz, List.length_append, List.length_cons, List.length_nil, List.length_take, List.length_drop, List.length_set]; omega) | decide)) Try.func10 rfl (by decide) [] [] (l := [(.tmp 9, slV false false (kSl false kU8) l)]) [] rfl 0 0 rfl rfl rfl rfl rfl rfl rfl rfl rfl ⟨.inl ⟨rfl, rfl⟩, trivial⟩ rfl (fun b hb => by cases hb) (.inl rfl) (lt_of rfl) trivial))
      (oC (oS rfl rfl (r_un (u := .bool (decide (fewG szL 40 200 l))) (v := .bool (!(decide (fewG szL 40 200 l)))) u_not (lt_of rfl) trivial))
      (oC (oS rfl rfl (r_move (av := dv (.bool (!(decide (fewG szL 40 200 l))))) (lt_of rfl) trivial))
      (oC (oN (b := (!(decide (fewG szL 40 200 l)))) rfl rfl rfl rfl (lt_of rfl) (congrArg Bool.not (decide_eq_false hq1)) rfl (lt_of rfl))
      (oC (oN (b := (!(decide (fewG szL 40 200 l)))) rfl rfl rfl rfl (lt_of rfl) (congrArg Bool.not (decide_eq_false hq1)) rfl (lt_of rfl))
      (oC (oN (b := (!(decide (fewG szL 40 200 l)))) rfl rfl rfl rfl (lt_of rfl) (congrArg Bool.not (decide_eq_false hq1)) rfl (lt_of rfl))
      (oC (oS rfl rfl (r_pickT (b := (!(decide (fewG szL 40 200 l)))) (av := dv (.bool true)) (lt_of rfl) ⟨rfl, trivial⟩ (congrArg Bool.not (decide_eq_false hq1)))) (oZ rfl)))))))))
      (by kernel_rfl) (by kernel_rfl) ?_
    refine nT ?_
    refine T.condT (b := true) rfl rfl ?_
    refine T.seq ?_
    refine tR (s1 := ⟨[slV false false (kSl false kU8) l, dv (.int .i64 at_), AV.any, AV.any, dv (.bool true), AV.any, AV.any, AV.any, AV.any, AV.any, AV.any, AV.any, AV.any, AV.any, AV.any, AV.any, dv (.bool true)], []⟩) [true, true, false, false, true, false, false, false, false, false, false, false, false, false, false, false, true] []
      (oC (oS rfl rfl (r_call (law_awake  ) Try.func13 rfl (by decide) [] [] (l := []) [] rfl 0 0 rfl rfl rfl rfl rfl rfl rfl rfl rfl trivial rfl (fun b hb => by cases hb) (.inl rfl) (lt_of rfl) trivial))
      (oC (oS rfl rfl (r_assign (av := dv (.bool true)) (lt_of rfl) trivial)) (oZ rfl)))
      (by kernel_rfl) (by kernel_rfl) ?_
    refine nT ?_
    refine T.ret ?_
    refine rT ?_
    exact tE (.inl rfl) [.t 4 (.one (.d (.val (.bool true))))] ⟨⟨rfl, rfl⟩, trivial⟩ [] rfl rfl rfl rfl rfl rfl trivial
end Go.Proofs.Ytcpdbbabbnbghaa.Q
