import Derived.Test.YtcpdbbabbnbghaaC09n8
namespace Go.Proofs.Ytcpdbbabbnbghaa.Q
open Go Go.RowKit
set_option linter.unusedVariables false
set_option linter.unusedSimpArgs false
set_option maxRecDepth 100000
set_option maxHeartbeats 4000000
theorem elem_22 : Elem Try.prog 22 33 1 24 := ⟨Try.underlying22, _, _, iat_33, rfl, rfl, rfl, rfl, by decide⟩
theorem cells_33 : Cells Try.prog 33 1 := ⟨_, iat_33, rfl⟩
-- quaestor/quaestorlaw09.MerkleApart
theorem law_MerkleApart (l : List (List UInt8)) (at_ : Int) (x : List UInt8) (hl : l.length ≤ 9223372036854775807) : Holds Try.prog 8 ⟨[slV false false (kSl false kU8) l, dv (.int .i64 at_), slV false false kU8 x], [], dv (.bool true), []⟩ := by
  refine Holds.of Try.func8 rfl (N := 52) Try.ntmps8 rfl fun w0 B0 S0 U0 => ?_
  show T _ (mkBase 52 0 w0 S0 U0 B0) ⟨[slV false false (kSl false kU8) l, dv (.int .i64 at_), slV false false kU8 x], []⟩ _ _
  refine T.seq ?_
  refine tR (s1 := ⟨[slV false false (kSl false kU8) l, dv (.int .i64 at_), slV false false kU8 x, AV.any, AV.any, AV.any, dv (.bool false)], []⟩) [true, true, true, false, false, false, true] []
    (oC (oS rfl rfl (r_assign (av := dv (.bool false)) (lt_of rfl) ⟨rfl, trivial⟩)) (oZ rfl))
    (by kernel_rfl) (by kernel_rfl) ?_
  refine nT ?_
  refine T.seq ?_
  refine T.seq ?_
  by_cases hq1 : fewG szL 40 200 l
  · have hf := hq1; have hl40 := hf.1
    refine tR (s1 := ⟨[slV false false (kSl false kU8) l, dv (.int .i64 at_), slV false false kU8 x, AV.any, AV.any, AV.any, dv (.bool false), AV.any, AV.any, AV.any, AV.any, AV.any, AV.any, AV.any, AV.any, dv (.bool (decide (((x.length : Nat) : Int) > 200)))], []⟩) [true, true, true, false, false, false, true, false, false, false, false, false, false, false, false, true] []
      (oC (oS rfl rfl (r_move (av := slV false false (kSl false kU8) l) (lt_of rfl) trivial))
      (oC (oS rfl rfl (r_call (law_few false false false l (by first | assumption | omega | (simp only [maxLen, kU8_sz, kSl_sz, k_api_Step_sz, k_quaestorlaw09_Claim_sz]; omega) | (simp only [maxLen, kU8_sz, kSl_sz, k_api_Step_sz, k_quaestorlaw09_Claim_sz, List.length_append, List.length_cons, List.length_nil, List.length_take, List.length_drop, List.length_set]; omega) | decide)) Try.func10 rfl (by decide) [] [] (l := [(.tmp 8, slV false false (kSl false kU8) l)]) [] rfl 0 0 rfl rfl rfl rfl rfl rfl rfl rfl rfl ⟨.inl ⟨rfl, rfl⟩, trivial⟩ rfl (fun b hb => by cases hb) (.inl rfl) (lt_of rfl) trivial))
      (oC (oS rfl rfl (r_un (u := .bool (decide (fewG szL 40 200 l))) (v := .bool (!(decide (fewG szL 40 200 l)))) u_not (lt_of rfl) trivial))
      (oC (oS rfl rfl (r_move (av := dv (.bool (!(decide (fewG szL 40 200 l))))) (lt_of rfl) trivial))
      (oC (oY (b := (!(decide (fewG szL 40 200 l)))) rfl rfl rfl rfl (lt_of rfl) (congrArg Bool.not (decide_eq_true hq1)) (r_move (av := slV false false kU8 x) (lt_of rfl) trivial))
      (oC (oY (b := (!(decide (fewG szL 40 200 l)))) rfl rfl rfl rfl (lt_of rfl) (congrArg Bool.not (decide_eq_true hq1)) (q_len false false kU8 x Try.underlying33 (lt_of rfl) trivial))
      (oC (oY (b := (!(decide (fewG szL 40 200 l)))) rfl rfl rfl rfl (lt_of rfl) (congrArg Bool.not (decide_eq_true hq1)) (r_bin (u1 := .int .i64 ((x.length : Nat) : Int)) (u2 := .int .i64 200) (v := .bool (decide (((x.length : Nat) : Int) > 200))) b_gtr (lt_of rfl) ⟨rfl, trivial⟩))
      (oC (oS rfl rfl (r_pickF (b := (!(decide (fewG szL 40 200 l)))) (av := dv (.bool (decide (((x.length : Nat) : Int) > 200)))) (lt_of rfl) trivial (congrArg Bool.not (decide_eq_true hq1)))) (oZ rfl)))))))))
      (by kernel_rfl) (by kernel_rfl) ?_
    refine nT ?_
    by_cases hq2 : ((x.length : Nat) : Int) > 200
    · refine T.condT (b := (decide (((x.length : Nat) : Int) > 200))) rfl (decide_eq_true hq2) ?_
      refine T.seq ?_
      refine tR (s1 := ⟨[slV false false (kSl false kU8) l, dv (.int .i64 at_), slV false false kU8 x, AV.any, AV.any, AV.any, dv (.bool true), AV.any, AV.any, AV.any, AV.any, AV.any, AV.any, AV.any, AV.any, dv (.bool (decide (((x.length : Nat) : Int) > 200)))], []⟩) [true, true, true, false, false, false, true, false, false, false, false, false, false, false, false, true] []
        (oC (oS rfl rfl (r_assign (av := dv (.bool true)) (lt_of rfl) ⟨rfl, trivial⟩)) (oZ rfl))
        (by kernel_rfl) (by kernel_rfl) ?_
      refine nT ?_
      refine T.ret ?_
      refine rT ?_
      exact tE (.inl rfl) [.t 6 (.one (.d (.val (.bool true))))] ⟨⟨rfl, rfl⟩, trivial⟩ [] rfl rfl rfl rfl rfl rfl trivial
    · have hxb : x.length ≤ 200 := (by omega); have hxs : szL x ≤ 200 := hxb
      refine T.condF (b := (decide (((x.length : Nat) : Int) > 200))) rfl (decide_eq_false hq2) ?_
      refine T.skip ?_
      refine nT ?_
      refine T.seq ?_
      refine T.seq ?_
      refine tR (s1 := ⟨[slV false false (kSl false kU8) l, dv (.int .i64 at_), slV false false kU8 x, AV.any, AV.any, AV.any, dv (.bool false), AV.any, AV.any, AV.any, AV.any, AV.any, AV.any, AV.any, AV.any, dv (.bool (decide (((x.length : Nat) : Int) > 200))), AV.any, AV.any, dv (.bool (decide (((l.length : Nat) : Int) = 0)))], []⟩) [true, true, true, false, false, false, true, false, false, false, false, false, false, false, false, true, false, false, true] []
        (oC (oS rfl rfl (r_move (av := slV false false (kSl false kU8) l) (lt_of rfl) trivial))
        (oC (oS rfl rfl (q_len false false (kSl false kU8) l Try.underlying22 (lt_of rfl) trivial))
        (oC (oS rfl rfl (r_bin (u1 := .int .i64 ((l.length : Nat) : Int)) (u2 := .int .i64 0) (v := .bool (decide (((l.length : Nat) : Int) = 0))) b_eql (lt_of rfl) ⟨rfl, trivial⟩)) (oZ rfl))))
        (by kernel_rfl) (by kernel_rfl) ?_
      refine nT ?_
      by_cases hq3 : ((l.length : Nat) : Int) = 0
      · refine T.condT (b := (decide (((l.length : Nat) : Int) = 0))) rfl (decide_eq_true hq3) ?_
        refine T.seq ?_
        refine tR (s1 := ⟨[slV false false (kSl false kU8) l, dv (.int .i64 at_), slV false false kU8 x, AV.any, AV.any, AV.any, dv (.bool true), AV.any, AV.any, AV.any, AV.any, AV.any, AV.any, AV.any, AV.any, dv (.bool (decide (((x.length : Nat) : Int) > 200))), AV.any, AV.any, dv (.bool (decide (((l.length : Nat) : Int) = 0)))], []⟩) [true, true, true, false, false, false, true, false, false, false, false, false, false, false, false, true, false, false, true] []
          (oC (oS rfl rfl (r_call (law_awake  ) Try.func13 rfl (by decide) [] [] (l := []) [] rfl 0 0 rfl rfl rfl rfl rfl rfl rfl rfl rfl trivial rfl (fun b hb => by cases hb) (.inl rfl) (lt_of rfl) trivial))
          (oC (oS rfl rfl (r_assign (av := dv (.bool true)) (lt_of rfl) trivial)) (oZ rfl)))
          (by kernel_rfl) (by kernel_rfl) ?_
        refine nT ?_
        refine T.ret ?_
        refine rT ?_
        exact tE (.inl rfl) [.t 6 (.one (.d (.val (.bool true))))] ⟨⟨rfl, rfl⟩, trivial⟩ [] rfl rfl rfl rfl rfl rfl trivial
      · have hbd := tmod_bd (a := at_) (b := ((l.length : Nat) : Int)) (by omega)
        refine T.condF (b := (decide (((l.length : Nat) : Int) = 0))) rfl (decide_eq_false hq3) ?_
        refine T.skip ?_
        refine nT ?_
        refine T.seq ?_
        refine tR (s1 := ⟨[slV false false (kSl false kU8) l, dv (.int .i64 (((Int.tmod at_ ((l.length : Nat) : Int)) + ((l.length : Nat) : Int)) % ((l.length : Nat) : Int))), slV false false kU8 x, AV.any, AV.any, AV.any, dv (.bool false), AV.any, AV.any, AV.any, AV.any, AV.any, AV.any, AV.any, AV.any, dv (.bool (decide (((x.length : Nat) : Int) > 200))), AV.any, AV.any, dv (.bool (decide (((l.length : Nat) : Int) = 0)))], []⟩) [true, true, true, false, false, false, true, false, false, false, false, false, false, false, false, true, false, false, true] []
          (oC (oS rfl rfl (r_move (av := dv (.int .i64 at_)) (lt_of rfl) trivial))
          (oC (oS rfl rfl (r_move (av := slV false false (kSl false kU8) l) (lt_of rfl) trivial))
          (oC (oS rfl rfl (q_len false false (kSl false kU8) l Try.underlying22 (lt_of rfl) trivial))
          (oC (oS rfl rfl (r_bin (u1 := .int .i64 at_) (u2 := .int .i64 ((l.length : Nat) : Int)) (v := .int .i64 (Int.tmod at_ ((l.length : Nat) : Int))) (b_rem (by omega) rfl) (lt_of rfl) trivial))
          (oC (oS rfl rfl (r_move (av := slV false false (kSl false kU8) l) (lt_of rfl) trivial))
          (oC (oS rfl rfl (q_len false false (kSl false kU8) l Try.underlying22 (lt_of rfl) trivial))
          (oC (oS rfl rfl (r_bin (u1 := .int .i64 (Int.tmod at_ ((l.length : Nat) : Int))) (u2 := .int .i64 ((l.length : Nat) : Int)) (v := .int .i64 ((Int.tmod at_ ((l.length : Nat) : Int)) + ((l.length : Nat) : Int))) (b_add (by rw [IntKind.wrap_i64]; omega)) (lt_of rfl) trivial))
          (oC (oS rfl rfl (r_move (av := slV false false (kSl false kU8) l) (lt_of rfl) trivial))
          (oC (oS rfl rfl (q_len false false (kSl false kU8) l Try.underlying22 (lt_of rfl) trivial))
          (oC (oS rfl rfl (r_bin (u1 := .int .i64 ((Int.tmod at_ ((l.length : Nat) : Int)) + ((l.length : Nat) : Int))) (u2 := .int .i64 ((l.length : Nat) : Int)) (v := .int .i64 (((Int.tmod at_ ((l.length : Nat) : Int)) + ((l.length : Nat) : Int)) % ((l.length : Nat) : Int))) (b_remP (by first | assumption | omega | (simp only [maxLen, kU8_sz, kSl_sz, k_api_Step_sz, k_quaestorlaw09_Claim_sz]; omega) | (simp only [maxLen, kU8_sz, kSl_sz, k_api_Step_sz, k_quaestorlaw09_Claim_sz, List.length_append, List.length_cons, List.length_nil, List.length_take, List.length_drop, List.length_set]; omega) | decide) (by first | assumption | omega | (simp only [maxLen, kU8_sz, kSl_sz, k_api_Step_sz, k_quaestorlaw09_Claim_sz]; omega) | (simp only [maxLen, kU8_sz, kSl_sz, k_api_Step_sz, k_quaestorlaw09_Claim_sz, List.length_append, List.length_cons, List.length_nil, List.length_take, List.length_drop, List.length_set]; omega) | decide)) (lt_of rfl) trivial))
          (oC (oS rfl rfl (r_assign (av := dv (.int .i64 (((Int.tmod at_ ((l.length : Nat) : Int)) + ((l.length : Nat) : Int)) % ((l.length : Nat) : Int)))) (lt_of rfl) trivial)) (oZ rfl))))))))))))
          (by kernel_rfl) (by kernel_rfl) ?_
        refine nT ?_
        refine T.seq ?_
        have hml : 0 < ((l.length : Nat) : Int) := by omega
        have hmb := Int.emod_lt_of_pos (Int.tmod at_ ((l.length : Nat) : Int) + ((l.length : Nat) : Int)) hml
        have hmn := Int.emod_nonneg (Int.tmod at_ ((l.length : Nat) : Int) + ((l.length : Nat) : Int)) (show ((l.length : Nat) : Int) ≠ 0 by omega)
        obtain ⟨j, hjE, hj⟩ : ∃ j : Nat, ((Int.tmod at_ ((l.length : Nat) : Int) + ((l.length : Nat) : Int)) % ((l.length : Nat) : Int)) = ((j : Nat) : Int) ∧ j < l.length := ⟨((Int.tmod at_ ((l.length : Nat) : Int) + ((l.length : Nat) : Int)) % ((l.length : Nat) : Int)).toNat, by omega, by omega⟩
        refine T.turn (s' := ⟨[slV false false (kSl false kU8) l, dv (.int .i64 ((j : Nat) : Int)), slV false false kU8 x, AV.any, AV.any, AV.any, dv (.bool false), AV.any, AV.any, AV.any, AV.any, AV.any, AV.any, AV.any, AV.any, dv (.bool (decide (((x.length : Nat) : Int) > 200))), AV.any, AV.any, dv (.bool (decide (((l.length : Nat) : Int) = 0)))], []⟩) (fun _ _ hG => Gs.into2 (s := ⟨[slV false false (kSl false kU8) l, dv (.int .i64 (((Int.tmod at_ ((l.length : Nat) : Int)) + ((l.length : Nat) : Int)) % ((l.length : Nat) : Int))), slV false false kU8 x, AV.any, AV.any, AV.any, dv (.bool false), AV.any, AV.any, AV.any, AV.any, AV.any, AV.any, AV.any, AV.any, dv (.bool (decide (((x.length : Nat) : Int) > 200))), AV.any, AV.any, dv (.bool (decide (((l.length : Nat) : Int) = 0)))], []⟩) (s' := ⟨[slV false false (kSl false kU8) l, dv (.int .i64 ((j : Nat) : Int)), slV false false kU8 x, AV.any, AV.any, AV.any, dv (.bool false), AV.any, AV.any, AV.any, AV.any, AV.any, AV.any, AV.any, AV.any, dv (.bool (decide (((x.length : Nat) : Int) > 200))), AV.any, AV.any, dv (.bool (decide (((l.length : Nat) : Int) = 0)))], []⟩) [] [true, true, true, false, false, false, true, false, false, false, false, false, false, false, false, true, false, false, true] (t1 := [slV false false (kSl false kU8) l, dv (.int .i64 ((j : Nat) : Int)), slV false false kU8 x, AV.any, AV.any, AV.any, dv (.bool false), AV.any, AV.any, AV.any, AV.any, AV.any, AV.any, AV.any, AV.any, dv (.bool (decide (((x.length : Nat) : Int) > 200))), AV.any, AV.any, dv (.bool (decide (((l.length : Nat) : Int) = 0)))]) (t2 := [slV false false (kSl false kU8) l, dv (.int .i64 (((Int.tmod at_ ((l.length : Nat) : Int)) + ((l.length : Nat) : Int)) % ((l.length : Nat) : Int))), slV false false kU8 x, AV.any, AV.any, AV.any, dv (.bool false), AV.any, AV.any, AV.any, AV.any, AV.any, AV.any, AV.any, AV.any, dv (.bool (decide (((x.length : Nat) : Int) > 200))), AV.any, AV.any, dv (.bool (decide (((l.length : Nat) : Int) = 0)))]) (h1 := []) (h2 := []) (by have e1 : (((j : Nat) : Int) : Int) = ((Int.tmod at_ ((l.length : Nat) : Int)) + ((l.length : Nat) : Int)) % ((l.length : Nat) : Int) := (by omega); have hE := congrArg (fun (q1 : Int) => ([slV false false (kSl false kU8) l, dv (.int .i64 q1), slV false false kU8 x, AV.any, AV.any, AV.any, dv (.bool false), AV.any, AV.any, AV.any, AV.any, AV.any, AV.any, AV.any, AV.any, dv (.bool (decide (((x.length : Nat) : Int) > 200))), AV.any, AV.any, dv (.bool (decide (((l.length : Nat) : Int) = 0)))] : List AV)) e1; exact hE) rfl (by kernel_rfl) (by kernel_rfl) (by kernel_rfl) (by kernel_rfl) (by kernel_rfl) (by kernel_rfl) (by kernel_rfl) (by kernel_rfl) (by kernel_rfl) (by kernel_rfl) (by kernel_rfl) hG) ?_
        refine tR (s1 := ⟨[slV false false (kSl false kU8) l, dv (.int .i64 ((j : Nat) : Int)), slV false false kU8 x, AV.any, AV.any, AV.any, dv (.bool false), ownV 1 (kSl false kU8) 0 l.length, AV.any, AV.any, AV.any, AV.any, AV.any, AV.any, AV.any, dv (.bool (decide (((x.length : Nat) : Int) > 200))), AV.any, AV.any, dv (.bool (decide (((l.length : Nat) : Int) = 0)))], [.dead, .live (arrK 33 (kSl false kU8) l)]⟩) [true, true, true, false, false, false, true, true, false, false, false, false, false, false, false, true, false, false, true] [true, true]
          (oC (oS rfl rfl (q_buildSlice 0 33 (kSl false kU8) (kSl_ok false kU8) ([] : List (List UInt8)) [] (cs := []) Try.underlying22 iat_33 rfl zero_33 rfl rfl rfl (Nat.le_of_ble_eq_true rfl) part_ok rfl trivial (lt_of rfl) trivial))
          (oC (oS rfl rfl (r_move (av := slV false false (kSl false kU8) l) (lt_of rfl) trivial))
          (oC (oS rfl rfl (q_appendO 0 1 33 24 (kSl false kU8) (kSl_ok false kU8) ([] : List (List UInt8)) l l ([] : List (List UInt8)).length (sy := (.d (dsl false false (kSl false kU8) l))) (rhs := []) elem_22 (by first | assumption | omega | (simp only [maxLen, kU8_sz, kSl_sz, k_api_Step_sz, k_quaestorlaw09_Claim_sz]; omega) | (simp only [maxLen, kU8_sz, kSl_sz, k_api_Step_sz, k_quaestorlaw09_Claim_sz, List.length_append, List.length_cons, List.length_nil, List.length_take, List.length_drop, List.length_set]; omega) | decide) (src_sl false false (kSl false kU8) l) (by simp) (by first | assumption | omega | (simp only [maxLen, kU8_sz, kSl_sz, k_api_Step_sz, k_quaestorlaw09_Claim_sz]; omega) | (simp only [maxLen, kU8_sz, kSl_sz, k_api_Step_sz, k_quaestorlaw09_Claim_sz, List.length_append, List.length_cons, List.length_nil, List.length_take, List.length_drop, List.length_set]; omega) | decide) (by first | assumption | omega | (simp only [maxLen, kU8_sz, kSl_sz, k_api_Step_sz, k_quaestorlaw09_Claim_sz]; omega) | (simp only [maxLen, kU8_sz, kSl_sz, k_api_Step_sz, k_quaestorlaw09_Claim_sz, List.length_append, List.length_cons, List.length_nil, List.length_take, List.length_drop, List.length_set]; omega) | decide) (lt_of rfl) trivial))
          (oC (oS rfl rfl (r_assign (av := ownV 1 (kSl false kU8) 0 l.length) (lt_of rfl) trivial)) (oZ rfl)))))
          (by kernel_rfl) (by kernel_rfl) ?_
        refine nT ?_
        refine T.seq ?_
        refine tR (s1 := ⟨[slV false false (kSl false kU8) l, dv (.int .i64 ((j : Nat) : Int)), slV false false kU8 x, AV.any, AV.any, AV.any, dv (.bool false), ownV 1 (kSl false kU8) 0 l.length, AV.any, AV.any, AV.any, AV.any, AV.any, AV.any, AV.any, dv (.bool (decide (((x.length : Nat) : Int) > 200))), AV.any, AV.any, dv (.bool (decide (((l.length : Nat) : Int) = 0)))], [.dead, .live (arrK 33 (kSl false kU8) (l.set j x))]⟩) [true, true, true, false, false, false, true, true, false, false, false, false, false, false, false, true, false, false, true] [true, true]
          (oC (oS rfl rfl (r_move (av := ownV 1 (kSl false kU8) 0 l.length) (lt_of rfl) trivial))
          (oC (oS rfl rfl (r_move (av := dv (.int .i64 ((j : Nat) : Int))) (lt_of rfl) trivial))
          (oC (oS rfl rfl (r_move (av := slV false false kU8 x) (lt_of rfl) trivial))
          (oC (oS rfl rfl (r_indexO (k := .i64) (l := 1) (sz := (kSl false kU8).sz) (off := 0) (n := l.length) (i := ((j : Nat) : Int)) (m := j) (o' := j * (kSl false kU8).sz + 0) Try.underlying22 iat_33 rfl rfl (by first | assumption | omega | (simp only [maxLen, kU8_sz, kSl_sz, k_api_Step_sz, k_quaestorlaw09_Claim_sz]; omega) | (simp only [maxLen, kU8_sz, kSl_sz, k_api_Step_sz, k_quaestorlaw09_Claim_sz, List.length_append, List.length_cons, List.length_nil, List.length_take, List.length_drop, List.length_set]; omega) | decide) (by first | rfl | simp) (lt_of rfl) trivial))
          (oC (oS rfl rfl (q_storeA 1 33 (kSl false kU8) l x j 0 1 [dsl false false kU8 x] (tv := .one (.d (dsl false false kU8 x))) (off := j * (kSl false kU8).sz + 0) cells_33 ⟨(.inl rfl), trivial⟩ rfl rfl (by first | assumption | omega | (simp only [maxLen, kU8_sz, kSl_sz, k_api_Step_sz, k_quaestorlaw09_Claim_sz]; omega) | (simp only [maxLen, kU8_sz, kSl_sz, k_api_Step_sz, k_quaestorlaw09_Claim_sz, List.length_append, List.length_cons, List.length_nil, List.length_take, List.length_drop, List.length_set]; omega) | decide) (by decide) rfl (by intro j hj; replace hj : j < 1 := hj; rcases j with _ | j <;> first | rfl | omega) trivial)) (oZ rfl))))))
          (by kernel_rfl) (by kernel_rfl) ?_
        refine nT ?_
        refine T.seq ?_
        by_cases hq4 : (decide ((rootB l) = (rootB (l.set j x)))) = (decide ((l.getD j []) = x))
        · refine T.turn (s' := ⟨[slV false false (kSl false kU8) l, dv (.int .i64 ((j : Nat) : Int)), slV false false kU8 x, AV.any, AV.any, AV.any, dv (.bool false), ownV 1 (kSl false kU8) 0 (l.set j x).length, AV.any, AV.any, AV.any, AV.any, AV.any, AV.any, AV.any, dv (.bool (decide (((x.length : Nat) : Int) > 200))), AV.any, AV.any, dv (.bool (decide (((l.length : Nat) : Int) = 0)))], [.dead, .live (arrK 33 (kSl false kU8) (l.set j x))]⟩) (fun _ _ hG => Gs.into2 (s := ⟨[slV false false (kSl false kU8) l, dv (.int .i64 ((j : Nat) : Int)), slV false false kU8 x, AV.any, AV.any, AV.any, dv (.bool false), ownV 1 (kSl false kU8) 0 l.length, AV.any, AV.any, AV.any, AV.any, AV.any, AV.any, AV.any, dv (.bool (decide (((x.length : Nat) : Int) > 200))), AV.any, AV.any, dv (.bool (decide (((l.length : Nat) : Int) = 0)))], [.dead, .live (arrK 33 (kSl false kU8) (l.set j x))]⟩) (s' := ⟨[slV false false (kSl false kU8) l, dv (.int .i64 ((j : Nat) : Int)), slV false false kU8 x, AV.any, AV.any, AV.any, dv (.bool false), ownV 1 (kSl false kU8) 0 (l.set j x).length, AV.any, AV.any, AV.any, AV.any, AV.any, AV.any, AV.any, dv (.bool (decide (((x.length : Nat) : Int) > 200))), AV.any, AV.any, dv (.bool (decide (((l.length : Nat) : Int) = 0)))], [.dead, .live (arrK 33 (kSl false kU8) (l.set j x))]⟩) [3, 1] [true, true, true, false, false, false, true, true, false, false, false, false, false, false, false, true, false, false, true] (t1 := [slV false false (kSl false kU8) l, dv (.int .i64 ((j : Nat) : Int)), slV false false kU8 x, AV.any, AV.any, AV.any, dv (.bool false), ownV 1 (kSl false kU8) 0 (l.set j x).length, AV.any, AV.any, AV.any, AV.any, AV.any, AV.any, AV.any, dv (.bool (decide (((x.length : Nat) : Int) > 200))), AV.any, AV.any, dv (.bool (decide (((l.length : Nat) : Int) = 0)))]) (t2 := [slV false false (kSl false kU8) l, dv (.int .i64 ((j : Nat) : Int)), slV false false kU8 x, AV.any, AV.any, AV.any, dv (.bool false), ownV 1 (kSl false kU8) 0 l.length, AV.any, AV.any, AV.any, AV.any, AV.any, AV.any, AV.any, dv (.bool (decide (((x.length : Nat) : Int) > 200))), AV.any, AV.any, dv (.bool (decide (((l.length : Nat) : Int) = 0)))]) (h1 := [.dead, .live (arrK 33 (kSl false kU8) (l.set j x))]) (h2 := [.dead, .live (arrK 33 (kSl false kU8) (l.set j x))]) (by have e1 : ((l.set j x).length : Nat) = l.length := (by simp only [List.length_set]); have hE := congrArg (fun (q1 : Nat) => ([slV false false (kSl false kU8) l, dv (.int .i64 ((j : Nat) : Int)), slV false false kU8 x, AV.any, AV.any, AV.any, dv (.bool false), ownV 1 (kSl false kU8) 0 q1, AV.any, AV.any, AV.any, AV.any, AV.any, AV.any, AV.any, dv (.bool (decide (((x.length : Nat) : Int) > 200))), AV.any, AV.any, dv (.bool (decide (((l.length : Nat) : Int) = 0)))] : List AV)) e1; exact hE) rfl (by kernel_rfl) (by kernel_rfl) (by kernel_rfl) (by kernel_rfl) (by kernel_rfl) (by kernel_rfl) (by kernel_rfl) (by kernel_rfl) (by kernel_rfl) (by kernel_rfl) (by kernel_rfl) hG) ?_
          refine tD (s1 := ⟨[slV false false (kSl false kU8) l, dv (.int .i64 ((j : Nat) : Int)), slV false false kU8 x, AV.any, AV.any, AV.any, dv (.bool true), ownV 1 (kSl false kU8) 0 (l.set j x).length, AV.any, AV.any, AV.any, AV.any, AV.any, AV.any, AV.any, dv (.bool (decide (((x.length : Nat) : Int) > 200))), AV.any, AV.any, dv (.bool (decide (((l.length : Nat) : Int) = 0)))], [.dead, .live (arrK 33 (kSl false kU8) (l.set j x))]⟩) (by kernel_rfl) [[], [0], [], [0, 1, 2], [0, 1, 2, 3], [], [], [5, 6], [5, 6, 7], [], [0, 1, 2, 3, 5, 6, 7, 8, 9], [0, 1, 2, 3, 4, 5, 6, 7, 8, 9, 10], [0, 1, 2, 3, 4, 5, 6, 7, 8, 9, 10, 11], [0, 1, 2, 3, 4, 5, 6, 7, 8, 9, 10, 11, 12], [0, 1, 2, 3, 4, 5, 6, 7, 8, 9, 10, 11, 12, 13], [0, 1, 2, 3, 4, 5, 6, 7, 8, 9, 10, 11, 12, 13, 14]] [true, true, true, false, false, false, true, true, false, false, false, false, false, false, false, true, false, false, true] [true, true]
            (oC (oS rfl rfl (r_move (av := slV false false (kSl false kU8) l) (lt_of rfl) trivial))
            (oC (oS rfl rfl (r_call (merkle_Root false false false l (by first | assumption | exact fewG_take (by assumption) _ | exact fewG_drop (by assumption) _ | exact fewG_set (by assumption) (by assumption) | decide)) Try.func11 rfl (by decide) [] [] (l := [(.tmp 37, slV false false (kSl false kU8) l)]) [] rfl 0 0 rfl rfl rfl rfl rfl rfl rfl rfl rfl ⟨.inl ⟨rfl, rfl⟩, trivial⟩ rfl (fun b hb => by cases hb) (.inl rfl) (lt_of rfl) trivial))
            (oC (oS rfl rfl (r_move (av := ownV 1 (kSl false kU8) 0 (l.set j x).length) (lt_of rfl) trivial))
            (oC (oS rfl rfl (r_call (merkle_Root true false false (l.set j x) (by first | assumption | exact fewG_take (by assumption) _ | exact fewG_drop (by assumption) _ | exact fewG_set (by assumption) (by assumption) | decide)) Try.func11 rfl (by decide) [] [1] (l := [(.tmp 39, ownV 1 (kSl false kU8) 0 (l.set j x).length)]) [(1, .live (arrK 33 (kSl false kU8) (l.set j x)))] rfl 0 0 rfl rfl rfl rfl rfl rfl rfl rfl rfl ⟨.inr (.inl ⟨rfl, (fun h => by cases h), rfl, rfl, by simp, 33, (l.set j x).length, elOf (kSl false kU8) (l.set j x), List.Mem.head _, by omega, fun i j => by rw [Nat.zero_add]⟩), trivial⟩ rfl (by intro b hb; simp only [List.mem_cons, List.not_mem_nil, or_false] at hb; rcases hb with rfl; exact ⟨_, List.Mem.head _⟩) (.inr ⟨trivial, trivial⟩) (lt_of rfl) trivial))
            (oC (oS rfl rfl (r_bin (u1 := strV (rootB l)) (u2 := strV (rootB (l.set j x))) (v := .bool (decide ((rootB l) = (rootB (l.set j x))))) b_eqlS (lt_of rfl) trivial))
            (oC (oS rfl rfl (r_move (av := slV false false (kSl false kU8) l) (lt_of rfl) trivial))
            (oC (oS rfl rfl (r_move (av := dv (.int .i64 ((j : Nat) : Int))) (lt_of rfl) trivial))
            (oC (oS rfl rfl (q_index false false (kSl false kU8) l j (k := .i64) (i := ((j : Nat) : Int)) Try.underlying22 iat_33 rfl rfl (by first | assumption | omega | (simp only [maxLen, kU8_sz, kSl_sz, k_api_Step_sz, k_quaestorlaw09_Claim_sz]; omega) | (simp only [maxLen, kU8_sz, kSl_sz, k_api_Step_sz, k_quaestorlaw09_Claim_sz, List.length_append, List.length_cons, List.length_nil, List.length_take, List.length_drop, List.length_set]; omega) | decide) (lt_of rfl) trivial))
            (oC (oS rfl rfl (r_loadE (tag := false) (n := 1) (el := (kSl false kU8).cell (l.getD j (kSl false kU8).z)) (e0 := dsl false false kU8 (l.getD j [])) wide_33 (by decide) rfl (lt_of rfl) trivial))
            (oC (oS rfl rfl (r_move (av := slV false false kU8 x) (lt_of rfl) trivial))
            (oC (oS rfl rfl (r_call (ref01_Same false false false false (l.getD j []) x ) Try.func20 rfl (by decide) [] [] (l := [(.tmp 45, slV false false kU8 (l.getD j [])), (.tmp 46, slV false false kU8 x)]) [] rfl 0 0 rfl rfl rfl rfl rfl rfl rfl rfl rfl ⟨.inl ⟨rfl, rfl⟩, ⟨.inl ⟨rfl, rfl⟩, trivial⟩⟩ rfl (fun b hb => by cases hb) (.inl rfl) (lt_of rfl) trivial))
            (oC (oS rfl rfl (r_bin (u1 := .bool (decide ((rootB l) = (rootB (l.set j x))))) (u2 := .bool (decide ((l.getD j []) = x))) (v := .bool (decide ((decide ((rootB l) = (rootB (l.set j x)))) = (decide ((l.getD j []) = x))))) (b_eqlB Try.underlying4) (lt_of rfl) trivial))
            (oC (oS rfl rfl (r_move (av := dv (.bool (decide ((decide ((rootB l) = (rootB (l.set j x)))) = (decide ((l.getD j []) = x)))))) (lt_of rfl) trivial))
            (oC (oY (b := (decide ((decide ((rootB l) = (rootB (l.set j x)))) = (decide ((l.getD j []) = x))))) rfl rfl rfl rfl (lt_of rfl) (decide_eq_true hq4) (r_call (law_awake  ) Try.func13 rfl (by decide) [] [] (l := []) [] rfl 0 0 rfl rfl rfl rfl rfl rfl rfl rfl rfl trivial rfl (fun b hb => by cases hb) (.inl rfl) (lt_of rfl) trivial))
            (oC (oS rfl rfl (r_pickT (b := (decide ((decide ((rootB l) = (rootB (l.set j x)))) = (decide ((l.getD j []) = x))))) (av := dv (.bool true)) (lt_of rfl) trivial (decide_eq_true hq4)))
            (oC (oS rfl rfl (r_assign (av := dv (.bool true)) (lt_of rfl) trivial)) (oZ rfl)))))))))))))))))
            (by kernel_rfl) (by kernel_rfl) (by kernel_rfl) (by kernel_rfl) (by kernel_rfl) ?_
          refine nT ?_
          refine T.ret ?_
          exact tE (.inl rfl) [.t 6 (.one (.d (.val (.bool true))))] ⟨⟨rfl, rfl⟩, trivial⟩ [] rfl rfl rfl rfl rfl rfl trivial
        · exact absurd (by rw [decide_eq_decide]; exact apart_ok hf hxb hj) hq4
  · refine tR (s1 := ⟨[slV false false (kSl false kU8) l, dv (.int .i64 at_), slV false false kU8 x, AV.any, AV.any, AV.any, dv (.bool false), AV.any, AV.any, AV.any, AV.any, AV.any, AV.any, AV.any, AV.any, dv (.bool true)], []⟩) [true, true, true, false, false, false, true, false, false, false, false, false, false, false, false, true] []
      (oC (oS rfl rfl (r_move (av := slV false false (kSl false kU8) l) (lt_of rfl) trivial))
      (oC (oS rfl rfl (r_call (law_few false false false l (by first | assumption | omega | (simp only [maxLen, kU8_sz, kSl_sz, k_api_Step_sz, k_quaestorlaw09_Claim_sz]; omega) | (simp only [maxLen, kU8_sz, kSl_sz, k_api_Step_sz, k_quaestorlaw09_Claim_sz, List.length_append, List.length_cons, List.length_nil, List.length_take, List.length_drop, List.length_set]; omega) | decide)) Try.func10 rfl (by decide) [] [] (l := [(.tmp 8, slV false false (kSl false kU8) l)]) [] rfl 0 0 rfl rfl rfl rfl rfl rfl rfl rfl rfl ⟨.inl ⟨rfl, rfl⟩, trivial⟩ rfl (fun b hb => by cases hb) (.inl rfl) (lt_of rfl) trivial))
      (oC (oS rfl rfl (r_un (u := .bool (decide (fewG szL 40 200 l))) (v := .bool (!(decide (fewG szL 40 200 l)))) u_not (lt_of rfl) trivial))
      (oC (oS rfl rfl (r_move (av := dv (.bool (!(decide (fewG szL 40 200 l))))) (lt_of rfl) trivial))
      (oC (oN (b := (!(decide (fewG szL 40 200 l)))) rfl rfl rfl rfl (lt_of rfl) (congrArg Bool.not (decide_eq_false hq1)) rfl (lt_of rfl))
      (oC (oN (b := (!(decide (fewG szL 40 200 l)))) rfl rfl rfl rfl (lt_of rfl) (congrArg Bool.not (decide_eq_false hq1)) rfl (lt_of rfl))
      (oC (oN (b := (!(decide (fewG szL 40 200 l)))) rfl rfl rfl rfl (lt_of rfl) (congrArg Bool.not (decide_eq_false hq1)) rfl (lt_of rfl))
      (oC (oS rfl rfl (r_pickT (b := (!(decide (fewG szL 40 200 l)))) (av := dv (.bool true)) (lt_of rfl) ⟨rfl, trivial⟩ (congrArg Bool.not (decide_eq_false hq1)))) (oZ rfl)))))))))
      (by kernel_rfl) (by kernel_rfl) ?_
    refine nT ?_
    refine T.condT (b := true) rfl rfl ?_
    refine T.seq ?_
    refine tR (s1 := ⟨[slV false false (kSl false kU8) l, dv (.int .i64 at_), slV false false kU8 x, AV.any, AV.any, AV.any, dv (.bool true), AV.any, AV.any, AV.any, AV.any, AV.any, AV.any, AV.any, AV.any, dv (.bool true)], []⟩) [true, true, true, false, false, false, true, false, false, false, false, false, false, false, false, true] []
      (oC (oS rfl rfl (r_assign (av := dv (.bool true)) (lt_of rfl) ⟨rfl, trivial⟩)) (oZ rfl))
      (by kernel_rfl) (by kernel_rfl) ?_
    refine nT ?_
    refine T.ret ?_
    refine rT ?_
    exact tE (.inl rfl) [.t 6 (.one (.d (.val (.bool true))))] ⟨⟨rfl, rfl⟩, trivial⟩ [] rfl rfl rfl rfl rfl rfl trivial
end Go.Proofs.Ytcpdbbabbnbghaa.Q
