import Derived.Test.YtcpdbbabbnbghaaC09n8
namespace Go.Proofs.Ytcpdbbabbnbghaa.Q
open Go Go.RowKit
set_option linter.unusedVariables false
set_option linter.unusedSimpArgs false
set_option maxRecDepth 100000
set_option maxHeartbeats 4000000
-- quaestor/quaestorlaw09.MerkleProves
theorem law_MerkleProves (l : List (List UInt8)) (hl : l.length ≤ 9223372036854775807) : Holds Try.prog 6 ⟨[slV false false (kSl false kU8) l], [], dv (.bool true), []⟩ := by
  refine Holds.of Try.func6 rfl (N := 40) Try.ntmps6 rfl fun w0 B0 S0 U0 => ?_
  show T _ (mkBase 40 0 w0 S0 U0 B0) ⟨[slV false false (kSl false kU8) l], []⟩ _ _
  refine T.seq ?_
  refine tR (s1 := ⟨[slV false false (kSl false kU8) l, AV.any, dv (.bool false)], []⟩) [true, false, true] []
    (oC (oS rfl rfl (r_assign (av := dv (.bool false)) (lt_of rfl) ⟨rfl, trivial⟩)) (oZ rfl))
    (by kernel_rfl) (by kernel_rfl) ?_
  refine nT ?_
  refine T.seq ?_
  refine T.seq ?_
  refine tR (s1 := ⟨[slV false false (kSl false kU8) l, AV.any, dv (.bool false), AV.any, AV.any, AV.any, AV.any, AV.any, AV.any, dv (.bool (!(decide (fewG szL 40 200 l))))], []⟩) [true, false, true, false, false, false, false, false, false, true] []
    (oC (oS rfl rfl (r_move (av := slV false false (kSl false kU8) l) (lt_of rfl) trivial))
    (oC (oS rfl rfl (r_call (law_few false false false l (by first | assumption | omega | (simp only [maxLen, kU8_sz, kSl_sz, k_api_Step_sz, k_quaestorlaw09_Claim_sz]; omega) | (simp only [maxLen, kU8_sz, kSl_sz, k_api_Step_sz, k_quaestorlaw09_Claim_sz, List.length_append, List.length_cons, List.length_nil, List.length_take, List.length_drop, List.length_set]; omega) | decide)) Try.func10 rfl (by decide) [] [] (l := [(.tmp 7, slV false false (kSl false kU8) l)]) [] rfl 0 0 rfl rfl rfl rfl rfl rfl rfl rfl rfl ⟨.inl ⟨rfl, rfl⟩, trivial⟩ rfl (fun b hb => by cases hb) (.inl rfl) (lt_of rfl) trivial))
    (oC (oS rfl rfl (r_un (u := .bool (decide (fewG szL 40 200 l))) (v := .bool (!(decide (fewG szL 40 200 l)))) u_not (lt_of rfl) trivial)) (oZ rfl))))
    (by kernel_rfl) (by kernel_rfl) ?_
  refine nT ?_
  by_cases hq1 : fewG szL 40 200 l
  · have hf := hq1; have hl40 := hf.1
    refine T.condF (b := (!(decide (fewG szL 40 200 l)))) rfl (congrArg Bool.not (decide_eq_true hq1)) ?_
    refine T.skip ?_
    refine nT ?_
    refine T.seq ?_
    refine tR (s1 := ⟨[slV false false (kSl false kU8) l, AV.any, dv (.bool false), dv (strV (rootB l)), AV.any, AV.any, AV.any, AV.any, AV.any, dv (.bool (!(decide (fewG szL 40 200 l))))], []⟩) [true, false, true, true, false, false, false, false, false, true] []
      (oC (oS rfl rfl (r_move (av := slV false false (kSl false kU8) l) (lt_of rfl) trivial))
      (oC (oS rfl rfl (r_call (merkle_Root false false false l (by first | assumption | exact fewG_take (by assumption) _ | exact fewG_drop (by assumption) _ | exact fewG_set (by assumption) (by assumption) | decide)) Try.func11 rfl (by decide) [] [] (l := [(.tmp 10, slV false false (kSl false kU8) l)]) [] rfl 0 0 rfl rfl rfl rfl rfl rfl rfl rfl rfl ⟨.inl ⟨rfl, rfl⟩, trivial⟩ rfl (fun b hb => by cases hb) (.inl rfl) (lt_of rfl) trivial))
      (oC (oS rfl rfl (r_assign (av := dv (strV (rootB l))) (lt_of rfl) trivial)) (oZ rfl))))
      (by kernel_rfl) (by kernel_rfl) ?_
    refine nT ?_
    refine T.seq ?_
    refine T.seq ?_
    refine tR (s1 := ⟨[slV false false (kSl false kU8) l, AV.any, dv (.bool false), dv (strV (rootB l)), dv (.int .i64 0), AV.any, AV.any, AV.any, AV.any, dv (.bool (!(decide (fewG szL 40 200 l))))], []⟩) [true, false, true, true, true, false, false, false, false, true] []
      (oC (oS rfl rfl (r_assign (av := dv (.int .i64 0)) (lt_of rfl) ⟨rfl, trivial⟩)) (oZ rfl))
      (by kernel_rfl) (by kernel_rfl) ?_
    refine nT ?_
    refine T.block ?_
    refine T.loop (ι := Nat) (fun (k : Nat) => ⟨[slV false false (kSl false kU8) l, AV.any, AV.any, dv (strV (rootB l)), dv (.int .i64 ((k : Nat) : Int))], []⟩) (fun (k : Nat) => (k ≤ l.length)) (fun (k : Nat) => l.length - k) (0) (Nat.zero_le _) (fun _ _ hG => Gs.into2 (s := ⟨[slV false false (kSl false kU8) l, AV.any, dv (.bool false), dv (strV (rootB l)), dv (.int .i64 0), AV.any, AV.any, AV.any, AV.any, dv (.bool (!(decide (fewG szL 40 200 l))))], []⟩) (s' := ⟨[slV false false (kSl false kU8) l, AV.any, AV.any, dv (strV (rootB l)), dv (.int .i64 0)], []⟩) [] [true, false, false, true, true] (t1 := [slV false false (kSl false kU8) l, AV.any, AV.any, dv (strV (rootB l)), dv (.int .i64 0)]) (t2 := [slV false false (kSl false kU8) l, AV.any, AV.any, dv (strV (rootB l)), dv (.int .i64 0)]) (h1 := []) (h2 := []) rfl rfl (by kernel_rfl) (by kernel_rfl) (by kernel_rfl) (by kernel_rfl) (by kernel_rfl) (by kernel_rfl) (by kernel_rfl) (by kernel_rfl) (by kernel_rfl) (by kernel_rfl) (by kernel_rfl) hG) ?_
    rintro k hk
    show T _ _ ⟨[slV false false (kSl false kU8) l, AV.any, AV.any, dv (strV (rootB l)), dv (.int .i64 ((k : Nat) : Int))], []⟩ _ _
    replace hk : k ≤ l.length := hk
    have hgl : (l.getD k []).length ≤ 200 := fewG_get (sz := szL) hf (by decide) k
    refine T.seq ?_
    refine T.seq ?_
    refine tR (s1 := ⟨[slV false false (kSl false kU8) l, AV.any, AV.any, dv (strV (rootB l)), dv (.int .i64 ((k : Nat) : Int)), AV.any, AV.any, AV.any, AV.any, AV.any, AV.any, AV.any, AV.any, AV.any, AV.any, dv (.bool (decide (((k : Nat) : Int) < ((l.length : Nat) : Int))))], []⟩) [true, false, false, true, true, false, false, false, false, false, false, false, false, false, false, true] []
      (oC (oS rfl rfl (r_move (av := dv (.int .i64 ((k : Nat) : Int))) (lt_of rfl) trivial))
      (oC (oS rfl rfl (r_move (av := slV false false (kSl false kU8) l) (lt_of rfl) trivial))
      (oC (oS rfl rfl (q_len false false (kSl false kU8) l Try.underlying22 (lt_of rfl) trivial))
      (oC (oS rfl rfl (r_bin (u1 := .int .i64 ((k : Nat) : Int)) (u2 := .int .i64 ((l.length : Nat) : Int)) (v := .bool (decide (((k : Nat) : Int) < ((l.length : Nat) : Int)))) b_lss (lt_of rfl) trivial)) (oZ rfl)))))
      (by kernel_rfl) (by kernel_rfl) ?_
    refine nT ?_
    by_cases hq2 : ((k : Nat) : Int) < ((l.length : Nat) : Int)
    · refine T.condT (b := (decide (((k : Nat) : Int) < ((l.length : Nat) : Int)))) rfl (decide_eq_true hq2) ?_
      refine T.skip ?_
      refine nT ?_
      refine T.seq ?_
      refine T.block ?_
      refine T.seq ?_
      refine tR (s1 := ⟨[slV false false (kSl false kU8) l, AV.any, AV.any, dv (strV (rootB l)), dv (.int .i64 ((k : Nat) : Int)), slV false false (k_api_Step false) (pathB l ((k : Nat) : Int)), dv (.int .i64 (pathE l ((k : Nat) : Int))), AV.any, AV.any, AV.any, AV.any, AV.any, AV.any, AV.any, AV.any, dv (.bool (decide (((k : Nat) : Int) < ((l.length : Nat) : Int))))], []⟩) [true, false, false, true, true, true, true, false, false, false, false, false, false, false, false, true] []
        (oC (oS rfl rfl (r_move (av := slV false false (kSl false kU8) l) (lt_of rfl) trivial))
        (oC (oS rfl rfl (r_move (av := dv (.int .i64 ((k : Nat) : Int))) (lt_of rfl) trivial))
        (oC (oS rfl rfl (r_call (merkle_Path false false false l ((k : Nat) : Int) (by first | assumption | exact fewG_take (by assumption) _ | exact fewG_drop (by assumption) _ | exact fewG_set (by assumption) (by assumption) | decide)) Try.func14 rfl (by decide) [] [] (l := [(.tmp 19, slV false false (kSl false kU8) l), (.tmp 20, dv (.int .i64 ((k : Nat) : Int)))]) [] rfl 0 0 rfl rfl rfl rfl rfl rfl rfl rfl rfl ⟨.inl ⟨rfl, rfl⟩, ⟨.inl ⟨rfl, rfl⟩, trivial⟩⟩ rfl (fun b hb => by cases hb) (.inl rfl) (lt_of rfl) trivial))
        (oC (oS rfl rfl (r_move (av := .tup [.one (.d (dsl false false (k_api_Step false) (pathB l ((k : Nat) : Int)))), .one (.d (.val (.int .i64 (pathE l ((k : Nat) : Int)))))]) (lt_of rfl) trivial))
        (oC (oS rfl rfl (r_extract (l := [.one (.d (dsl false false (k_api_Step false) (pathB l ((k : Nat) : Int)))), .one (.d (.val (.int .i64 (pathE l ((k : Nat) : Int)))))]) (tv := .one (.d (dsl false false (k_api_Step false) (pathB l ((k : Nat) : Int))))) rfl (lt_of rfl) trivial))
        (oC (oS rfl rfl (r_extract (l := [.one (.d (dsl false false (k_api_Step false) (pathB l ((k : Nat) : Int)))), .one (.d (.val (.int .i64 (pathE l ((k : Nat) : Int)))))]) (tv := .one (.d (.val (.int .i64 (pathE l ((k : Nat) : Int)))))) rfl (lt_of rfl) trivial))
        (oC (oS rfl rfl (r_assign (av := slV false false (k_api_Step false) (pathB l ((k : Nat) : Int))) (lt_of rfl) trivial))
        (oC (oS rfl rfl (r_assign (av := dv (.int .i64 (pathE l ((k : Nat) : Int)))) (lt_of rfl) trivial)) (oZ rfl)))))))))
        (by kernel_rfl) (by kernel_rfl) ?_
      refine nT ?_
      refine T.seq ?_
      by_cases hq3 : (pathE l ((k : Nat) : Int)) ≠ 0
      · exact absurd (pathE_ok (by omega)) hq3
      · refine tR (s1 := ⟨[slV false false (kSl false kU8) l, AV.any, AV.any, dv (strV (rootB l)), dv (.int .i64 ((k : Nat) : Int)), slV false false (k_api_Step false) (pathB l ((k : Nat) : Int)), dv (.int .i64 (pathE l ((k : Nat) : Int))), AV.any, AV.any, AV.any, AV.any, AV.any, AV.any, AV.any, AV.any, dv (.bool (decide (((k : Nat) : Int) < ((l.length : Nat) : Int)))), AV.any, AV.any, AV.any, AV.any, AV.any, AV.any, AV.any, AV.any, AV.any, AV.any, AV.any, AV.any, AV.any, AV.any, AV.any, AV.any, AV.any, AV.any, AV.any, AV.any, AV.any, AV.any, dv (.bool (decide ((checkM (rootB l) (l.getD k []) ((k : Nat) : Int) ((l.length : Nat) : Int) (pathB l ((k : Nat) : Int))) ≠ 0)))], []⟩) [true, false, false, true, true, true, true, false, false, false, false, false, false, false, false, true, false, false, false, false, false, false, false, false, false, false, false, false, false, false, false, false, false, false, false, false, false, false, true] []
          (oC (oS rfl rfl (r_move (av := dv (.int .i64 (pathE l ((k : Nat) : Int)))) (lt_of rfl) trivial))
          (oC (oS rfl rfl (r_bin (u1 := .int .i64 (pathE l ((k : Nat) : Int))) (u2 := .int .i64 0) (v := .bool (decide ((pathE l ((k : Nat) : Int)) ≠ 0))) b_neq (lt_of rfl) ⟨rfl, trivial⟩))
          (oC (oS rfl rfl (r_move (av := dv (.bool (decide ((pathE l ((k : Nat) : Int)) ≠ 0)))) (lt_of rfl) trivial))
          (oC (oY (b := (decide ((pathE l ((k : Nat) : Int)) ≠ 0))) rfl rfl rfl rfl (lt_of rfl) (decide_eq_false hq3) (r_move (av := dv (strV (rootB l))) (lt_of rfl) trivial))
          (oC (oY (b := (decide ((pathE l ((k : Nat) : Int)) ≠ 0))) rfl rfl rfl rfl (lt_of rfl) (decide_eq_false hq3) (r_move (av := slV false false (kSl false kU8) l) (lt_of rfl) trivial))
          (oC (oY (b := (decide ((pathE l ((k : Nat) : Int)) ≠ 0))) rfl rfl rfl rfl (lt_of rfl) (decide_eq_false hq3) (r_move (av := dv (.int .i64 ((k : Nat) : Int))) (lt_of rfl) trivial))
          (oC (oY (b := (decide ((pathE l ((k : Nat) : Int)) ≠ 0))) rfl rfl rfl rfl (lt_of rfl) (decide_eq_false hq3) (q_index false false (kSl false kU8) l k (k := .i64) (i := ((k : Nat) : Int)) Try.underlying22 iat_33 rfl rfl (by first | assumption | omega | (simp only [maxLen, kU8_sz, kSl_sz, k_api_Step_sz, k_quaestorlaw09_Claim_sz]; omega) | (simp only [maxLen, kU8_sz, kSl_sz, k_api_Step_sz, k_quaestorlaw09_Claim_sz, List.length_append, List.length_cons, List.length_nil, List.length_take, List.length_drop, List.length_set]; omega) | decide) (lt_of rfl) trivial))
          (oC (oY (b := (decide ((pathE l ((k : Nat) : Int)) ≠ 0))) rfl rfl rfl rfl (lt_of rfl) (decide_eq_false hq3) (r_loadE (tag := false) (n := 1) (el := (kSl false kU8).cell (l.getD k (kSl false kU8).z)) (e0 := dsl false false kU8 (l.getD k [])) wide_33 (by decide) rfl (lt_of rfl) trivial))
          (oC (oY (b := (decide ((pathE l ((k : Nat) : Int)) ≠ 0))) rfl rfl rfl rfl (lt_of rfl) (decide_eq_false hq3) (r_move (av := dv (.int .i64 ((k : Nat) : Int))) (lt_of rfl) trivial))
          (oC (oY (b := (decide ((pathE l ((k : Nat) : Int)) ≠ 0))) rfl rfl rfl rfl (lt_of rfl) (decide_eq_false hq3) (r_move (av := slV false false (kSl false kU8) l) (lt_of rfl) trivial))
          (oC (oY (b := (decide ((pathE l ((k : Nat) : Int)) ≠ 0))) rfl rfl rfl rfl (lt_of rfl) (decide_eq_false hq3) (q_len false false (kSl false kU8) l Try.underlying22 (lt_of rfl) trivial))
          (oC (oY (b := (decide ((pathE l ((k : Nat) : Int)) ≠ 0))) rfl rfl rfl rfl (lt_of rfl) (decide_eq_false hq3) (r_move (av := slV false false (k_api_Step false) (pathB l ((k : Nat) : Int))) (lt_of rfl) trivial))
          (oC (oY (b := (decide ((pathE l ((k : Nat) : Int)) ≠ 0))) rfl rfl rfl rfl (lt_of rfl) (decide_eq_false hq3) (r_call (merkle_Check (rootB l) false false (l.getD k []) ((k : Nat) : Int) ((l.length : Nat) : Int) false false (pathB l ((k : Nat) : Int)) (by first | assumption | exact few_path (by assumption) _ | exact fewG_mono (by assumption) (by decide) | decide +kernel) (by first | assumption | omega | (simp only [maxLen, kU8_sz, kSl_sz, k_api_Step_sz, k_quaestorlaw09_Claim_sz]; omega) | (simp only [maxLen, kU8_sz, kSl_sz, k_api_Step_sz, k_quaestorlaw09_Claim_sz, List.length_append, List.length_cons, List.length_nil, List.length_take, List.length_drop, List.length_set]; omega) | decide) (by first | assumption | omega | (simp only [maxLen, kU8_sz, kSl_sz, k_api_Step_sz, k_quaestorlaw09_Claim_sz]; omega) | (simp only [maxLen, kU8_sz, kSl_sz, k_api_Step_sz, k_quaestorlaw09_Claim_sz, List.length_append, List.length_cons, List.length_nil, List.length_take, List.length_drop, List.length_set]; omega) | decide)) Try.func18 rfl (by decide) [] [] (l := [(.tmp 27, dv (strV (rootB l))), (.tmp 31, slV false false kU8 (l.getD k [])), (.tmp 32, dv (.int .i64 ((k : Nat) : Int))), (.tmp 34, dv (.int .i64 ((l.length : Nat) : Int))), (.tmp 35, slV false false (k_api_Step false) (pathB l ((k : Nat) : Int)))]) [] rfl 0 0 rfl rfl rfl rfl rfl rfl rfl rfl rfl ⟨.inl ⟨rfl, rfl⟩, ⟨.inl ⟨rfl, rfl⟩, ⟨.inl ⟨rfl, rfl⟩, ⟨.inl ⟨rfl, rfl⟩, ⟨.inl ⟨rfl, rfl⟩, trivial⟩⟩⟩⟩⟩ rfl (fun b hb => by cases hb) (.inl rfl) (lt_of rfl) trivial))
          (oC (oY (b := (decide ((pathE l ((k : Nat) : Int)) ≠ 0))) rfl rfl rfl rfl (lt_of rfl) (decide_eq_false hq3) (r_bin (u1 := .int .i64 (checkM (rootB l) (l.getD k []) ((k : Nat) : Int) ((l.length : Nat) : Int) (pathB l ((k : Nat) : Int)))) (u2 := .int .i64 0) (v := .bool (decide ((checkM (rootB l) (l.getD k []) ((k : Nat) : Int) ((l.length : Nat) : Int) (pathB l ((k : Nat) : Int))) ≠ 0))) b_neq (lt_of rfl) ⟨rfl, trivial⟩))
          (oC (oS rfl rfl (r_pickF (b := (decide ((pathE l ((k : Nat) : Int)) ≠ 0))) (av := dv (.bool (decide ((checkM (rootB l) (l.getD k []) ((k : Nat) : Int) ((l.length : Nat) : Int) (pathB l ((k : Nat) : Int))) ≠ 0)))) (lt_of rfl) trivial (decide_eq_false hq3))) (oZ rfl))))))))))))))))
          (by kernel_rfl) (by kernel_rfl) ?_
        refine nT ?_
        by_cases hq4 : (checkM (rootB l) (l.getD k []) ((k : Nat) : Int) ((l.length : Nat) : Int) (pathB l ((k : Nat) : Int))) ≠ 0
        · exact absurd (proves_ok hl40 (by omega)) hq4
        · refine T.condF (b := (decide ((checkM (rootB l) (l.getD k []) ((k : Nat) : Int) ((l.length : Nat) : Int) (pathB l ((k : Nat) : Int))) ≠ 0))) rfl (decide_eq_false hq4) ?_
          refine T.skip ?_
          refine nB ?_
          refine nT ?_
          refine tR (s1 := ⟨[slV false false (kSl false kU8) l, AV.any, AV.any, dv (strV (rootB l)), dv (.int .i64 ((k + 1 : Nat) : Int)), slV false false (k_api_Step false) (pathB l ((k : Nat) : Int)), dv (.int .i64 (pathE l ((k : Nat) : Int))), AV.any, AV.any, AV.any, AV.any, AV.any, AV.any, AV.any, AV.any, dv (.bool (decide (((k : Nat) : Int) < ((l.length : Nat) : Int)))), AV.any, AV.any, AV.any, AV.any, AV.any, AV.any, AV.any, AV.any, AV.any, AV.any, AV.any, AV.any, AV.any, AV.any, AV.any, AV.any, AV.any, AV.any, AV.any, AV.any, AV.any, AV.any, dv (.bool (decide ((checkM (rootB l) (l.getD k []) ((k : Nat) : Int) ((l.length : Nat) : Int) (pathB l ((k : Nat) : Int))) ≠ 0)))], []⟩) [true, false, false, true, true, true, true, false, false, false, false, false, false, false, false, true, false, false, false, false, false, false, false, false, false, false, false, false, false, false, false, false, false, false, false, false, false, false, true] []
            (oC (oS rfl rfl (r_move (av := dv (.int .i64 ((k : Nat) : Int))) (lt_of rfl) trivial))
            (oC (oS rfl rfl (r_bin (u1 := .int .i64 ((k : Nat) : Int)) (u2 := .int .i64 1) (v := .int .i64 ((k + 1 : Nat) : Int)) (b_add (by rw [IntKind.wrap_i64]; omega)) (lt_of rfl) ⟨rfl, trivial⟩))
            (oC (oS rfl rfl (r_assign (av := dv (.int .i64 ((k + 1 : Nat) : Int))) (lt_of rfl) trivial)) (oZ rfl))))
            (by kernel_rfl) (by kernel_rfl) ?_
          refine nL (k + 1) (show (k + 1) ≤ l.length from (by omega)) (show (l.length - (k + 1) : Nat) < l.length - k from (by omega)) (fun _ _ hG => Gs.into2 (s := ⟨[slV false false (kSl false kU8) l, AV.any, AV.any, dv (strV (rootB l)), dv (.int .i64 ((k + 1 : Nat) : Int)), slV false false (k_api_Step false) (pathB l ((k : Nat) : Int)), dv (.int .i64 (pathE l ((k : Nat) : Int))), AV.any, AV.any, AV.any, AV.any, AV.any, AV.any, AV.any, AV.any, dv (.bool (decide (((k : Nat) : Int) < ((l.length : Nat) : Int)))), AV.any, AV.any, AV.any, AV.any, AV.any, AV.any, AV.any, AV.any, AV.any, AV.any, AV.any, AV.any, AV.any, AV.any, AV.any, AV.any, AV.any, AV.any, AV.any, AV.any, AV.any, AV.any, dv (.bool (decide ((checkM (rootB l) (l.getD k []) ((k : Nat) : Int) ((l.length : Nat) : Int) (pathB l ((k : Nat) : Int))) ≠ 0)))], []⟩) (s' := ⟨[slV false false (kSl false kU8) l, AV.any, AV.any, dv (strV (rootB l)), dv (.int .i64 ((k + 1 : Nat) : Int))], []⟩) [] [true, false, false, true, true] (t1 := [slV false false (kSl false kU8) l, AV.any, AV.any, dv (strV (rootB l)), dv (.int .i64 ((k + 1 : Nat) : Int))]) (t2 := [slV false false (kSl false kU8) l, AV.any, AV.any, dv (strV (rootB l)), dv (.int .i64 ((k + 1 : Nat) : Int))]) (h1 := []) (h2 := []) rfl rfl (by kernel_rfl) (by kernel_rfl) (by kernel_rfl) (by kernel_rfl) (by kernel_rfl) (by kernel_rfl) (by kernel_rfl) (by kernel_rfl) (by kernel_rfl) (by kernel_rfl) (by kernel_rfl) hG)
    · refine T.condF (b := (decide (((k : Nat) : Int) < ((l.length : Nat) : Int)))) rfl (decide_eq_false hq2) ?_
      refine T.exit ?_
      refine xT ?_
      refine xT ?_
      refine xH ?_
      refine nT ?_
      refine T.seq ?_
      refine tR (s1 := ⟨[slV false false (kSl false kU8) l, AV.any, dv (.bool true), dv (strV (rootB l)), dv (.int .i64 ((k : Nat) : Int)), AV.any, AV.any, AV.any, AV.any, AV.any, AV.any, AV.any, AV.any, AV.any, AV.any, dv (.bool (decide (((k : Nat) : Int) < ((l.length : Nat) : Int))))], []⟩) [true, false, true, true, true, false, false, false, false, false, false, false, false, false, false, true] []
        (oC (oS rfl rfl (r_call (law_awake  ) Try.func13 rfl (by decide) [] [] (l := []) [] rfl 0 0 rfl rfl rfl rfl rfl rfl rfl rfl rfl trivial rfl (fun b hb => by cases hb) (.inl rfl) (lt_of rfl) trivial))
        (oC (oS rfl rfl (r_assign (av := dv (.bool true)) (lt_of rfl) trivial)) (oZ rfl)))
        (by kernel_rfl) (by kernel_rfl) ?_
      refine nT ?_
      refine T.ret ?_
      exact tE (.inl rfl) [.t 2 (.one (.d (.val (.bool true))))] ⟨⟨rfl, rfl⟩, trivial⟩ [] rfl rfl rfl rfl rfl rfl trivial
  · refine T.condT (b := (!(decide (fewG szL 40 200 l)))) rfl (congrArg Bool.not (decide_eq_false hq1)) ?_
    refine T.seq ?_
    refine tR (s1 := ⟨[slV false false (kSl false kU8) l, AV.any, dv (.bool true), AV.any, AV.any, AV.any, AV.any, AV.any, AV.any, dv (.bool (!(decide (fewG szL 40 200 l))))], []⟩) [true, false, true, false, false, false, false, false, false, true] []
      (oC (oS rfl rfl (r_assign (av := dv (.bool true)) (lt_of rfl) ⟨rfl, trivial⟩)) (oZ rfl))
      (by kernel_rfl) (by kernel_rfl) ?_
    refine nT ?_
    refine T.ret ?_
    refine rT ?_
    exact tE (.inl rfl) [.t 2 (.one (.d (.val (.bool true))))] ⟨⟨rfl, rfl⟩, trivial⟩ [] rfl rfl rfl rfl rfl rfl trivial
end Go.Proofs.Ytcpdbbabbnbghaa.Q
