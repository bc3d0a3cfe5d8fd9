import Derived.Test.YtacikihlgpnjhaaC10n3
namespace Go.Proofs.Ytacikihlgpnjhaa.Q
open Go Go.RowKit
set_option linter.unusedVariables false
set_option linter.unusedSimpArgs false
set_option maxRecDepth 100000
set_option maxHeartbeats 4000000
-- quaestor/quaestorref09.path
theorem ref09_path_rec : ∀ (N : Nat) (tl : Bool) (nl : Bool) (sl_ : Bool) (l : List (List UInt8)) (j : Nat) (hf : fewG szL 40 600 l) (hj : j ≤ 1000), l.length = N → Holds Try.prog 60 ⟨[slV tl nl (kSl sl_ kU8) l, dv (.int .i64 ((j : Nat) : Int))], [], ownV 0 (k_api_Step false) 0 (pathN l j).length, [.live (arrK 67 (k_api_Step false) (pathN l j))]⟩ := by
  intro N
  induction N using Nat.strongRecOn with
  | _ N ih =>
    intro tl nl sl_ l j hf hj hN
    refine Holds.of Try.func60 rfl (N := 41) Try.ntmps60 rfl fun w0 B0 S0 U0 => ?_
    show T _ (mkBase 41 0 w0 S0 U0 B0) ⟨[slV tl nl (kSl sl_ kU8) l, dv (.int .i64 ((j : Nat) : Int))], []⟩ _ _
    have hl40 := hf.1
    refine T.seq ?_
    refine xR [] (by kernel_rfl) (by kernel_rfl) ?_
    refine nT ?_
    refine T.seq ?_
    refine T.seq ?_
    refine xR [] (by kernel_rfl) (by kernel_rfl) ?_
    refine nT ?_
    by_cases hq1 : ((l.length : Nat) : Int) < 2
    · refine T.condT (by kernel_rfl) (decide_eq_true hq1) ?_
      refine T.seq ?_
      refine xR [] (by kernel_rfl) (by kernel_rfl) ?_
      refine nT ?_
      refine T.ret ?_
      refine rT ?_
      refine Ends.turn (s' := ⟨[slV tl nl (kSl sl_ kU8) l, dv (.int .i64 ((j : Nat) : Int)), aa, aa, dv (.slice none 0 0), aa, aa, aa, dv (.bool (decide (((l.length : Nat) : Int) < 2)))], []⟩) (fun _ _ hG => Gs.norm (by kernel_rfl) hG) ?_
      refine Ends.turn (s' := ⟨[slV tl nl (kSl sl_ kU8) l, dv (.int .i64 ((j : Nat) : Int)), aa, aa, ownV 0 (k_api_Step false) 0 0, aa, aa, aa, dv (.bool (decide (((l.length : Nat) : Int) < 2)))], [.live (arrK 67 (k_api_Step false) ([] : List api_Step))]⟩) (fun _ _ hG => Gs.absent 0 4 67 (k_api_Step false) rfl rfl hG) ?_
      exact tE (.inl rfl) [.t 4 (.one (.own 0 (k_api_Step false).sz 0 0))] ⟨⟨rfl, by kernel_rfl⟩, trivial⟩ [0] (by have e1 : ((pathN l j).length : Nat) = 0 := (by first | rfl | exact path_1 (by omega) _ | exact (path_1 (by omega) _).symm | (rw [path_1 (by omega)]; first | done | rfl) | exact path_l h2l (by omega) | exact (path_l h2l (by omega)).symm | exact path_r h2l (by omega) | exact (path_r h2l (by omega)).symm | (rw [path_l h2l (by omega)]) | (rw [path_r h2l (by omega)])); have hE := congrArg (fun (q1 : Nat) => (ownV 0 (k_api_Step false) 0 q1 : AV)) e1; exact hE) rfl rfl rfl rfl rfl ⟨⟨rfl, (by have e1 : (([] : List api_Step) : List api_Step) = (pathN l j) := (by first | rfl | exact path_1 (by omega) _ | exact (path_1 (by omega) _).symm | (rw [path_1 (by omega)]; first | done | rfl) | exact path_l h2l (by omega) | exact (path_l h2l (by omega)).symm | exact path_r h2l (by omega) | exact (path_r h2l (by omega)).symm | (rw [path_l h2l (by omega)]) | (rw [path_r h2l (by omega)])); have hE := congrArg (fun (q1 : List api_Step) => (.live (arrK 67 (k_api_Step false) q1) : HS)) e1; exact Eq.trans (by kernel_rfl) hE)⟩, trivial⟩
    · have h2l : 2 ≤ l.length := (by omega); have hhl := half_lt h2l; have hhp := half_pos l.length; have hfa := few_root (fewG_take hf (half l.length)); have hfb := few_root (fewG_drop hf (half l.length)); have hpa := path_lenle _ (l.take (half l.length)) j rfl; have hpb := path_lenle _ (l.drop (half l.length)) (j - half l.length) rfl; have htl : (l.take (half l.length)).length ≤ 40 := (by rw [List.length_take]; omega); have htd : (l.drop (half l.length)).length ≤ 40 := (by rw [List.length_drop]; omega)
      refine T.condF (by kernel_rfl) (decide_eq_false hq1) ?_
      refine T.skip ?_
      refine nT ?_
      refine T.seq ?_
      refine xR [hR 2 rfl rfl (r_call (ref09_half l.length (by first | assumption | omega | (unfold maxLen; omega) | (simp [maxLen, -List.getD_eq_getElem?_getD] <;> omega) | decide) (by first | assumption | omega | (unfold maxLen; omega) | (simp [maxLen, -List.getD_eq_getElem?_getD] <;> omega) | decide)) Try.func57 rfl (by decide) [] [] (l := [(.tmp 10, dv (.int .i64 ((l.length : Nat) : Int)))]) [] rfl 0 0 rfl rfl rfl rfl rfl rfl rfl rfl rfl ⟨.inl ⟨rfl, rfl⟩, trivial⟩ rfl (fun b hb => by cases hb) (.inl rfl) (lt_of rfl) trivial)] (by kernel_rfl) (by kernel_rfl) ?_
      refine nT ?_
      refine T.seq ?_
      refine T.seq ?_
      refine xR [] (by kernel_rfl) (by kernel_rfl) ?_
      refine nT ?_
      by_cases hq2 : ((j : Nat) : Int) < ((half l.length : Nat) : Int)
      · refine T.condT (by kernel_rfl) (decide_eq_true hq2) ?_
        refine T.seq ?_
        refine xD [[], [], [0, 1], [], [0, 1, 2, 3], [], [], [5, 6], [0, 1, 2, 3, 4, 5, 6, 7], [0, 1, 2, 3, 4, 5, 6, 7, 8], [0, 1, 2, 3, 4, 5, 6, 7, 8, 9], [0, 1, 2, 3, 4, 5, 6, 7, 8, 9, 10], [0, 1, 2, 3, 4, 5, 6, 7, 8, 9, 10, 11]] [hR 2 rfl rfl (q_slice tl nl (kSl sl_ kU8) l (l.take (half l.length)) 0 (half l.length) (lo := none) (hi := some (.tmp 16, ((half l.length : Nat) : Int))) Try.underlying60 iat_29 rfl rfl rfl rfl rfl (by first | assumption | omega | (unfold maxLen; omega) | (simp [maxLen, -List.getD_eq_getElem?_getD] <;> omega) | decide) (by first | assumption | omega | (unfold maxLen; omega) | (simp [maxLen, -List.getD_eq_getElem?_getD] <;> omega) | decide) rfl (lt_of rfl) trivial),
          hR 4 rfl rfl (r_call (ih ((l.take (half l.length)).length) (show (l.take (half l.length)).length < N from (by first | omega | (simp only [List.length_take, List.length_drop]; omega))) tl nl sl_ (l.take (half l.length)) j (by first | assumption | exact fewG_mono (by assumption) (by decide) | exact fewG_take (by assumption) _ | exact fewG_drop (by assumption) _ | exact fewG_set (by assumption) (by assumption) | decide) (by first | assumption | omega | (unfold maxLen; omega) | (simp [maxLen, -List.getD_eq_getElem?_getD] <;> omega) | decide) rfl) Try.func60 rfl (by decide) [0] [] (l := [(.tmp 17, slV tl nl (kSl sl_ kU8) (l.take (half l.length))), (.tmp 18, dv (.int .i64 ((j : Nat) : Int)))]) [] rfl 0 1 rfl rfl rfl rfl rfl rfl rfl rfl rfl ⟨.inl ⟨rfl, rfl⟩, ⟨.inl ⟨rfl, rfl⟩, trivial⟩⟩ rfl (fun b hb => by cases hb) (.inl rfl) (lt_of rfl) trivial),
          hR 7 rfl rfl (q_slice tl nl (kSl sl_ kU8) l (l.drop (half l.length)) (half l.length) l.length (lo := some (.tmp 21, ((half l.length : Nat) : Int))) (hi := none) Try.underlying60 iat_29 rfl rfl rfl rfl rfl (by first | assumption | omega | (unfold maxLen; omega) | (simp [maxLen, -List.getD_eq_getElem?_getD] <;> omega) | decide) (by first | assumption | omega | (unfold maxLen; omega) | (simp [maxLen, -List.getD_eq_getElem?_getD] <;> omega) | decide) (by rw [List.take_length]) (lt_of rfl) trivial),
          hR 8 rfl rfl (r_call (ref09_Root tl nl sl_ (l.drop (half l.length)) (by first | assumption | exact fewG_mono (by assumption) (by decide) | exact fewG_take (by assumption) _ | exact fewG_drop (by assumption) _ | exact fewG_set (by assumption) (by assumption) | decide)) Try.func35 rfl (by decide) [] [] (l := [(.tmp 22, slV tl nl (kSl sl_ kU8) (l.drop (half l.length)))]) [] rfl 0 0 rfl rfl rfl rfl rfl rfl rfl rfl rfl ⟨.inl ⟨rfl, rfl⟩, trivial⟩ rfl (fun b hb => by cases hb) (.inl rfl) (lt_of rfl) trivial),
          hR 10 rfl rfl (q_buildSlice 1 67 (k_api_Step false) (k_api_Step_ok false) [(api_Step.mk false (rootB (l.drop (half l.length))))] [⟨0, .tmp 24, .agg [.d (.val (.bool false)), .d (.val (strV (rootB (l.drop (half l.length)))))], 0⟩] (cs := [.d (.val (.bool false)), .d (.val (strV (rootB (l.drop (half l.length)))))]) Try.underlying42 iat_67 rfl zero_67 rfl rfl rfl (Nat.le_of_ble_eq_true rfl) (part_cons rfl rfl (Nat.le_of_ble_eq_true rfl) part_ok) rfl ⟨(.inl rfl), ⟨(.inl rfl), trivial⟩⟩ (lt_of rfl) trivial),
          hR 11 rfl rfl (q_appendO 0 2 67 24 (k_api_Step false) (k_api_Step_ok false) (pathN (l.take (half l.length)) j) [(api_Step.mk false (rootB (l.drop (half l.length))))] ((pathN (l.take (half l.length)) j) ++ [(api_Step.mk false (rootB (l.drop (half l.length))))]) (pathN (l.take (half l.length)) j).length (sy := (.own 1 (k_api_Step false).sz 0 [(api_Step.mk false (rootB (l.drop (half l.length))))].length)) (rhs := [(1, .live (arrK 67 (k_api_Step false) [(api_Step.mk false (rootB (l.drop (half l.length))))]))]) elem_42 (by first | assumption | omega | (unfold maxLen; omega) | (simp [maxLen, -List.getD_eq_getElem?_getD] <;> omega) | decide) (src_own 1 67 (k_api_Step false) [(api_Step.mk false (rootB (l.drop (half l.length))))]) (by rw [List.take_length]) (by first | assumption | omega | (unfold maxLen; omega) | (simp [maxLen, -List.getD_eq_getElem?_getD] <;> omega) | decide) (by first | assumption | omega | (unfold maxLen; omega) | (simp [maxLen, -List.getD_eq_getElem?_getD] <;> omega) | decide) (lt_of rfl) trivial)] (by kernel_rfl) (by kernel_rfl) (by kernel_rfl) (by kernel_rfl) (by kernel_rfl) (by kernel_rfl) ?_
        refine nT ?_
        refine T.ret ?_
        refine rT ?_
        exact tE (.inl rfl) [.t 4 (.one (.own 2 (k_api_Step false).sz 0 ((pathN (l.take (half l.length)) j) ++ [(api_Step.mk false (rootB (l.drop (half l.length))))]).length))] ⟨⟨rfl, by kernel_rfl⟩, trivial⟩ [2] (by have e1 : ((pathN l j).length : Nat) = ((pathN (l.take (half l.length)) j) ++ [(api_Step.mk false (rootB (l.drop (half l.length))))]).length := (by first | rfl | exact path_1 (by omega) _ | exact (path_1 (by omega) _).symm | (rw [path_1 (by omega)]; first | done | rfl) | exact path_l h2l (by omega) | exact (path_l h2l (by omega)).symm | exact path_r h2l (by omega) | exact (path_r h2l (by omega)).symm | (rw [path_l h2l (by omega)]) | (rw [path_r h2l (by omega)])); have hE := congrArg (fun (q1 : Nat) => (ownV 2 (k_api_Step false) 0 q1 : AV)) e1; exact hE) rfl rfl rfl rfl rfl ⟨⟨rfl, (by have e1 : ((pathN (l.take (half l.length)) j) ++ [(api_Step.mk false (rootB (l.drop (half l.length))))] : List api_Step) = (pathN l j) := (by first | rfl | exact path_1 (by omega) _ | exact (path_1 (by omega) _).symm | (rw [path_1 (by omega)]; first | done | rfl) | exact path_l h2l (by omega) | exact (path_l h2l (by omega)).symm | exact path_r h2l (by omega) | exact (path_r h2l (by omega)).symm | (rw [path_l h2l (by omega)]) | (rw [path_r h2l (by omega)])); have hE := congrArg (fun (q1 : List api_Step) => (.live (arrK 67 (k_api_Step false) q1) : HS)) e1; exact Eq.trans (by kernel_rfl) hE)⟩, trivial⟩
      · refine T.condF (by kernel_rfl) (decide_eq_false hq2) ?_
        refine T.skip ?_
        refine nT ?_
        refine T.seq ?_
        refine xD [[], [], [0, 1], [], [], [3, 4], [0, 1, 2, 3, 4, 5], [], [], [7, 8], [0, 1, 2, 3, 4, 5, 6, 7, 8, 9], [0, 1, 2, 3, 4, 5, 6, 7, 8, 9, 10], [0, 1, 2, 3, 4, 5, 6, 7, 8, 9, 10, 11], [0, 1, 2, 3, 4, 5, 6, 7, 8, 9, 10, 11, 12], [0, 1, 2, 3, 4, 5, 6, 7, 8, 9, 10, 11, 12, 13]] [hR 2 rfl rfl (q_slice tl nl (kSl sl_ kU8) l (l.drop (half l.length)) (half l.length) l.length (lo := some (.tmp 28, ((half l.length : Nat) : Int))) (hi := none) Try.underlying60 iat_29 rfl rfl rfl rfl rfl (by first | assumption | omega | (unfold maxLen; omega) | (simp [maxLen, -List.getD_eq_getElem?_getD] <;> omega) | decide) (by first | assumption | omega | (unfold maxLen; omega) | (simp [maxLen, -List.getD_eq_getElem?_getD] <;> omega) | decide) (by rw [List.take_length]) (lt_of rfl) trivial),
          hR 5 rfl rfl (r_bin (u1 := .int .i64 ((j : Nat) : Int)) (u2 := .int .i64 ((half l.length : Nat) : Int)) (v := .int .i64 ((j - (half l.length) : Nat) : Int)) (b_sub (by rw [IntKind.wrap_i64]; omega)) (lt_of rfl) trivial),
          hR 6 rfl rfl (r_call (ih ((l.drop (half l.length)).length) (show (l.drop (half l.length)).length < N from (by first | omega | (simp only [List.length_take, List.length_drop]; omega))) tl nl sl_ (l.drop (half l.length)) (j - (half l.length)) (by first | assumption | exact fewG_mono (by assumption) (by decide) | exact fewG_take (by assumption) _ | exact fewG_drop (by assumption) _ | exact fewG_set (by assumption) (by assumption) | decide) (by first | assumption | omega | (unfold maxLen; omega) | (simp [maxLen, -List.getD_eq_getElem?_getD] <;> omega) | decide) rfl) Try.func60 rfl (by decide) [0] [] (l := [(.tmp 29, slV tl nl (kSl sl_ kU8) (l.drop (half l.length))), (.tmp 32, dv (.int .i64 ((j - (half l.length) : Nat) : Int)))]) [] rfl 0 1 rfl rfl rfl rfl rfl rfl rfl rfl rfl ⟨.inl ⟨rfl, rfl⟩, ⟨.inl ⟨rfl, rfl⟩, trivial⟩⟩ rfl (fun b hb => by cases hb) (.inl rfl) (lt_of rfl) trivial),
          hR 9 rfl rfl (q_slice tl nl (kSl sl_ kU8) l (l.take (half l.length)) 0 (half l.length) (lo := none) (hi := some (.tmp 35, ((half l.length : Nat) : Int))) Try.underlying60 iat_29 rfl rfl rfl rfl rfl (by first | assumption | omega | (unfold maxLen; omega) | (simp [maxLen, -List.getD_eq_getElem?_getD] <;> omega) | decide) (by first | assumption | omega | (unfold maxLen; omega) | (simp [maxLen, -List.getD_eq_getElem?_getD] <;> omega) | decide) rfl (lt_of rfl) trivial),
          hR 10 rfl rfl (r_call (ref09_Root tl nl sl_ (l.take (half l.length)) (by first | assumption | exact fewG_mono (by assumption) (by decide) | exact fewG_take (by assumption) _ | exact fewG_drop (by assumption) _ | exact fewG_set (by assumption) (by assumption) | decide)) Try.func35 rfl (by decide) [] [] (l := [(.tmp 36, slV tl nl (kSl sl_ kU8) (l.take (half l.length)))]) [] rfl 0 0 rfl rfl rfl rfl rfl rfl rfl rfl rfl ⟨.inl ⟨rfl, rfl⟩, trivial⟩ rfl (fun b hb => by cases hb) (.inl rfl) (lt_of rfl) trivial),
          hR 12 rfl rfl (q_buildSlice 1 67 (k_api_Step false) (k_api_Step_ok false) [(api_Step.mk true (rootB (l.take (half l.length))))] [⟨0, .tmp 38, .agg [.d (.val (.bool true)), .d (.val (strV (rootB (l.take (half l.length)))))], 0⟩] (cs := [.d (.val (.bool true)), .d (.val (strV (rootB (l.take (half l.length)))))]) Try.underlying42 iat_67 rfl zero_67 rfl rfl rfl (Nat.le_of_ble_eq_true rfl) (part_cons rfl rfl (Nat.le_of_ble_eq_true rfl) part_ok) rfl ⟨(.inl rfl), ⟨(.inl rfl), trivial⟩⟩ (lt_of rfl) trivial),
          hR 13 rfl rfl (q_appendO 0 2 67 24 (k_api_Step false) (k_api_Step_ok false) (pathN (l.drop (half l.length)) (j - (half l.length))) [(api_Step.mk true (rootB (l.take (half l.length))))] ((pathN (l.drop (half l.length)) (j - (half l.length))) ++ [(api_Step.mk true (rootB (l.take (half l.length))))]) (pathN (l.drop (half l.length)) (j - (half l.length))).length (sy := (.own 1 (k_api_Step false).sz 0 [(api_Step.mk true (rootB (l.take (half l.length))))].length)) (rhs := [(1, .live (arrK 67 (k_api_Step false) [(api_Step.mk true (rootB (l.take (half l.length))))]))]) elem_42 (by first | assumption | omega | (unfold maxLen; omega) | (simp [maxLen, -List.getD_eq_getElem?_getD] <;> omega) | decide) (src_own 1 67 (k_api_Step false) [(api_Step.mk true (rootB (l.take (half l.length))))]) (by rw [List.take_length]) (by first | assumption | omega | (unfold maxLen; omega) | (simp [maxLen, -List.getD_eq_getElem?_getD] <;> omega) | decide) (by first | assumption | omega | (unfold maxLen; omega) | (simp [maxLen, -List.getD_eq_getElem?_getD] <;> omega) | decide) (lt_of rfl) trivial)] (by kernel_rfl) (by kernel_rfl) (by kernel_rfl) (by kernel_rfl) (by kernel_rfl) (by kernel_rfl) ?_
        refine nT ?_
        refine T.ret ?_
        exact tE (.inl rfl) [.t 4 (.one (.own 2 (k_api_Step false).sz 0 ((pathN (l.drop (half l.length)) (j - (half l.length))) ++ [(api_Step.mk true (rootB (l.take (half l.length))))]).length))] ⟨⟨rfl, by kernel_rfl⟩, trivial⟩ [2] (by have e1 : ((pathN l j).length : Nat) = ((pathN (l.drop (half l.length)) (j - (half l.length))) ++ [(api_Step.mk true (rootB (l.take (half l.length))))]).length := (by first | rfl | exact path_1 (by omega) _ | exact (path_1 (by omega) _).symm | (rw [path_1 (by omega)]; first | done | rfl) | exact path_l h2l (by omega) | exact (path_l h2l (by omega)).symm | exact path_r h2l (by omega) | exact (path_r h2l (by omega)).symm | (rw [path_l h2l (by omega)]) | (rw [path_r h2l (by omega)])); have hE := congrArg (fun (q1 : Nat) => (ownV 2 (k_api_Step false) 0 q1 : AV)) e1; exact hE) rfl rfl rfl rfl rfl ⟨⟨rfl, (by have e1 : ((pathN (l.drop (half l.length)) (j - (half l.length))) ++ [(api_Step.mk true (rootB (l.take (half l.length))))] : List api_Step) = (pathN l j) := (by first | rfl | exact path_1 (by omega) _ | exact (path_1 (by omega) _).symm | (rw [path_1 (by omega)]; first | done | rfl) | exact path_l h2l (by omega) | exact (path_l h2l (by omega)).symm | exact path_r h2l (by omega) | exact (path_r h2l (by omega)).symm | (rw [path_l h2l (by omega)]) | (rw [path_r h2l (by omega)])); have hE := congrArg (fun (q1 : List api_Step) => (.live (arrK 67 (k_api_Step false) q1) : HS)) e1; exact Eq.trans (by kernel_rfl) hE)⟩, trivial⟩
theorem ref09_path (tl : Bool) (nl : Bool) (sl_ : Bool) (l : List (List UInt8)) (j : Nat) (hf : fewG szL 40 600 l) (hj : j ≤ 1000) : Holds Try.prog 60 ⟨[slV tl nl (kSl sl_ kU8) l, dv (.int .i64 ((j : Nat) : Int))], [], ownV 0 (k_api_Step false) 0 (pathN l j).length, [.live (arrK 67 (k_api_Step false) (pathN l j))]⟩ := ref09_path_rec _ tl nl sl_ l j hf hj rfl

-- quaestor/quaestorref09.Path
theorem ref09_Path (tl : Bool) (nl : Bool) (sl_ : Bool) (l : List (List UInt8)) (i : Int) (hf : fewG szL 40 600 l) : Holds Try.prog 39 ⟨[slV tl nl (kSl sl_ kU8) l, dv (.int .i64 i)], [], .tup [.one (.d (dsl false false (k_api_Step false) (pathB l i))), .one (.d (.val (.int .i64 (pathE l i))))], []⟩ := by
  refine Holds.of Try.func39 rfl (N := 17) Try.ntmps39 rfl fun w0 B0 S0 U0 => ?_
  show T _ (mkBase 17 0 w0 S0 U0 B0) ⟨[slV tl nl (kSl sl_ kU8) l, dv (.int .i64 i)], []⟩ _ _
  have hl40 := hf.1
  refine T.seq ?_
  refine xR [] (by kernel_rfl) (by kernel_rfl) ?_
  refine nT ?_
  refine T.seq ?_
  refine T.seq ?_
  by_cases hq1 : i < 0
  · refine xR [hN 3 false (decide_eq_true hq1),
      hN 4 false (decide_eq_true hq1),
      hN 5 false (decide_eq_true hq1),
      hN 6 false (decide_eq_true hq1),
      hP 7 (decide_eq_true hq1)] (by kernel_rfl) (by kernel_rfl) ?_
    refine nT ?_
    refine T.condT (b := true) (by kernel_rfl) rfl ?_
    refine T.seq ?_
    refine xR [] (by kernel_rfl) (by kernel_rfl) ?_
    refine nT ?_
    refine T.ret ?_
    refine rT ?_
    refine Ends.turn (s' := ⟨[slV tl nl (kSl sl_ kU8) l, dv (.int .i64 i), aa, aa, dv (.slice none 0 0), dv (.int .i64 2), aa, aa, aa, aa, aa, aa, aa, dv (.bool true)], []⟩) (fun _ _ hG => Gs.norm (by kernel_rfl) hG) ?_
    refine Ends.turn (s' := ⟨[slV tl nl (kSl sl_ kU8) l, dv (.int .i64 i), aa, aa, slV false false (k_api_Step false) ([] : List api_Step), dv (.int .i64 2), aa, aa, aa, aa, aa, aa, aa, dv (.bool true)], []⟩) (fun _ _ hG => Gs.less (s := ⟨[slV tl nl (kSl sl_ kU8) l, dv (.int .i64 i), aa, aa, dv (.slice none 0 0), dv (.int .i64 2), aa, aa, aa, aa, aa, aa, aa, dv (.bool true)], []⟩) ⟨(.inl rfl), ⟨(.inl rfl), ⟨(.inl rfl), ⟨(.inl rfl), ⟨(.inr ⟨rfl, rfl, rfl⟩), ⟨(.inl rfl), ⟨(.inl rfl), ⟨(.inl rfl), ⟨(.inl rfl), ⟨(.inl rfl), ⟨(.inl rfl), ⟨(.inl rfl), ⟨(.inl rfl), ⟨(.inl rfl), trivial⟩⟩⟩⟩⟩⟩⟩⟩⟩⟩⟩⟩⟩⟩ trivial hG) ?_
    exact tE (.inl rfl) [.t 4 (.one (.d (dsl false false (k_api_Step false) ([] : List api_Step)))), .t 5 (.one (.d (.val (.int .i64 2))))] ⟨⟨rfl, by kernel_rfl⟩, ⟨⟨rfl, by kernel_rfl⟩, trivial⟩⟩ [] (by have e1 : ((pathB l i) : List api_Step) = ([] : List api_Step) := (by first | rfl | (have ho : okI l i := (by simp only [okI]; omega); first | (rw [pathB, if_pos ho]) | (rw [pathE, if_pos ho])) | (have ho : ¬ okI l i := (by simp only [okI]; omega); first | (rw [pathB, if_neg ho]) | (rw [pathE, if_neg ho]))); have e2 : ((pathE l i) : Int) = 2 := (by first | rfl | (have ho : okI l i := (by simp only [okI]; omega); first | (rw [pathB, if_pos ho]) | (rw [pathE, if_pos ho])) | (have ho : ¬ okI l i := (by simp only [okI]; omega); first | (rw [pathB, if_neg ho]) | (rw [pathE, if_neg ho]))); have hE := congr (congrArg (fun (q1 : List api_Step) (q2 : Int) => (.tup [.one (.d (dsl false false (k_api_Step false) q1)), .one (.d (.val (.int .i64 q2)))] : AV)) e1) e2; exact hE) rfl rfl rfl rfl rfl trivial
  · refine xR [hY 3 (decide_eq_false hq1),
      hY 4 (decide_eq_false hq1),
      hY 5 (decide_eq_false hq1),
      hY 6 (decide_eq_false hq1),
      hP 7 (decide_eq_false hq1)] (by kernel_rfl) (by kernel_rfl) ?_
    refine nT ?_
    by_cases hq2 : i ≥ ((l.length : Nat) : Int)
    · refine T.condT (by kernel_rfl) (decide_eq_true hq2) ?_
      refine T.seq ?_
      refine xR [] (by kernel_rfl) (by kernel_rfl) ?_
      refine nT ?_
      refine T.ret ?_
      refine rT ?_
      refine Ends.turn (s' := ⟨[slV tl nl (kSl sl_ kU8) l, dv (.int .i64 i), aa, aa, dv (.slice none 0 0), dv (.int .i64 2), aa, aa, aa, aa, aa, aa, aa, dv (.bool (decide (i ≥ ((l.length : Nat) : Int))))], []⟩) (fun _ _ hG => Gs.norm (by kernel_rfl) hG) ?_
      refine Ends.turn (s' := ⟨[slV tl nl (kSl sl_ kU8) l, dv (.int .i64 i), aa, aa, slV false false (k_api_Step false) ([] : List api_Step), dv (.int .i64 2), aa, aa, aa, aa, aa, aa, aa, dv (.bool (decide (i ≥ ((l.length : Nat) : Int))))], []⟩) (fun _ _ hG => Gs.less (s := ⟨[slV tl nl (kSl sl_ kU8) l, dv (.int .i64 i), aa, aa, dv (.slice none 0 0), dv (.int .i64 2), aa, aa, aa, aa, aa, aa, aa, dv (.bool (decide (i ≥ ((l.length : Nat) : Int))))], []⟩) ⟨(.inl rfl), ⟨(.inl rfl), ⟨(.inl rfl), ⟨(.inl rfl), ⟨(.inr ⟨rfl, rfl, rfl⟩), ⟨(.inl rfl), ⟨(.inl rfl), ⟨(.inl rfl), ⟨(.inl rfl), ⟨(.inl rfl), ⟨(.inl rfl), ⟨(.inl rfl), ⟨(.inl rfl), ⟨(.inl rfl), trivial⟩⟩⟩⟩⟩⟩⟩⟩⟩⟩⟩⟩⟩⟩ trivial hG) ?_
      exact tE (.inl rfl) [.t 4 (.one (.d (dsl false false (k_api_Step false) ([] : List api_Step)))), .t 5 (.one (.d (.val (.int .i64 2))))] ⟨⟨rfl, by kernel_rfl⟩, ⟨⟨rfl, by kernel_rfl⟩, trivial⟩⟩ [] (by have e1 : ((pathB l i) : List api_Step) = ([] : List api_Step) := (by first | rfl | (have ho : okI l i := (by simp only [okI]; omega); first | (rw [pathB, if_pos ho]) | (rw [pathE, if_pos ho])) | (have ho : ¬ okI l i := (by simp only [okI]; omega); first | (rw [pathB, if_neg ho]) | (rw [pathE, if_neg ho]))); have e2 : ((pathE l i) : Int) = 2 := (by first | rfl | (have ho : okI l i := (by simp only [okI]; omega); first | (rw [pathB, if_pos ho]) | (rw [pathE, if_pos ho])) | (have ho : ¬ okI l i := (by simp only [okI]; omega); first | (rw [pathB, if_neg ho]) | (rw [pathE, if_neg ho]))); have hE := congr (congrArg (fun (q1 : List api_Step) (q2 : Int) => (.tup [.one (.d (dsl false false (k_api_Step false) q1)), .one (.d (.val (.int .i64 q2)))] : AV)) e1) e2; exact hE) rfl rfl rfl rfl rfl trivial
    · refine T.condF (by kernel_rfl) (decide_eq_false hq2) ?_
      refine T.skip ?_
      refine nT ?_
      refine T.seq ?_
      refine T.turn (s' := ⟨[slV tl nl (kSl sl_ kU8) l, dv (.int .i64 i), aa, aa, dv (.slice none 0 0), dv (.int .i64 0), aa, aa, aa, aa, aa, aa, aa, dv (.bool (decide (i ≥ ((l.length : Nat) : Int))))], []⟩) (fun _ _ hG => Gs.norm (by kernel_rfl) hG) ?_
      refine T.turn (s' := ⟨[slV tl nl (kSl sl_ kU8) l, dv (.int .i64 ((i.toNat : Nat) : Int)), aa, aa, dv (.slice none 0 0), dv (.int .i64 0), aa, aa, aa, aa, aa, aa, aa, dv (.bool (decide (i ≥ ((l.length : Nat) : Int))))], []⟩) (fun _ _ hG => Gs.into2 (s' := ⟨[slV tl nl (kSl sl_ kU8) l, dv (.int .i64 ((i.toNat : Nat) : Int)), aa, aa, dv (.slice none 0 0), dv (.int .i64 0), aa, aa, aa, aa, aa, aa, aa, dv (.bool (decide (i ≥ ((l.length : Nat) : Int))))], []⟩) [] (bm 14 8243) (t1 := [slV tl nl (kSl sl_ kU8) l, dv (.int .i64 ((i.toNat : Nat) : Int)), aa, aa, dv (.slice none 0 0), dv (.int .i64 0), aa, aa, aa, aa, aa, aa, aa, dv (.bool (decide (i ≥ ((l.length : Nat) : Int))))]) (t2 := [slV tl nl (kSl sl_ kU8) l, dv (.int .i64 i), aa, aa, dv (.slice none 0 0), dv (.int .i64 0), aa, aa, aa, aa, aa, aa, aa, dv (.bool (decide (i ≥ ((l.length : Nat) : Int))))]) (h1 := []) (by have e1 : (((i.toNat : Nat) : Int) : Int) = i := (by omega); have hE := congrArg (fun (q1 : Int) => ([slV tl nl (kSl sl_ kU8) l, dv (.int .i64 q1), aa, aa, dv (.slice none 0 0), dv (.int .i64 0), aa, aa, aa, aa, aa, aa, aa, dv (.bool (decide (i ≥ ((l.length : Nat) : Int))))] : List AV)) e1; exact hE) rfl (by kernel_rfl) (by kernel_rfl) (by kernel_rfl) (by kernel_rfl) (by kernel_rfl) (by kernel_rfl) (by kernel_rfl) (by kernel_rfl) (by kernel_rfl) (by kernel_rfl) (by kernel_rfl) hG) ?_
      refine xR [hR 2 rfl rfl (r_call (ref09_path tl nl sl_ l i.toNat (by first | assumption | exact fewG_mono (by assumption) (by decide) | exact fewG_take (by assumption) _ | exact fewG_drop (by assumption) _ | exact fewG_set (by assumption) (by assumption) | decide) (by first | assumption | omega | (unfold maxLen; omega) | (simp [maxLen, -List.getD_eq_getElem?_getD] <;> omega) | decide)) Try.func60 rfl (by decide) [0] [] (l := [(.tmp 14, slV tl nl (kSl sl_ kU8) l), (.tmp 15, dv (.int .i64 ((i.toNat : Nat) : Int)))]) [] rfl 0 1 rfl rfl rfl rfl rfl rfl rfl rfl rfl ⟨.inl ⟨rfl, rfl⟩, ⟨.inl ⟨rfl, rfl⟩, trivial⟩⟩ rfl (fun b hb => by cases hb) (.inl rfl) (lt_of rfl) trivial)] (by kernel_rfl) (by kernel_rfl) ?_
      refine nT ?_
      refine T.ret ?_
      refine Ends.turn (s' := ⟨[slV tl nl (kSl sl_ kU8) l, dv (.int .i64 ((i.toNat : Nat) : Int)), aa, aa, ownV 0 (k_api_Step false) 0 (pathN l i.toNat).length, dv (.int .i64 0), aa, aa, aa, aa, aa, aa, aa, dv (.bool (decide (i ≥ ((l.length : Nat) : Int))))], [.live (arrK 67 (k_api_Step false) (pathN l i.toNat))]⟩) (fun _ _ hG => Gs.norm (by kernel_rfl) hG) ?_
      refine Ends.turn (s' := ⟨[slV tl nl (kSl sl_ kU8) l, dv (.int .i64 ((i.toNat : Nat) : Int)), aa, aa, slV false false (k_api_Step false) (pathN l i.toNat), dv (.int .i64 0), aa, aa, aa, aa, aa, aa, aa, dv (.bool (decide (i ≥ ((l.length : Nat) : Int))))], [.dead]⟩) (fun _ _ hG => Gs.freeze (s := ⟨[slV tl nl (kSl sl_ kU8) l, dv (.int .i64 ((i.toNat : Nat) : Int)), aa, aa, ownV 0 (k_api_Step false) 0 (pathN l i.toNat).length, dv (.int .i64 0), aa, aa, aa, aa, aa, aa, aa, dv (.bool (decide (i ≥ ((l.length : Nat) : Int))))], [.live (arrK 67 (k_api_Step false) (pathN l i.toNat))]⟩) 0 (el := elOf (k_api_Step false) (pathN l i.toNat)) (sz := (k_api_Step false).sz) (n := (pathN l i.toNat).length) rfl ⟨(.inl rfl), ⟨(.inl rfl), ⟨(.inl rfl), ⟨(.inl rfl), ⟨(.inr (.inr ⟨rfl, rfl, rfl, (fun h => by cases h), rfl, rfl, by omega, fun i j _ => by rw [Nat.zero_add]⟩)), ⟨(.inl rfl), ⟨(.inl rfl), ⟨(.inl rfl), ⟨(.inl rfl), ⟨(.inl rfl), ⟨(.inl rfl), ⟨(.inl rfl), ⟨(.inl rfl), ⟨(.inl rfl), trivial⟩⟩⟩⟩⟩⟩⟩⟩⟩⟩⟩⟩⟩⟩ ⟨(.inl ⟨rfl, rfl⟩), trivial⟩ hG) ?_
      exact tE (.inl rfl) [.t 4 (.one (.d (dsl false false (k_api_Step false) (pathN l i.toNat)))), .t 5 (.one (.d (.val (.int .i64 0))))] ⟨⟨rfl, by kernel_rfl⟩, ⟨⟨rfl, by kernel_rfl⟩, trivial⟩⟩ [] (by have e1 : ((pathB l i) : List api_Step) = (pathN l i.toNat) := (by first | rfl | (have ho : okI l i := (by simp only [okI]; omega); first | (rw [pathB, if_pos ho]) | (rw [pathE, if_pos ho])) | (have ho : ¬ okI l i := (by simp only [okI]; omega); first | (rw [pathB, if_neg ho]) | (rw [pathE, if_neg ho]))); have e2 : ((pathE l i) : Int) = 0 := (by first | rfl | (have ho : okI l i := (by simp only [okI]; omega); first | (rw [pathB, if_pos ho]) | (rw [pathE, if_pos ho])) | (have ho : ¬ okI l i := (by simp only [okI]; omega); first | (rw [pathB, if_neg ho]) | (rw [pathE, if_neg ho]))); have hE := congr (congrArg (fun (q1 : List api_Step) (q2 : Int) => (.tup [.one (.d (dsl false false (k_api_Step false) q1)), .one (.d (.val (.int .i64 q2)))] : AV)) e1) e2; exact hE) rfl rfl rfl rfl rfl trivial

theorem zero_4 : Zero Try.prog 4 [.bool false] := ⟨_, _, iat_4, rfl, rfl⟩
theorem elem_84 : Elem Try.prog 84 4 1 1 := ⟨Try.underlying84, _, _, iat_4, rfl, rfl, rfl, rfl, by decide⟩
-- quaestor/merkle.turns
theorem merkle_turns (i : Int) (n : Int) (hi : 0 ≤ i ∧ i < n) (hn : n ≤ 9223372036854775807) : Holds Try.prog 61 ⟨[dv (.int .i64 i), dv (.int .i64 n)], [], ownV 0 kBool 0 (sidesN i.toNat n.toNat).length, [.live (arrK 4 kBool (sidesN i.toNat n.toNat))]⟩ := by
  refine Holds.of Try.func61 rfl (N := 31) Try.ntmps61 rfl fun w0 B0 S0 U0 => ?_
  show T _ (mkBase 31 0 w0 S0 U0 B0) ⟨[dv (.int .i64 i), dv (.int .i64 n)], []⟩ _ _
  refine T.seq ?_
  refine xR [] (by kernel_rfl) (by kernel_rfl) ?_
  refine nT ?_
  refine T.scopeS ?_
  refine T.seq ?_
  refine T.label ?_
  refine nT ?_
  refine T.seq ?_
  refine T.block ?_
  refine T.turn (s' := ⟨[dv (.int .i64 i), dv (.int .i64 n), aa, aa, dv (.slice none 0 0)], []⟩) (fun _ _ hG => Gs.norm (by kernel_rfl) hG) ?_
  refine T.turn (s' := ⟨[dv (.int .i64 i), dv (.int .i64 n), aa, aa, ownV 0 kBool 0 0], [.live (arrK 4 kBool ([] : List Bool))]⟩) (fun _ _ hG => Gs.absent 0 4 4 kBool rfl rfl hG) ?_
  refine T.loop (ι := Nat × Nat × (List Bool)) (fun (x_ : Nat × Nat × (List Bool)) => ⟨[dv (.int .i64 ((x_.1 : Nat) : Int)), dv (.int .i64 ((x_.2.1 : Nat) : Int)), aa, aa, ownV 0 kBool 0 x_.2.2.length], [.live (arrK 4 kBool x_.2.2)]⟩) (fun (x_ : Nat × Nat × (List Bool)) => (x_.2.1 ≤ 9223372036854775807) ∧ (x_.1 < x_.2.1) ∧ (sidesN i.toNat n.toNat = sidesN x_.1 x_.2.1 ++ x_.2.2.reverse)) (fun (x_ : Nat × Nat × (List Bool)) => x_.2.1) (i.toNat, n.toNat, ([] : List Bool)) ⟨(show n.toNat ≤ 9223372036854775807 from (by omega)), (show i.toNat < n.toNat from (by omega)), (show sidesN i.toNat n.toNat = sidesN i.toNat n.toNat ++ ([] : List Bool).reverse from (by simp))⟩ (fun _ _ hG => Gs.into2 (s' := ⟨[dv (.int .i64 ((i.toNat : Nat) : Int)), dv (.int .i64 ((n.toNat : Nat) : Int)), aa, aa, ownV 0 kBool 0 ([] : List Bool).length], [.live (arrK 4 kBool ([] : List Bool))]⟩) [0] (bm 5 19) (t1 := [dv (.int .i64 ((i.toNat : Nat) : Int)), dv (.int .i64 ((n.toNat : Nat) : Int)), aa, aa, ownV 0 kBool 0 ([] : List Bool).length]) (t2 := [dv (.int .i64 i), dv (.int .i64 n), aa, aa, ownV 0 kBool 0 0]) (h1 := [.live (arrK 4 kBool ([] : List Bool))]) (by have e1 : (((i.toNat : Nat) : Int) : Int) = i := (by first | rfl | omega); have e2 : (((n.toNat : Nat) : Int) : Int) = n := (by first | rfl | omega); have e3 : (([] : List Bool).length : Nat) = 0 := (by first | rfl | omega); have hE := congr (congr (congrArg (fun (q1 : Int) (q2 : Int) (q3 : Nat) => ([dv (.int .i64 q1), dv (.int .i64 q2), aa, aa, ownV 0 kBool 0 q3] : List AV)) e1) e2) e3; exact hE) rfl (by kernel_rfl) (by kernel_rfl) (by kernel_rfl) (by kernel_rfl) (by kernel_rfl) (by kernel_rfl) (by kernel_rfl) (by kernel_rfl) (by kernel_rfl) (by kernel_rfl) (by kernel_rfl) hG) ?_
  rintro ⟨j, m, Dn⟩ ⟨hm, hj, he⟩
  show T _ _ ⟨[dv (.int .i64 ((j : Nat) : Int)), dv (.int .i64 ((m : Nat) : Int)), aa, aa, ownV 0 kBool 0 Dn.length], [.live (arrK 4 kBool Dn)]⟩ _ _
  replace hm : m ≤ 9223372036854775807 := hm
  replace hj : j < m := hj
  replace he : sidesN i.toNat n.toNat = sidesN j m ++ Dn.reverse := he
  have hDl := sides_D he
  refine T.block ?_
  refine T.seq ?_
  refine T.seq ?_
  refine xR [] (by kernel_rfl) (by kernel_rfl) ?_
  refine nT ?_
  by_cases hq1 : ((m : Nat) : Int) < 2
  · refine T.condT (by kernel_rfl) (decide_eq_true hq1) ?_
    refine T.exit ?_
    refine xT ?_
    refine xM rfl ?_
    refine xT ?_
    refine xH ?_
    refine nT ?_
    refine T.seq ?_
    refine xR [hR 1 rfl rfl (r_call (rev_bool Dn (by first | assumption | omega | (unfold maxLen; omega) | (simp [maxLen, -List.getD_eq_getElem?_getD] <;> omega) | decide)) Try.func71 rfl (by decide) [0] [] (l := [(.tmp 28, ownV 0 kBool 0 Dn.length)]) [] rfl 1 1 rfl rfl rfl rfl rfl rfl rfl rfl rfl ⟨.inl ⟨rfl, rfl⟩, trivial⟩ rfl (fun b hb => by cases hb) (.inl rfl) (lt_of rfl) trivial)] (by kernel_rfl) (by kernel_rfl) ?_
    refine nT ?_
    refine T.seq ?_
    refine T.turn (s' := ⟨[dv (.int .i64 ((j : Nat) : Int)), dv (.int .i64 ((m : Nat) : Int)), aa, aa, ownV 0 kBool 0 Dn.length, aa, aa, aa, dv (.bool (decide (((m : Nat) : Int) < 2)))], [.live (arrK 4 kBool Dn.reverse)]⟩) (fun _ _ hG => Gs.norm (by kernel_rfl) hG) ?_
    refine T.turn (s' := ⟨[dv (.int .i64 ((j : Nat) : Int)), dv (.int .i64 ((m : Nat) : Int)), aa, aa, ownV 0 kBool 0 Dn.reverse.length, aa, aa, aa, dv (.bool (decide (((m : Nat) : Int) < 2)))], [.live (arrK 4 kBool Dn.reverse)]⟩) (fun _ _ hG => Gs.into2 (s' := ⟨[dv (.int .i64 ((j : Nat) : Int)), dv (.int .i64 ((m : Nat) : Int)), aa, aa, ownV 0 kBool 0 Dn.reverse.length, aa, aa, aa, dv (.bool (decide (((m : Nat) : Int) < 2)))], [.live (arrK 4 kBool Dn.reverse)]⟩) [0] (bm 9 275) (t1 := [dv (.int .i64 ((j : Nat) : Int)), dv (.int .i64 ((m : Nat) : Int)), aa, aa, ownV 0 kBool 0 Dn.reverse.length, aa, aa, aa, dv (.bool (decide (((m : Nat) : Int) < 2)))]) (t2 := [dv (.int .i64 ((j : Nat) : Int)), dv (.int .i64 ((m : Nat) : Int)), aa, aa, ownV 0 kBool 0 Dn.length, aa, aa, aa, dv (.bool (decide (((m : Nat) : Int) < 2)))]) (h1 := [.live (arrK 4 kBool Dn.reverse)]) (by have e1 : (Dn.reverse.length : Nat) = Dn.length := (by simp only [List.length_set, List.length_reverse]); have hE := congrArg (fun (q1 : Nat) => ([dv (.int .i64 ((j : Nat) : Int)), dv (.int .i64 ((m : Nat) : Int)), aa, aa, ownV 0 kBool 0 q1, aa, aa, aa, dv (.bool (decide (((m : Nat) : Int) < 2)))] : List AV)) e1; exact hE) rfl (by kernel_rfl) (by kernel_rfl) (by kernel_rfl) (by kernel_rfl) (by kernel_rfl) (by kernel_rfl) (by kernel_rfl) (by kernel_rfl) (by kernel_rfl) (by kernel_rfl) (by kernel_rfl) hG) ?_
    refine xR [] (by kernel_rfl) (by kernel_rfl) ?_
    refine nT ?_
    refine T.ret ?_
    refine rS ?_
    exact tE (.inl rfl) [.t 4 (.one (.own 0 kBool.sz 0 Dn.reverse.length))] ⟨⟨rfl, by kernel_rfl⟩, trivial⟩ [0] (by have e1 : ((sidesN i.toNat n.toNat).length : Nat) = Dn.reverse.length := (by first | rfl | exact (sides_end he (by omega)).symm | exact sides_end he (by omega) | (rw [← sides_end he (by omega)])); have hE := congrArg (fun (q1 : Nat) => (ownV 0 kBool 0 q1 : AV)) e1; exact hE) rfl rfl rfl rfl rfl ⟨⟨rfl, (by have e1 : (Dn.reverse : List Bool) = (sidesN i.toNat n.toNat) := (by first | rfl | exact (sides_end he (by omega)).symm | exact sides_end he (by omega) | (rw [← sides_end he (by omega)])); have hE := congrArg (fun (q1 : List Bool) => (.live (arrK 4 kBool q1) : HS)) e1; exact Eq.trans (by kernel_rfl) hE)⟩, trivial⟩
  · have h2m : 2 ≤ m := (by omega); have hhl := half_lt h2m; have hhp := half_pos m
    refine T.condF (by kernel_rfl) (decide_eq_false hq1) ?_
    refine T.skip ?_
    refine nT ?_
    refine T.seq ?_
    refine xR [hR 1 rfl rfl (r_call (merkle_split m (by first | assumption | omega | (unfold maxLen; omega) | (simp [maxLen, -List.getD_eq_getElem?_getD] <;> omega) | decide) (by first | assumption | omega | (unfold maxLen; omega) | (simp [maxLen, -List.getD_eq_getElem?_getD] <;> omega) | decide)) Try.func54 rfl (by decide) [] [] (l := [(.tmp 9, dv (.int .i64 ((m : Nat) : Int)))]) [] rfl 0 0 rfl rfl rfl rfl rfl rfl rfl rfl rfl ⟨.inl ⟨rfl, rfl⟩, trivial⟩ rfl (fun b hb => by cases hb) (.inl rfl) (lt_of rfl) trivial)] (by kernel_rfl) (by kernel_rfl) ?_
    refine nT ?_
    refine T.seq ?_
    refine T.seq ?_
    refine xR [] (by kernel_rfl) (by kernel_rfl) ?_
    refine nT ?_
    refine T.seq ?_
    refine xR [] (by kernel_rfl) (by kernel_rfl) ?_
    refine nT ?_
    by_cases hq2 : ((j : Nat) : Int) ≥ ((half m : Nat) : Int)
    · refine T.condT (by kernel_rfl) (decide_eq_true hq2) ?_
      refine T.seq ?_
      refine xR [hR 1 rfl rfl (q_buildSlice 1 4 kBool kBool_ok [true] [⟨0, .const (.bool true), .one (.d (.val (.bool true))), 0⟩] (cs := [.d (.val (.bool true))]) Try.underlying84 iat_4 rfl zero_4 rfl rfl rfl (Nat.le_of_ble_eq_true rfl) (part_cons rfl rfl (Nat.le_of_ble_eq_true rfl) part_ok) rfl ⟨(.inl rfl), trivial⟩ (lt_of rfl) ⟨rfl, trivial⟩),
        hR 2 rfl rfl (q_appendO 0 2 4 1 kBool kBool_ok Dn [true] (Dn ++ [true]) Dn.length (sy := (.own 1 kBool.sz 0 [true].length)) (rhs := [(1, .live (arrK 4 kBool [true]))]) elem_84 (by first | assumption | omega | (unfold maxLen; omega) | (simp [maxLen, -List.getD_eq_getElem?_getD] <;> omega) | decide) (src_own 1 4 kBool [true]) (by rw [List.take_length]) (by first | assumption | omega | (unfold maxLen; omega) | (simp [maxLen, -List.getD_eq_getElem?_getD] <;> omega) | decide) (by first | assumption | omega | (unfold maxLen; omega) | (simp [maxLen, -List.getD_eq_getElem?_getD] <;> omega) | decide) (lt_of rfl) trivial)] (by kernel_rfl) (by kernel_rfl) ?_
      refine nT ?_
      refine T.seq ?_
      refine xR [hR 2 rfl rfl (r_bin (u1 := .int .i64 ((j : Nat) : Int)) (u2 := .int .i64 ((half m : Nat) : Int)) (v := .int .i64 ((j - (half m) : Nat) : Int)) (b_sub (by rw [IntKind.wrap_i64]; omega)) (lt_of rfl) trivial),
        hR 5 rfl rfl (r_bin (u1 := .int .i64 ((m : Nat) : Int)) (u2 := .int .i64 ((half m : Nat) : Int)) (v := .int .i64 ((m - (half m) : Nat) : Int)) (b_sub (by rw [IntKind.wrap_i64]; omega)) (lt_of rfl) trivial)] (by kernel_rfl) (by kernel_rfl) ?_
      refine nT ?_
      refine T.exit ?_
      refine xT ?_
      refine xH ?_
      refine nL (j - (half m), m - (half m), Dn ++ [true]) ⟨(show (m - (half m)) ≤ 9223372036854775807 from (by omega)), (show (j - (half m)) < (m - (half m)) from (by omega)), (show sidesN i.toNat n.toNat = sidesN (j - (half m)) (m - (half m)) ++ (Dn ++ [true]).reverse from (by first | exact sides_stepr he h2m hm (by omega) | exact sides_stepl he h2m hm (by omega)))⟩ (show ((m - (half m)) : Nat) < m from (by omega)) (fun _ _ hG => Gs.into2 (s' := ⟨[dv (.int .i64 ((j - (half m) : Nat) : Int)), dv (.int .i64 ((m - (half m) : Nat) : Int)), aa, aa, ownV 0 kBool 0 (Dn ++ [true]).length], [.live (arrK 4 kBool (Dn ++ [true]))]⟩) [2] (bm 5 19) (t1 := [dv (.int .i64 ((j - (half m) : Nat) : Int)), dv (.int .i64 ((m - (half m) : Nat) : Int)), aa, aa, ownV 2 kBool 0 (Dn ++ [true]).length]) (h1 := [.live (arrK 4 kBool (Dn ++ [true]))]) rfl rfl (by kernel_rfl) (by kernel_rfl) (by kernel_rfl) (by kernel_rfl) (by kernel_rfl) (by kernel_rfl) (by kernel_rfl) (by kernel_rfl) (by kernel_rfl) (by kernel_rfl) (by kernel_rfl) hG)
    · refine T.condF (by kernel_rfl) (decide_eq_false hq2) ?_
      refine T.skip ?_
      refine nT ?_
      refine T.seq ?_
      refine xR [hR 1 rfl rfl (q_buildSlice 1 4 kBool kBool_ok [false] [⟨0, .const (.bool false), .one (.d (.val (.bool false))), 0⟩] (cs := [.d (.val (.bool false))]) Try.underlying84 iat_4 rfl zero_4 rfl rfl rfl (Nat.le_of_ble_eq_true rfl) (part_cons rfl rfl (Nat.le_of_ble_eq_true rfl) part_ok) rfl ⟨(.inl rfl), trivial⟩ (lt_of rfl) ⟨rfl, trivial⟩),
        hR 2 rfl rfl (q_appendO 0 2 4 1 kBool kBool_ok Dn [false] (Dn ++ [false]) Dn.length (sy := (.own 1 kBool.sz 0 [false].length)) (rhs := [(1, .live (arrK 4 kBool [false]))]) elem_84 (by first | assumption | omega | (unfold maxLen; omega) | (simp [maxLen, -List.getD_eq_getElem?_getD] <;> omega) | decide) (src_own 1 4 kBool [false]) (by rw [List.take_length]) (by first | assumption | omega | (unfold maxLen; omega) | (simp [maxLen, -List.getD_eq_getElem?_getD] <;> omega) | decide) (by first | assumption | omega | (unfold maxLen; omega) | (simp [maxLen, -List.getD_eq_getElem?_getD] <;> omega) | decide) (lt_of rfl) trivial)] (by kernel_rfl) (by kernel_rfl) ?_
      refine nT ?_
      refine xR [] (by kernel_rfl) (by kernel_rfl) ?_
      refine nB ?_
      refine nL (j, half m, Dn ++ [false]) ⟨(show (half m) ≤ 9223372036854775807 from (by omega)), (show j < (half m) from (by omega)), (show sidesN i.toNat n.toNat = sidesN j (half m) ++ (Dn ++ [false]).reverse from (by first | exact sides_stepr he h2m hm (by omega) | exact sides_stepl he h2m hm (by omega)))⟩ (show ((half m) : Nat) < m from (by omega)) (fun _ _ hG => Gs.into2 (s' := ⟨[dv (.int .i64 ((j : Nat) : Int)), dv (.int .i64 ((half m : Nat) : Int)), aa, aa, ownV 0 kBool 0 (Dn ++ [false]).length], [.live (arrK 4 kBool (Dn ++ [false]))]⟩) [2] (bm 5 19) (t1 := [dv (.int .i64 ((j : Nat) : Int)), dv (.int .i64 ((half m : Nat) : Int)), aa, aa, ownV 2 kBool 0 (Dn ++ [false]).length]) (h1 := [.live (arrK 4 kBool (Dn ++ [false]))]) rfl rfl (by kernel_rfl) (by kernel_rfl) (by kernel_rfl) (by kernel_rfl) (by kernel_rfl) (by kernel_rfl) (by kernel_rfl) (by kernel_rfl) (by kernel_rfl) (by kernel_rfl) (by kernel_rfl) hG)

-- quaestor/quaestorref09.sides
theorem ref09_sides_rec : ∀ (N : Nat) (j : Nat) (m : Nat) (hj : j ≤ 9223372036854775807) (hm : m ≤ 9223372036854775807), m = N → Holds Try.prog 62 ⟨[dv (.int .i64 ((j : Nat) : Int)), dv (.int .i64 ((m : Nat) : Int))], [], ownV 0 kBool 0 (sidesN j m).length, [.live (arrK 4 kBool (sidesN j m))]⟩ := by
  intro N
  induction N using Nat.strongRecOn with
  | _ N ih =>
    intro j m hj hm hN
    refine Holds.of Try.func62 rfl (N := 27) Try.ntmps62 rfl fun w0 B0 S0 U0 => ?_
    show T _ (mkBase 27 0 w0 S0 U0 B0) ⟨[dv (.int .i64 ((j : Nat) : Int)), dv (.int .i64 ((m : Nat) : Int))], []⟩ _ _
    refine T.seq ?_
    refine xR [] (by kernel_rfl) (by kernel_rfl) ?_
    refine nT ?_
    refine T.seq ?_
    refine T.seq ?_
    refine xR [] (by kernel_rfl) (by kernel_rfl) ?_
    refine nT ?_
    by_cases hq1 : ((m : Nat) : Int) < 2
    · refine T.condT (by kernel_rfl) (decide_eq_true hq1) ?_
      refine T.seq ?_
      refine xR [] (by kernel_rfl) (by kernel_rfl) ?_
      refine nT ?_
      refine T.ret ?_
      refine rT ?_
      refine Ends.turn (s' := ⟨[dv (.int .i64 ((j : Nat) : Int)), dv (.int .i64 ((m : Nat) : Int)), aa, aa, dv (.slice none 0 0), aa, aa, dv (.bool (decide (((m : Nat) : Int) < 2)))], []⟩) (fun _ _ hG => Gs.norm (by kernel_rfl) hG) ?_
      refine Ends.turn (s' := ⟨[dv (.int .i64 ((j : Nat) : Int)), dv (.int .i64 ((m : Nat) : Int)), aa, aa, ownV 0 kBool 0 0, aa, aa, dv (.bool (decide (((m : Nat) : Int) < 2)))], [.live (arrK 4 kBool ([] : List Bool))]⟩) (fun _ _ hG => Gs.absent 0 4 4 kBool rfl rfl hG) ?_
      exact tE (.inl rfl) [.t 4 (.one (.own 0 kBool.sz 0 0))] ⟨⟨rfl, by kernel_rfl⟩, trivial⟩ [0] (by have e1 : ((sidesN j m).length : Nat) = 0 := (by first | rfl | exact sides_1 (by omega) _ | exact (sides_1 (by omega) _).symm | (rw [sides_1 (by omega)]; first | done | rfl) | exact sides_l h2m hm (by omega) | exact (sides_l h2m hm (by omega)).symm | exact sides_r h2m hm (by omega) | exact (sides_r h2m hm (by omega)).symm | (rw [sides_l h2m hm (by omega)]) | (rw [sides_r h2m hm (by omega)])); have hE := congrArg (fun (q1 : Nat) => (ownV 0 kBool 0 q1 : AV)) e1; exact hE) rfl rfl rfl rfl rfl ⟨⟨rfl, (by have e1 : (([] : List Bool) : List Bool) = (sidesN j m) := (by first | rfl | exact sides_1 (by omega) _ | exact (sides_1 (by omega) _).symm | (rw [sides_1 (by omega)]; first | done | rfl) | exact sides_l h2m hm (by omega) | exact (sides_l h2m hm (by omega)).symm | exact sides_r h2m hm (by omega) | exact (sides_r h2m hm (by omega)).symm | (rw [sides_l h2m hm (by omega)]) | (rw [sides_r h2m hm (by omega)])); have hE := congrArg (fun (q1 : List Bool) => (.live (arrK 4 kBool q1) : HS)) e1; exact Eq.trans (by kernel_rfl) hE)⟩, trivial⟩
    · have h2m : 2 ≤ m := (by omega); have hhl := half_lt h2m; have hhp := half_pos m; have hsa := sides_len j (half m); have hsb := sides_len (j - half m) (m - half m)
      refine T.condF (by kernel_rfl) (decide_eq_false hq1) ?_
      refine T.skip ?_
      refine nT ?_
      refine T.seq ?_
      refine xR [hR 1 rfl rfl (r_call (ref09_half m (by first | assumption | omega | (unfold maxLen; omega) | (simp [maxLen, -List.getD_eq_getElem?_getD] <;> omega) | decide) (by first | assumption | omega | (unfold maxLen; omega) | (simp [maxLen, -List.getD_eq_getElem?_getD] <;> omega) | decide)) Try.func57 rfl (by decide) [] [] (l := [(.tmp 8, dv (.int .i64 ((m : Nat) : Int)))]) [] rfl 0 0 rfl rfl rfl rfl rfl rfl rfl rfl rfl ⟨.inl ⟨rfl, rfl⟩, trivial⟩ rfl (fun b hb => by cases hb) (.inl rfl) (lt_of rfl) trivial)] (by kernel_rfl) (by kernel_rfl) ?_
      refine nT ?_
      refine T.seq ?_
      refine T.seq ?_
      refine xR [] (by kernel_rfl) (by kernel_rfl) ?_
      refine nT ?_
      by_cases hq2 : ((j : Nat) : Int) < ((half m : Nat) : Int)
      · refine T.condT (by kernel_rfl) (decide_eq_true hq2) ?_
        refine T.seq ?_
        refine xR [hR 2 rfl rfl (r_call (ih ((half m)) (show (half m) < N from (by omega)) j (half m) (by first | assumption | omega | (unfold maxLen; omega) | (simp [maxLen, -List.getD_eq_getElem?_getD] <;> omega) | decide) (by first | assumption | omega | (unfold maxLen; omega) | (simp [maxLen, -List.getD_eq_getElem?_getD] <;> omega) | decide) rfl) Try.func62 rfl (by decide) [0] [] (l := [(.tmp 13, dv (.int .i64 ((j : Nat) : Int))), (.tmp 14, dv (.int .i64 ((half m : Nat) : Int)))]) [] rfl 0 1 rfl rfl rfl rfl rfl rfl rfl rfl rfl ⟨.inl ⟨rfl, rfl⟩, ⟨.inl ⟨rfl, rfl⟩, trivial⟩⟩ rfl (fun b hb => by cases hb) (.inl rfl) (lt_of rfl) trivial),
          hR 3 rfl rfl (q_buildSlice 1 4 kBool kBool_ok [false] [⟨0, .const (.bool false), .one (.d (.val (.bool false))), 0⟩] (cs := [.d (.val (.bool false))]) Try.underlying84 iat_4 rfl zero_4 rfl rfl rfl (Nat.le_of_ble_eq_true rfl) (part_cons rfl rfl (Nat.le_of_ble_eq_true rfl) part_ok) rfl ⟨(.inl rfl), trivial⟩ (lt_of rfl) ⟨rfl, trivial⟩),
          hR 4 rfl rfl (q_appendO 0 2 4 1 kBool kBool_ok (sidesN j (half m)) [false] ((sidesN j (half m)) ++ [false]) (sidesN j (half m)).length (sy := (.own 1 kBool.sz 0 [false].length)) (rhs := [(1, .live (arrK 4 kBool [false]))]) elem_84 (by first | assumption | omega | (unfold maxLen; omega) | (simp [maxLen, -List.getD_eq_getElem?_getD] <;> omega) | decide) (src_own 1 4 kBool [false]) (by rw [List.take_length]) (by first | assumption | omega | (unfold maxLen; omega) | (simp [maxLen, -List.getD_eq_getElem?_getD] <;> omega) | decide) (by first | assumption | omega | (unfold maxLen; omega) | (simp [maxLen, -List.getD_eq_getElem?_getD] <;> omega) | decide) (lt_of rfl) trivial)] (by kernel_rfl) (by kernel_rfl) ?_
        refine nT ?_
        refine T.ret ?_
        refine rT ?_
        exact tE (.inl rfl) [.t 4 (.one (.own 2 kBool.sz 0 ((sidesN j (half m)) ++ [false]).length))] ⟨⟨rfl, by kernel_rfl⟩, trivial⟩ [2] (by have e1 : ((sidesN j m).length : Nat) = ((sidesN j (half m)) ++ [false]).length := (by first | rfl | exact sides_1 (by omega) _ | exact (sides_1 (by omega) _).symm | (rw [sides_1 (by omega)]; first | done | rfl) | exact sides_l h2m hm (by omega) | exact (sides_l h2m hm (by omega)).symm | exact sides_r h2m hm (by omega) | exact (sides_r h2m hm (by omega)).symm | (rw [sides_l h2m hm (by omega)]) | (rw [sides_r h2m hm (by omega)])); have hE := congrArg (fun (q1 : Nat) => (ownV 2 kBool 0 q1 : AV)) e1; exact hE) rfl rfl rfl rfl rfl ⟨⟨rfl, (by have e1 : ((sidesN j (half m)) ++ [false] : List Bool) = (sidesN j m) := (by first | rfl | exact sides_1 (by omega) _ | exact (sides_1 (by omega) _).symm | (rw [sides_1 (by omega)]; first | done | rfl) | exact sides_l h2m hm (by omega) | exact (sides_l h2m hm (by omega)).symm | exact sides_r h2m hm (by omega) | exact (sides_r h2m hm (by omega)).symm | (rw [sides_l h2m hm (by omega)]) | (rw [sides_r h2m hm (by omega)])); have hE := congrArg (fun (q1 : List Bool) => (.live (arrK 4 kBool q1) : HS)) e1; exact Eq.trans (by kernel_rfl) hE)⟩, trivial⟩
      · refine T.condF (by kernel_rfl) (decide_eq_false hq2) ?_
        refine T.skip ?_
        refine nT ?_
        refine T.seq ?_
        refine xR [hR 2 rfl rfl (r_bin (u1 := .int .i64 ((j : Nat) : Int)) (u2 := .int .i64 ((half m : Nat) : Int)) (v := .int .i64 ((j - (half m) : Nat) : Int)) (b_sub (by rw [IntKind.wrap_i64]; omega)) (lt_of rfl) trivial),
          hR 5 rfl rfl (r_bin (u1 := .int .i64 ((m : Nat) : Int)) (u2 := .int .i64 ((half m : Nat) : Int)) (v := .int .i64 ((m - (half m) : Nat) : Int)) (b_sub (by rw [IntKind.wrap_i64]; omega)) (lt_of rfl) trivial),
          hR 6 rfl rfl (r_call (ih ((m - (half m))) (show (m - (half m)) < N from (by omega)) (j - (half m)) (m - (half m)) (by first | assumption | omega | (unfold maxLen; omega) | (simp [maxLen, -List.getD_eq_getElem?_getD] <;> omega) | decide) (by first | assumption | omega | (unfold maxLen; omega) | (simp [maxLen, -List.getD_eq_getElem?_getD] <;> omega) | decide) rfl) Try.func62 rfl (by decide) [0] [] (l := [(.tmp 20, dv (.int .i64 ((j - (half m) : Nat) : Int))), (.tmp 23, dv (.int .i64 ((m - (half m) : Nat) : Int)))]) [] rfl 0 1 rfl rfl rfl rfl rfl rfl rfl rfl rfl ⟨.inl ⟨rfl, rfl⟩, ⟨.inl ⟨rfl, rfl⟩, trivial⟩⟩ rfl (fun b hb => by cases hb) (.inl rfl) (lt_of rfl) trivial),
          hR 7 rfl rfl (q_buildSlice 1 4 kBool kBool_ok [true] [⟨0, .const (.bool true), .one (.d (.val (.bool true))), 0⟩] (cs := [.d (.val (.bool true))]) Try.underlying84 iat_4 rfl zero_4 rfl rfl rfl (Nat.le_of_ble_eq_true rfl) (part_cons rfl rfl (Nat.le_of_ble_eq_true rfl) part_ok) rfl ⟨(.inl rfl), trivial⟩ (lt_of rfl) ⟨rfl, trivial⟩),
          hR 8 rfl rfl (q_appendO 0 2 4 1 kBool kBool_ok (sidesN (j - (half m)) (m - (half m))) [true] ((sidesN (j - (half m)) (m - (half m))) ++ [true]) (sidesN (j - (half m)) (m - (half m))).length (sy := (.own 1 kBool.sz 0 [true].length)) (rhs := [(1, .live (arrK 4 kBool [true]))]) elem_84 (by first | assumption | omega | (unfold maxLen; omega) | (simp [maxLen, -List.getD_eq_getElem?_getD] <;> omega) | decide) (src_own 1 4 kBool [true]) (by rw [List.take_length]) (by first | assumption | omega | (unfold maxLen; omega) | (simp [maxLen, -List.getD_eq_getElem?_getD] <;> omega) | decide) (by first | assumption | omega | (unfold maxLen; omega) | (simp [maxLen, -List.getD_eq_getElem?_getD] <;> omega) | decide) (lt_of rfl) trivial)] (by kernel_rfl) (by kernel_rfl) ?_
        refine nT ?_
        refine T.ret ?_
        exact tE (.inl rfl) [.t 4 (.one (.own 2 kBool.sz 0 ((sidesN (j - (half m)) (m - (half m))) ++ [true]).length))] ⟨⟨rfl, by kernel_rfl⟩, trivial⟩ [2] (by have e1 : ((sidesN j m).length : Nat) = ((sidesN (j - (half m)) (m - (half m))) ++ [true]).length := (by first | rfl | exact sides_1 (by omega) _ | exact (sides_1 (by omega) _).symm | (rw [sides_1 (by omega)]; first | done | rfl) | exact sides_l h2m hm (by omega) | exact (sides_l h2m hm (by omega)).symm | exact sides_r h2m hm (by omega) | exact (sides_r h2m hm (by omega)).symm | (rw [sides_l h2m hm (by omega)]) | (rw [sides_r h2m hm (by omega)])); have hE := congrArg (fun (q1 : Nat) => (ownV 2 kBool 0 q1 : AV)) e1; exact hE) rfl rfl rfl rfl rfl ⟨⟨rfl, (by have e1 : ((sidesN (j - (half m)) (m - (half m))) ++ [true] : List Bool) = (sidesN j m) := (by first | rfl | exact sides_1 (by omega) _ | exact (sides_1 (by omega) _).symm | (rw [sides_1 (by omega)]; first | done | rfl) | exact sides_l h2m hm (by omega) | exact (sides_l h2m hm (by omega)).symm | exact sides_r h2m hm (by omega) | exact (sides_r h2m hm (by omega)).symm | (rw [sides_l h2m hm (by omega)]) | (rw [sides_r h2m hm (by omega)])); have hE := congrArg (fun (q1 : List Bool) => (.live (arrK 4 kBool q1) : HS)) e1; exact Eq.trans (by kernel_rfl) hE)⟩, trivial⟩
theorem ref09_sides (j : Nat) (m : Nat) (hj : j ≤ 9223372036854775807) (hm : m ≤ 9223372036854775807) : Holds Try.prog 62 ⟨[dv (.int .i64 ((j : Nat) : Int)), dv (.int .i64 ((m : Nat) : Int))], [], ownV 0 kBool 0 (sidesN j m).length, [.live (arrK 4 kBool (sidesN j m))]⟩ := ref09_sides_rec _ j m hj hm rfl
end Go.Proofs.Ytacikihlgpnjhaa.Q
