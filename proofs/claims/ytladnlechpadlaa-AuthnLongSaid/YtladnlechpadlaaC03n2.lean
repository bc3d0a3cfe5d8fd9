import Derived.Test.YtladnlechpadlaaC03n1
namespace Go.Proofs.Ytladnlechpadlaa.Q
open Go Go.RowKit
set_option linter.unusedVariables false
set_option linter.unusedSimpArgs false
set_option maxRecDepth 100000
set_option maxHeartbeats 4000000
-- (*quaestor/authn.Authority).Primary
theorem authn_Primary (f : Int) (u : Int) (rows : List (authn_pair × Bool)) (s : Int) (hf : 0 ≤ f ∧ f ≤ 2) (hu : 0 ≤ u ∧ u ≤ 8) : Holds Try.prog 27 ⟨[pv 0 0, dv (.int .i64 s)], [.box 58 [.d (.val (.int .i64 (3 * f + 1))), .d (.val (.int .i64 u)), .mref 1], mpK f_authn_pair kBool rows], dv (.int .i64 (primaryA f s)), [.live (.box 58 [.d (.val (.int .i64 (3 * f + 1))), .d (.val (.int .i64 u)), .mref 1]), .live (mpK f_authn_pair kBool rows)]⟩ := by
  refine Holds.of Try.func27 rfl (N := 18) Try.ntmps27 rfl fun w0 B0 S0 U0 => ?_
  show T _ (mkBase 18 2 w0 S0 U0 B0) ⟨[pv 0 0, dv (.int .i64 s)], [.live (.box 58 [.d (.val (.int .i64 (3 * f + 1))), .d (.val (.int .i64 u)), .mref 1]), .live (mpK f_authn_pair kBool rows)]⟩ _ _
  refine T.seq ?_
  refine tR (s1 := ⟨[pv 0 0, dv (.int .i64 s), AV.any, AV.any, dv (.int .i64 0)], [.live (.box 58 [.d (.val (.int .i64 (3 * f + 1))), .d (.val (.int .i64 u)), .mref 1]), .live (mpK f_authn_pair kBool rows)]⟩) [true, true, false, false, true] [true, true]
    (oC (oS rfl rfl (r_assign (av := dv (.int .i64 0)) (lt_of rfl) ⟨rfl, trivial⟩)) (oZ rfl))
    (by kernel_rfl) (by kernel_rfl) ?_
  refine nT ?_
  refine T.seq ?_
  refine T.seq ?_
  by_cases hq1 : (3 * f + 1) = 0
  · refine tR (s1 := ⟨[pv 0 0, dv (.int .i64 s), AV.any, AV.any, dv (.int .i64 0), AV.any, AV.any, AV.any, AV.any, AV.any, AV.any, dv (.bool true)], [.live (.box 58 [.d (.val (.int .i64 (3 * f + 1))), .d (.val (.int .i64 u)), .mref 1]), .live (mpK f_authn_pair kBool rows)]⟩) [true, true, false, false, true, false, false, false, false, false, false, true] [true, true]
      (oC (oS rfl rfl (r_move (av := pv 0 0) (lt_of rfl) trivial))
      (oC (oS rfl rfl (r_call (authn_N f u rows (by first | assumption | omega | (simp only [maxLen, kU8_sz, kSl_sz, k_quaestorlaw03_Deed_sz, k_quaestorlaw03_Size_sz, k_authn_pair_sz, k_api_Envelope_sz]; omega) | (simp only [maxLen, kU8_sz, kSl_sz, k_quaestorlaw03_Deed_sz, k_quaestorlaw03_Size_sz, k_authn_pair_sz, k_api_Envelope_sz, List.length_append, List.length_cons, List.length_nil, List.length_take, List.length_drop, List.length_set]; omega) | decide) (by first | assumption | omega | (simp only [maxLen, kU8_sz, kSl_sz, k_quaestorlaw03_Deed_sz, k_quaestorlaw03_Size_sz, k_authn_pair_sz, k_api_Envelope_sz]; omega) | (simp only [maxLen, kU8_sz, kSl_sz, k_quaestorlaw03_Deed_sz, k_quaestorlaw03_Size_sz, k_authn_pair_sz, k_api_Envelope_sz, List.length_append, List.length_cons, List.length_nil, List.length_take, List.length_drop, List.length_set]; omega) | decide)) Try.func26 rfl (by decide) [0, 1] [] (l := [(.tmp 5, pv 0 0)]) [] rfl 2 2 rfl rfl rfl rfl rfl rfl rfl rfl rfl ⟨.inl ⟨rfl, rfl⟩, trivial⟩ rfl (fun b hb => by cases hb) (.inl rfl) (lt_of rfl) trivial))
      (oC (oS rfl rfl (r_bin (u1 := .int .i64 (3 * f + 1)) (u2 := .int .i64 0) (v := .bool (decide ((3 * f + 1) = 0))) b_eql (lt_of rfl) ⟨rfl, trivial⟩))
      (oC (oS rfl rfl (r_move (av := dv (.bool (decide ((3 * f + 1) = 0)))) (lt_of rfl) trivial))
      (oC (oN (b := (decide ((3 * f + 1) = 0))) rfl rfl rfl rfl (lt_of rfl) (decide_eq_true hq1) rfl (lt_of rfl))
      (oC (oN (b := (decide ((3 * f + 1) = 0))) rfl rfl rfl rfl (lt_of rfl) (decide_eq_true hq1) rfl (lt_of rfl))
      (oC (oS rfl rfl (r_pickT (b := (decide ((3 * f + 1) = 0))) (av := dv (.bool true)) (lt_of rfl) ⟨rfl, trivial⟩ (decide_eq_true hq1))) (oZ rfl))))))))
      (by kernel_rfl) (by kernel_rfl) ?_
    refine nT ?_
    refine T.condT (b := true) rfl rfl ?_
    refine T.seq ?_
    refine tR (s1 := ⟨[pv 0 0, dv (.int .i64 s), AV.any, AV.any, dv (.int .i64 0), AV.any, AV.any, AV.any, AV.any, AV.any, AV.any, dv (.bool true)], [.live (.box 58 [.d (.val (.int .i64 (3 * f + 1))), .d (.val (.int .i64 u)), .mref 1]), .live (mpK f_authn_pair kBool rows)]⟩) [true, true, false, false, true, false, false, false, false, false, false, true] [true, true]
      (oC (oS rfl rfl (r_assign (av := dv (.int .i64 0)) (lt_of rfl) ⟨rfl, trivial⟩)) (oZ rfl))
      (by kernel_rfl) (by kernel_rfl) ?_
    refine nT ?_
    refine T.ret ?_
    refine rT ?_
    exact tE (.inl rfl) [.t 4 (.one (.d (.val (.int .i64 0))))] ⟨⟨rfl, rfl⟩, trivial⟩ [0, 1] (by have e1 : ((primaryA f s) : Int) = 0 := (by first | rfl | omega | (simp [isKnown, orgA, *]; done) | (simp [isClient, isReplica, isKnown, primaryA, orgA, *]; done) | (simp only [primaryA, orgA]; first | rw [if_pos (by omega)] | rw [if_neg (by omega)])); have hE := congrArg (fun (q1 : Int) => (dv (.int .i64 q1) : AV)) e1; exact hE) rfl rfl rfl rfl rfl ⟨⟨rfl, rfl⟩, ⟨⟨rfl, rfl⟩, trivial⟩⟩
  · refine tR (s1 := ⟨[pv 0 0, dv (.int .i64 s), AV.any, AV.any, dv (.int .i64 0), AV.any, AV.any, AV.any, AV.any, AV.any, AV.any, dv (.bool (decide (s < 0)))], [.live (.box 58 [.d (.val (.int .i64 (3 * f + 1))), .d (.val (.int .i64 u)), .mref 1]), .live (mpK f_authn_pair kBool rows)]⟩) [true, true, false, false, true, false, false, false, false, false, false, true] [true, true]
      (oC (oS rfl rfl (r_move (av := pv 0 0) (lt_of rfl) trivial))
      (oC (oS rfl rfl (r_call (authn_N f u rows (by first | assumption | omega | (simp only [maxLen, kU8_sz, kSl_sz, k_quaestorlaw03_Deed_sz, k_quaestorlaw03_Size_sz, k_authn_pair_sz, k_api_Envelope_sz]; omega) | (simp only [maxLen, kU8_sz, kSl_sz, k_quaestorlaw03_Deed_sz, k_quaestorlaw03_Size_sz, k_authn_pair_sz, k_api_Envelope_sz, List.length_append, List.length_cons, List.length_nil, List.length_take, List.length_drop, List.length_set]; omega) | decide) (by first | assumption | omega | (simp only [maxLen, kU8_sz, kSl_sz, k_quaestorlaw03_Deed_sz, k_quaestorlaw03_Size_sz, k_authn_pair_sz, k_api_Envelope_sz]; omega) | (simp only [maxLen, kU8_sz, kSl_sz, k_quaestorlaw03_Deed_sz, k_quaestorlaw03_Size_sz, k_authn_pair_sz, k_api_Envelope_sz, List.length_append, List.length_cons, List.length_nil, List.length_take, List.length_drop, List.length_set]; omega) | decide)) Try.func26 rfl (by decide) [0, 1] [] (l := [(.tmp 5, pv 0 0)]) [] rfl 2 2 rfl rfl rfl rfl rfl rfl rfl rfl rfl ⟨.inl ⟨rfl, rfl⟩, trivial⟩ rfl (fun b hb => by cases hb) (.inl rfl) (lt_of rfl) trivial))
      (oC (oS rfl rfl (r_bin (u1 := .int .i64 (3 * f + 1)) (u2 := .int .i64 0) (v := .bool (decide ((3 * f + 1) = 0))) b_eql (lt_of rfl) ⟨rfl, trivial⟩))
      (oC (oS rfl rfl (r_move (av := dv (.bool (decide ((3 * f + 1) = 0)))) (lt_of rfl) trivial))
      (oC (oY (b := (decide ((3 * f + 1) = 0))) rfl rfl rfl rfl (lt_of rfl) (decide_eq_false hq1) (r_move (av := dv (.int .i64 s)) (lt_of rfl) trivial))
      (oC (oY (b := (decide ((3 * f + 1) = 0))) rfl rfl rfl rfl (lt_of rfl) (decide_eq_false hq1) (r_bin (u1 := .int .i64 s) (u2 := .int .i64 0) (v := .bool (decide (s < 0))) b_lss (lt_of rfl) ⟨rfl, trivial⟩))
      (oC (oS rfl rfl (r_pickF (b := (decide ((3 * f + 1) = 0))) (av := dv (.bool (decide (s < 0)))) (lt_of rfl) trivial (decide_eq_false hq1))) (oZ rfl))))))))
      (by kernel_rfl) (by kernel_rfl) ?_
    refine nT ?_
    by_cases hq2 : s < 0
    · refine T.condT (b := (decide (s < 0))) rfl (decide_eq_true hq2) ?_
      refine T.seq ?_
      refine tR (s1 := ⟨[pv 0 0, dv (.int .i64 s), AV.any, AV.any, dv (.int .i64 0), AV.any, AV.any, AV.any, AV.any, AV.any, AV.any, dv (.bool (decide (s < 0)))], [.live (.box 58 [.d (.val (.int .i64 (3 * f + 1))), .d (.val (.int .i64 u)), .mref 1]), .live (mpK f_authn_pair kBool rows)]⟩) [true, true, false, false, true, false, false, false, false, false, false, true] [true, true]
        (oC (oS rfl rfl (r_assign (av := dv (.int .i64 0)) (lt_of rfl) ⟨rfl, trivial⟩)) (oZ rfl))
        (by kernel_rfl) (by kernel_rfl) ?_
      refine nT ?_
      refine T.ret ?_
      refine rT ?_
      exact tE (.inl rfl) [.t 4 (.one (.d (.val (.int .i64 0))))] ⟨⟨rfl, rfl⟩, trivial⟩ [0, 1] (by have e1 : ((primaryA f s) : Int) = 0 := (by first | rfl | omega | (simp [isKnown, orgA, *]; done) | (simp [isClient, isReplica, isKnown, primaryA, orgA, *]; done) | (simp only [primaryA, orgA]; first | rw [if_pos (by omega)] | rw [if_neg (by omega)])); have hE := congrArg (fun (q1 : Int) => (dv (.int .i64 q1) : AV)) e1; exact hE) rfl rfl rfl rfl rfl ⟨⟨rfl, rfl⟩, ⟨⟨rfl, rfl⟩, trivial⟩⟩
    · refine T.condF (b := (decide (s < 0))) rfl (decide_eq_false hq2) ?_
      refine T.skip ?_
      refine nT ?_
      refine T.seq ?_
      refine tR (s1 := ⟨[pv 0 0, dv (.int .i64 s), AV.any, AV.any, dv (.int .i64 (s % (3 * f + 1))), AV.any, AV.any, AV.any, AV.any, AV.any, AV.any, dv (.bool (decide (s < 0)))], [.live (.box 58 [.d (.val (.int .i64 (3 * f + 1))), .d (.val (.int .i64 u)), .mref 1]), .live (mpK f_authn_pair kBool rows)]⟩) [true, true, false, false, true, false, false, false, false, false, false, true] [true, true]
        (oC (oS rfl rfl (r_move (av := dv (.int .i64 s)) (lt_of rfl) trivial))
        (oC (oS rfl rfl (r_move (av := pv 0 0) (lt_of rfl) trivial))
        (oC (oS rfl rfl (r_nilCheck (av := pv 0 0) rfl (lt_of rfl) trivial))
        (oC (oS rfl rfl (r_fieldAddr (l := 0) (off := 0) fld_58_0 (lt_of rfl) trivial))
        (oC (oS rfl rfl (r_loadB (l := 0) (off := 0) (T := 58) (cs := [.d (.val (.int .i64 (3 * f + 1))), .d (.val (.int .i64 u)), .mref 1]) (c := .d (.val (.int .i64 (3 * f + 1)))) wide_3 rfl (lt_of rfl) trivial))
        (oC (oS rfl rfl (r_bin (u1 := .int .i64 s) (u2 := .int .i64 (3 * f + 1)) (v := .int .i64 (s % (3 * f + 1))) (b_remP (by first | assumption | omega | (simp only [maxLen, kU8_sz, kSl_sz, k_quaestorlaw03_Deed_sz, k_quaestorlaw03_Size_sz, k_authn_pair_sz, k_api_Envelope_sz]; omega) | (simp only [maxLen, kU8_sz, kSl_sz, k_quaestorlaw03_Deed_sz, k_quaestorlaw03_Size_sz, k_authn_pair_sz, k_api_Envelope_sz, List.length_append, List.length_cons, List.length_nil, List.length_take, List.length_drop, List.length_set]; omega) | decide) (by first | assumption | omega | (simp only [maxLen, kU8_sz, kSl_sz, k_quaestorlaw03_Deed_sz, k_quaestorlaw03_Size_sz, k_authn_pair_sz, k_api_Envelope_sz]; omega) | (simp only [maxLen, kU8_sz, kSl_sz, k_quaestorlaw03_Deed_sz, k_quaestorlaw03_Size_sz, k_authn_pair_sz, k_api_Envelope_sz, List.length_append, List.length_cons, List.length_nil, List.length_take, List.length_drop, List.length_set]; omega) | decide)) (lt_of rfl) trivial))
        (oC (oS rfl rfl (r_assign (av := dv (.int .i64 (s % (3 * f + 1)))) (lt_of rfl) trivial)) (oZ rfl))))))))
        (by kernel_rfl) (by kernel_rfl) ?_
      refine nT ?_
      refine T.ret ?_
      exact tE (.inl rfl) [.t 4 (.one (.d (.val (.int .i64 (s % (3 * f + 1))))))] ⟨⟨rfl, rfl⟩, trivial⟩ [0, 1] (by have e1 : ((primaryA f s) : Int) = s % (3 * f + 1) := (by first | rfl | omega | (simp [isKnown, orgA, *]; done) | (simp [isClient, isReplica, isKnown, primaryA, orgA, *]; done) | (simp only [primaryA, orgA]; first | rw [if_pos (by omega)] | rw [if_neg (by omega)])); have hE := congrArg (fun (q1 : Int) => (dv (.int .i64 q1) : AV)) e1; exact hE) rfl rfl rfl rfl rfl ⟨⟨rfl, rfl⟩, ⟨⟨rfl, rfl⟩, trivial⟩⟩

-- (*quaestor/authn.Authority).client
theorem authn_client (f : Int) (u : Int) (rows : List (authn_pair × Bool)) (s : Int) (hf : 0 ≤ f ∧ f ≤ 2) (hu : 0 ≤ u ∧ u ≤ 8) (hs : -9223372036854775808 ≤ s ∧ s ≤ 9223372036854775807) : Holds Try.prog 50 ⟨[pv 0 0, dv (.int .i64 s)], [.box 58 [.d (.val (.int .i64 (3 * f + 1))), .d (.val (.int .i64 u)), .mref 1], mpK f_authn_pair kBool rows], dv (.bool (decide (isClient u s))), [.live (.box 58 [.d (.val (.int .i64 (3 * f + 1))), .d (.val (.int .i64 u)), .mref 1]), .live (mpK f_authn_pair kBool rows)]⟩ := by
  refine Holds.of Try.func50 rfl (N := 14) Try.ntmps50 rfl fun w0 B0 S0 U0 => ?_
  show T _ (mkBase 14 2 w0 S0 U0 B0) ⟨[pv 0 0, dv (.int .i64 s)], [.live (.box 58 [.d (.val (.int .i64 (3 * f + 1))), .d (.val (.int .i64 u)), .mref 1]), .live (mpK f_authn_pair kBool rows)]⟩ _ _
  refine T.seq ?_
  refine tR (s1 := ⟨[pv 0 0, dv (.int .i64 s), AV.any, AV.any, dv (.bool false)], [.live (.box 58 [.d (.val (.int .i64 (3 * f + 1))), .d (.val (.int .i64 u)), .mref 1]), .live (mpK f_authn_pair kBool rows)]⟩) [true, true, false, false, true] [true, true]
    (oC (oS rfl rfl (r_assign (av := dv (.bool false)) (lt_of rfl) ⟨rfl, trivial⟩)) (oZ rfl))
    (by kernel_rfl) (by kernel_rfl) ?_
  refine nT ?_
  refine T.seq ?_
  by_cases hq1 : s ≥ 1000
  · refine tR (s1 := ⟨[pv 0 0, dv (.int .i64 s), AV.any, AV.any, dv (.bool (decide ((s - 1000) < u)))], [.live (.box 58 [.d (.val (.int .i64 (3 * f + 1))), .d (.val (.int .i64 u)), .mref 1]), .live (mpK f_authn_pair kBool rows)]⟩) [true, true, false, false, true] [true, true]
      (oC (oS rfl rfl (r_move (av := dv (.int .i64 s)) (lt_of rfl) trivial))
      (oC (oS rfl rfl (r_bin (u1 := .int .i64 s) (u2 := .int .i64 1000) (v := .bool (decide (s ≥ 1000))) b_geq (lt_of rfl) ⟨rfl, trivial⟩))
      (oC (oS rfl rfl (r_move (av := dv (.bool (decide (s ≥ 1000)))) (lt_of rfl) trivial))
      (oC (oY (b := (decide (s ≥ 1000))) rfl rfl rfl rfl (lt_of rfl) (decide_eq_true hq1) (r_move (av := dv (.int .i64 s)) (lt_of rfl) trivial))
      (oC (oY (b := (decide (s ≥ 1000))) rfl rfl rfl rfl (lt_of rfl) (decide_eq_true hq1) (r_bin (u1 := .int .i64 s) (u2 := .int .i64 1000) (v := .int .i64 (s - 1000)) (b_sub (by rw [IntKind.wrap_i64]; omega)) (lt_of rfl) ⟨rfl, trivial⟩))
      (oC (oY (b := (decide (s ≥ 1000))) rfl rfl rfl rfl (lt_of rfl) (decide_eq_true hq1) (r_move (av := pv 0 0) (lt_of rfl) trivial))
      (oC (oY (b := (decide (s ≥ 1000))) rfl rfl rfl rfl (lt_of rfl) (decide_eq_true hq1) (r_call (authn_Clients f u rows (by first | assumption | omega | (simp only [maxLen, kU8_sz, kSl_sz, k_quaestorlaw03_Deed_sz, k_quaestorlaw03_Size_sz, k_authn_pair_sz, k_api_Envelope_sz]; omega) | (simp only [maxLen, kU8_sz, kSl_sz, k_quaestorlaw03_Deed_sz, k_quaestorlaw03_Size_sz, k_authn_pair_sz, k_api_Envelope_sz, List.length_append, List.length_cons, List.length_nil, List.length_take, List.length_drop, List.length_set]; omega) | decide) (by first | assumption | omega | (simp only [maxLen, kU8_sz, kSl_sz, k_quaestorlaw03_Deed_sz, k_quaestorlaw03_Size_sz, k_authn_pair_sz, k_api_Envelope_sz]; omega) | (simp only [maxLen, kU8_sz, kSl_sz, k_quaestorlaw03_Deed_sz, k_quaestorlaw03_Size_sz, k_authn_pair_sz, k_api_Envelope_sz, List.length_append, List.length_cons, List.length_nil, List.length_take, List.length_drop, List.length_set]; omega) | decide)) Try.func35 rfl (by decide) [0, 1] [] (l := [(.tmp 10, pv 0 0)]) [] rfl 2 2 rfl rfl rfl rfl rfl rfl rfl rfl rfl ⟨.inl ⟨rfl, rfl⟩, trivial⟩ rfl (fun b hb => by cases hb) (.inl rfl) (lt_of rfl) trivial))
      (oC (oY (b := (decide (s ≥ 1000))) rfl rfl rfl rfl (lt_of rfl) (decide_eq_true hq1) (r_bin (u1 := .int .i64 (s - 1000)) (u2 := .int .i64 u) (v := .bool (decide ((s - 1000) < u))) b_lss (lt_of rfl) trivial))
      (oC (oS rfl rfl (r_pickT (b := (decide (s ≥ 1000))) (av := dv (.bool (decide ((s - 1000) < u)))) (lt_of rfl) trivial (decide_eq_true hq1)))
      (oC (oS rfl rfl (r_assign (av := dv (.bool (decide ((s - 1000) < u)))) (lt_of rfl) trivial)) (oZ rfl)))))))))))
      (by kernel_rfl) (by kernel_rfl) ?_
    refine nT ?_
    refine T.ret ?_
    exact tE (.inl rfl) [.t 4 (.one (.d (.val (.bool (decide ((s - 1000) < u))))))] ⟨⟨rfl, rfl⟩, trivial⟩ [0, 1] (by have e1 : ((decide (isClient u s)) : Bool) = (decide ((s - 1000) < u)) := (by first | rfl | omega | (simp [isKnown, orgA, *]; done) | (simp [isClient, isReplica, isKnown, primaryA, orgA, *]; done) | (simp only [primaryA, orgA]; first | rw [if_pos (by omega)] | rw [if_neg (by omega)])); have hE := congrArg (fun (q1 : Bool) => (dv (.bool q1) : AV)) e1; exact hE) rfl rfl rfl rfl rfl ⟨⟨rfl, rfl⟩, ⟨⟨rfl, rfl⟩, trivial⟩⟩
  · refine tR (s1 := ⟨[pv 0 0, dv (.int .i64 s), AV.any, AV.any, dv (.bool false)], [.live (.box 58 [.d (.val (.int .i64 (3 * f + 1))), .d (.val (.int .i64 u)), .mref 1]), .live (mpK f_authn_pair kBool rows)]⟩) [true, true, false, false, true] [true, true]
      (oC (oS rfl rfl (r_move (av := dv (.int .i64 s)) (lt_of rfl) trivial))
      (oC (oS rfl rfl (r_bin (u1 := .int .i64 s) (u2 := .int .i64 1000) (v := .bool (decide (s ≥ 1000))) b_geq (lt_of rfl) ⟨rfl, trivial⟩))
      (oC (oS rfl rfl (r_move (av := dv (.bool (decide (s ≥ 1000)))) (lt_of rfl) trivial))
      (oC (oN (b := (decide (s ≥ 1000))) rfl rfl rfl rfl (lt_of rfl) (decide_eq_false hq1) rfl (lt_of rfl))
      (oC (oN (b := (decide (s ≥ 1000))) rfl rfl rfl rfl (lt_of rfl) (decide_eq_false hq1) rfl (lt_of rfl))
      (oC (oN (b := (decide (s ≥ 1000))) rfl rfl rfl rfl (lt_of rfl) (decide_eq_false hq1) rfl (lt_of rfl))
      (oC (oN (b := (decide (s ≥ 1000))) rfl rfl rfl rfl (lt_of rfl) (decide_eq_false hq1) rfl (lt_of rfl))
      (oC (oN (b := (decide (s ≥ 1000))) rfl rfl rfl rfl (lt_of rfl) (decide_eq_false hq1) rfl (lt_of rfl))
      (oC (oS rfl rfl (r_pickF (b := (decide (s ≥ 1000))) (av := dv (.bool false)) (lt_of rfl) ⟨rfl, trivial⟩ (decide_eq_false hq1)))
      (oC (oS rfl rfl (r_assign (av := dv (.bool false)) (lt_of rfl) trivial)) (oZ rfl)))))))))))
      (by kernel_rfl) (by kernel_rfl) ?_
    refine nT ?_
    refine T.ret ?_
    exact tE (.inl rfl) [.t 4 (.one (.d (.val (.bool false))))] ⟨⟨rfl, rfl⟩, trivial⟩ [0, 1] (by have e1 : ((decide (isClient u s)) : Bool) = false := (by first | rfl | omega | (simp [isKnown, orgA, *]; done) | (simp [isClient, isReplica, isKnown, primaryA, orgA, *]; done) | (simp only [primaryA, orgA]; first | rw [if_pos (by omega)] | rw [if_neg (by omega)])); have hE := congrArg (fun (q1 : Bool) => (dv (.bool q1) : AV)) e1; exact hE) rfl rfl rfl rfl rfl ⟨⟨rfl, rfl⟩, ⟨⟨rfl, rfl⟩, trivial⟩⟩

-- (*quaestor/authn.Authority).Replica
theorem authn_Replica (f : Int) (u : Int) (rows : List (authn_pair × Bool)) (s : Int) (hf : 0 ≤ f ∧ f ≤ 2) (hu : 0 ≤ u ∧ u ≤ 8) : Holds Try.prog 41 ⟨[pv 0 0, dv (.int .i64 s)], [.box 58 [.d (.val (.int .i64 (3 * f + 1))), .d (.val (.int .i64 u)), .mref 1], mpK f_authn_pair kBool rows], dv (.bool (decide (isReplica f s))), [.live (.box 58 [.d (.val (.int .i64 (3 * f + 1))), .d (.val (.int .i64 u)), .mref 1]), .live (mpK f_authn_pair kBool rows)]⟩ := by
  refine Holds.of Try.func41 rfl (N := 13) Try.ntmps41 rfl fun w0 B0 S0 U0 => ?_
  show T _ (mkBase 13 2 w0 S0 U0 B0) ⟨[pv 0 0, dv (.int .i64 s)], [.live (.box 58 [.d (.val (.int .i64 (3 * f + 1))), .d (.val (.int .i64 u)), .mref 1]), .live (mpK f_authn_pair kBool rows)]⟩ _ _
  refine T.seq ?_
  refine tR (s1 := ⟨[pv 0 0, dv (.int .i64 s), AV.any, AV.any, dv (.bool false)], [.live (.box 58 [.d (.val (.int .i64 (3 * f + 1))), .d (.val (.int .i64 u)), .mref 1]), .live (mpK f_authn_pair kBool rows)]⟩) [true, true, false, false, true] [true, true]
    (oC (oS rfl rfl (r_assign (av := dv (.bool false)) (lt_of rfl) ⟨rfl, trivial⟩)) (oZ rfl))
    (by kernel_rfl) (by kernel_rfl) ?_
  refine nT ?_
  refine T.seq ?_
  by_cases hq1 : s ≥ 0
  · refine tR (s1 := ⟨[pv 0 0, dv (.int .i64 s), AV.any, AV.any, dv (.bool (decide (s < (3 * f + 1))))], [.live (.box 58 [.d (.val (.int .i64 (3 * f + 1))), .d (.val (.int .i64 u)), .mref 1]), .live (mpK f_authn_pair kBool rows)]⟩) [true, true, false, false, true] [true, true]
      (oC (oS rfl rfl (r_move (av := dv (.int .i64 s)) (lt_of rfl) trivial))
      (oC (oS rfl rfl (r_bin (u1 := .int .i64 s) (u2 := .int .i64 0) (v := .bool (decide (s ≥ 0))) b_geq (lt_of rfl) ⟨rfl, trivial⟩))
      (oC (oS rfl rfl (r_move (av := dv (.bool (decide (s ≥ 0)))) (lt_of rfl) trivial))
      (oC (oY (b := (decide (s ≥ 0))) rfl rfl rfl rfl (lt_of rfl) (decide_eq_true hq1) (r_move (av := dv (.int .i64 s)) (lt_of rfl) trivial))
      (oC (oY (b := (decide (s ≥ 0))) rfl rfl rfl rfl (lt_of rfl) (decide_eq_true hq1) (r_move (av := pv 0 0) (lt_of rfl) trivial))
      (oC (oY (b := (decide (s ≥ 0))) rfl rfl rfl rfl (lt_of rfl) (decide_eq_true hq1) (r_call (authn_N f u rows (by first | assumption | omega | (simp only [maxLen, kU8_sz, kSl_sz, k_quaestorlaw03_Deed_sz, k_quaestorlaw03_Size_sz, k_authn_pair_sz, k_api_Envelope_sz]; omega) | (simp only [maxLen, kU8_sz, kSl_sz, k_quaestorlaw03_Deed_sz, k_quaestorlaw03_Size_sz, k_authn_pair_sz, k_api_Envelope_sz, List.length_append, List.length_cons, List.length_nil, List.length_take, List.length_drop, List.length_set]; omega) | decide) (by first | assumption | omega | (simp only [maxLen, kU8_sz, kSl_sz, k_quaestorlaw03_Deed_sz, k_quaestorlaw03_Size_sz, k_authn_pair_sz, k_api_Envelope_sz]; omega) | (simp only [maxLen, kU8_sz, kSl_sz, k_quaestorlaw03_Deed_sz, k_quaestorlaw03_Size_sz, k_authn_pair_sz, k_api_Envelope_sz, List.length_append, List.length_cons, List.length_nil, List.length_take, List.length_drop, List.length_set]; omega) | decide)) Try.func26 rfl (by decide) [0, 1] [] (l := [(.tmp 9, pv 0 0)]) [] rfl 2 2 rfl rfl rfl rfl rfl rfl rfl rfl rfl ⟨.inl ⟨rfl, rfl⟩, trivial⟩ rfl (fun b hb => by cases hb) (.inl rfl) (lt_of rfl) trivial))
      (oC (oY (b := (decide (s ≥ 0))) rfl rfl rfl rfl (lt_of rfl) (decide_eq_true hq1) (r_bin (u1 := .int .i64 s) (u2 := .int .i64 (3 * f + 1)) (v := .bool (decide (s < (3 * f + 1)))) b_lss (lt_of rfl) trivial))
      (oC (oS rfl rfl (r_pickT (b := (decide (s ≥ 0))) (av := dv (.bool (decide (s < (3 * f + 1))))) (lt_of rfl) trivial (decide_eq_true hq1)))
      (oC (oS rfl rfl (r_assign (av := dv (.bool (decide (s < (3 * f + 1))))) (lt_of rfl) trivial)) (oZ rfl))))))))))
      (by kernel_rfl) (by kernel_rfl) ?_
    refine nT ?_
    refine T.ret ?_
    exact tE (.inl rfl) [.t 4 (.one (.d (.val (.bool (decide (s < (3 * f + 1)))))))] ⟨⟨rfl, rfl⟩, trivial⟩ [0, 1] (by have e1 : ((decide (isReplica f s)) : Bool) = (decide (s < (3 * f + 1))) := (by first | rfl | omega | (simp [isKnown, orgA, *]; done) | (simp [isClient, isReplica, isKnown, primaryA, orgA, *]; done) | (simp only [primaryA, orgA]; first | rw [if_pos (by omega)] | rw [if_neg (by omega)])); have hE := congrArg (fun (q1 : Bool) => (dv (.bool q1) : AV)) e1; exact hE) rfl rfl rfl rfl rfl ⟨⟨rfl, rfl⟩, ⟨⟨rfl, rfl⟩, trivial⟩⟩
  · refine tR (s1 := ⟨[pv 0 0, dv (.int .i64 s), AV.any, AV.any, dv (.bool false)], [.live (.box 58 [.d (.val (.int .i64 (3 * f + 1))), .d (.val (.int .i64 u)), .mref 1]), .live (mpK f_authn_pair kBool rows)]⟩) [true, true, false, false, true] [true, true]
      (oC (oS rfl rfl (r_move (av := dv (.int .i64 s)) (lt_of rfl) trivial))
      (oC (oS rfl rfl (r_bin (u1 := .int .i64 s) (u2 := .int .i64 0) (v := .bool (decide (s ≥ 0))) b_geq (lt_of rfl) ⟨rfl, trivial⟩))
      (oC (oS rfl rfl (r_move (av := dv (.bool (decide (s ≥ 0)))) (lt_of rfl) trivial))
      (oC (oN (b := (decide (s ≥ 0))) rfl rfl rfl rfl (lt_of rfl) (decide_eq_false hq1) rfl (lt_of rfl))
      (oC (oN (b := (decide (s ≥ 0))) rfl rfl rfl rfl (lt_of rfl) (decide_eq_false hq1) rfl (lt_of rfl))
      (oC (oN (b := (decide (s ≥ 0))) rfl rfl rfl rfl (lt_of rfl) (decide_eq_false hq1) rfl (lt_of rfl))
      (oC (oN (b := (decide (s ≥ 0))) rfl rfl rfl rfl (lt_of rfl) (decide_eq_false hq1) rfl (lt_of rfl))
      (oC (oS rfl rfl (r_pickF (b := (decide (s ≥ 0))) (av := dv (.bool false)) (lt_of rfl) ⟨rfl, trivial⟩ (decide_eq_false hq1)))
      (oC (oS rfl rfl (r_assign (av := dv (.bool false)) (lt_of rfl) trivial)) (oZ rfl))))))))))
      (by kernel_rfl) (by kernel_rfl) ?_
    refine nT ?_
    refine T.ret ?_
    exact tE (.inl rfl) [.t 4 (.one (.d (.val (.bool false))))] ⟨⟨rfl, rfl⟩, trivial⟩ [0, 1] (by have e1 : ((decide (isReplica f s)) : Bool) = false := (by first | rfl | omega | (simp [isKnown, orgA, *]; done) | (simp [isClient, isReplica, isKnown, primaryA, orgA, *]; done) | (simp only [primaryA, orgA]; first | rw [if_pos (by omega)] | rw [if_neg (by omega)])); have hE := congrArg (fun (q1 : Bool) => (dv (.bool q1) : AV)) e1; exact hE) rfl rfl rfl rfl rfl ⟨⟨rfl, rfl⟩, ⟨⟨rfl, rfl⟩, trivial⟩⟩

-- (*quaestor/authn.Authority).Known
theorem authn_Known (f : Int) (u : Int) (rows : List (authn_pair × Bool)) (s : Int) (hf : 0 ≤ f ∧ f ≤ 2) (hu : 0 ≤ u ∧ u ≤ 8) (hs : -9223372036854775808 ≤ s ∧ s ≤ 9223372036854775807) : Holds Try.prog 31 ⟨[pv 0 0, dv (.int .i64 s)], [.box 58 [.d (.val (.int .i64 (3 * f + 1))), .d (.val (.int .i64 u)), .mref 1], mpK f_authn_pair kBool rows], dv (.bool (decide (isKnown f u s))), [.live (.box 58 [.d (.val (.int .i64 (3 * f + 1))), .d (.val (.int .i64 u)), .mref 1]), .live (mpK f_authn_pair kBool rows)]⟩ := by
  refine Holds.of Try.func31 rfl (N := 13) Try.ntmps31 rfl fun w0 B0 S0 U0 => ?_
  show T _ (mkBase 13 2 w0 S0 U0 B0) ⟨[pv 0 0, dv (.int .i64 s)], [.live (.box 58 [.d (.val (.int .i64 (3 * f + 1))), .d (.val (.int .i64 u)), .mref 1]), .live (mpK f_authn_pair kBool rows)]⟩ _ _
  refine T.seq ?_
  refine tR (s1 := ⟨[pv 0 0, dv (.int .i64 s), AV.any, AV.any, dv (.bool false)], [.live (.box 58 [.d (.val (.int .i64 (3 * f + 1))), .d (.val (.int .i64 u)), .mref 1]), .live (mpK f_authn_pair kBool rows)]⟩) [true, true, false, false, true] [true, true]
    (oC (oS rfl rfl (r_assign (av := dv (.bool false)) (lt_of rfl) ⟨rfl, trivial⟩)) (oZ rfl))
    (by kernel_rfl) (by kernel_rfl) ?_
  refine nT ?_
  refine T.seq ?_
  by_cases hq1 : isReplica f s
  · refine tR (s1 := ⟨[pv 0 0, dv (.int .i64 s), AV.any, AV.any, dv (.bool true)], [.live (.box 58 [.d (.val (.int .i64 (3 * f + 1))), .d (.val (.int .i64 u)), .mref 1]), .live (mpK f_authn_pair kBool rows)]⟩) [true, true, false, false, true] [true, true]
      (oC (oS rfl rfl (r_move (av := pv 0 0) (lt_of rfl) trivial))
      (oC (oS rfl rfl (r_move (av := dv (.int .i64 s)) (lt_of rfl) trivial))
      (oC (oS rfl rfl (r_call (authn_Replica f u rows s (by first | assumption | omega | (simp only [maxLen, kU8_sz, kSl_sz, k_quaestorlaw03_Deed_sz, k_quaestorlaw03_Size_sz, k_authn_pair_sz, k_api_Envelope_sz]; omega) | (simp only [maxLen, kU8_sz, kSl_sz, k_quaestorlaw03_Deed_sz, k_quaestorlaw03_Size_sz, k_authn_pair_sz, k_api_Envelope_sz, List.length_append, List.length_cons, List.length_nil, List.length_take, List.length_drop, List.length_set]; omega) | decide) (by first | assumption | omega | (simp only [maxLen, kU8_sz, kSl_sz, k_quaestorlaw03_Deed_sz, k_quaestorlaw03_Size_sz, k_authn_pair_sz, k_api_Envelope_sz]; omega) | (simp only [maxLen, kU8_sz, kSl_sz, k_quaestorlaw03_Deed_sz, k_quaestorlaw03_Size_sz, k_authn_pair_sz, k_api_Envelope_sz, List.length_append, List.length_cons, List.length_nil, List.length_take, List.length_drop, List.length_set]; omega) | decide)) Try.func41 rfl (by decide) [0, 1] [] (l := [(.tmp 5, pv 0 0), (.tmp 6, dv (.int .i64 s))]) [] rfl 2 2 rfl rfl rfl rfl rfl rfl rfl rfl rfl ⟨.inl ⟨rfl, rfl⟩, ⟨.inl ⟨rfl, rfl⟩, trivial⟩⟩ rfl (fun b hb => by cases hb) (.inl rfl) (lt_of rfl) trivial))
      (oC (oS rfl rfl (r_move (av := dv (.bool (decide (isReplica f s)))) (lt_of rfl) trivial))
      (oC (oN (b := (decide (isReplica f s))) rfl rfl rfl rfl (lt_of rfl) (decide_eq_true hq1) rfl (lt_of rfl))
      (oC (oN (b := (decide (isReplica f s))) rfl rfl rfl rfl (lt_of rfl) (decide_eq_true hq1) rfl (lt_of rfl))
      (oC (oN (b := (decide (isReplica f s))) rfl rfl rfl rfl (lt_of rfl) (decide_eq_true hq1) rfl (lt_of rfl))
      (oC (oS rfl rfl (r_pickT (b := (decide (isReplica f s))) (av := dv (.bool true)) (lt_of rfl) ⟨rfl, trivial⟩ (decide_eq_true hq1)))
      (oC (oS rfl rfl (r_assign (av := dv (.bool true)) (lt_of rfl) trivial)) (oZ rfl))))))))))
      (by kernel_rfl) (by kernel_rfl) ?_
    refine nT ?_
    refine T.ret ?_
    exact tE (.inl rfl) [.t 4 (.one (.d (.val (.bool true))))] ⟨⟨rfl, rfl⟩, trivial⟩ [0, 1] (by have e1 : ((decide (isKnown f u s)) : Bool) = true := (by first | rfl | omega | (simp [isKnown, orgA, *]; done) | (simp [isClient, isReplica, isKnown, primaryA, orgA, *]; done) | (simp only [primaryA, orgA]; first | rw [if_pos (by omega)] | rw [if_neg (by omega)])); have hE := congrArg (fun (q1 : Bool) => (dv (.bool q1) : AV)) e1; exact hE) rfl rfl rfl rfl rfl ⟨⟨rfl, rfl⟩, ⟨⟨rfl, rfl⟩, trivial⟩⟩
  · refine tR (s1 := ⟨[pv 0 0, dv (.int .i64 s), AV.any, AV.any, dv (.bool (decide (isClient u s)))], [.live (.box 58 [.d (.val (.int .i64 (3 * f + 1))), .d (.val (.int .i64 u)), .mref 1]), .live (mpK f_authn_pair kBool rows)]⟩) [true, true, false, false, true] [true, true]
      (oC (oS rfl rfl (r_move (av := pv 0 0) (lt_of rfl) trivial))
      (oC (oS rfl rfl (r_move (av := dv (.int .i64 s)) (lt_of rfl) trivial))
      (oC (oS rfl rfl (r_call (authn_Replica f u rows s (by first | assumption | omega | (simp only [maxLen, kU8_sz, kSl_sz, k_quaestorlaw03_Deed_sz, k_quaestorlaw03_Size_sz, k_authn_pair_sz, k_api_Envelope_sz]; omega) | (simp only [maxLen, kU8_sz, kSl_sz, k_quaestorlaw03_Deed_sz, k_quaestorlaw03_Size_sz, k_authn_pair_sz, k_api_Envelope_sz, List.length_append, List.length_cons, List.length_nil, List.length_take, List.length_drop, List.length_set]; omega) | decide) (by first | assumption | omega | (simp only [maxLen, kU8_sz, kSl_sz, k_quaestorlaw03_Deed_sz, k_quaestorlaw03_Size_sz, k_authn_pair_sz, k_api_Envelope_sz]; omega) | (simp only [maxLen, kU8_sz, kSl_sz, k_quaestorlaw03_Deed_sz, k_quaestorlaw03_Size_sz, k_authn_pair_sz, k_api_Envelope_sz, List.length_append, List.length_cons, List.length_nil, List.length_take, List.length_drop, List.length_set]; omega) | decide)) Try.func41 rfl (by decide) [0, 1] [] (l := [(.tmp 5, pv 0 0), (.tmp 6, dv (.int .i64 s))]) [] rfl 2 2 rfl rfl rfl rfl rfl rfl rfl rfl rfl ⟨.inl ⟨rfl, rfl⟩, ⟨.inl ⟨rfl, rfl⟩, trivial⟩⟩ rfl (fun b hb => by cases hb) (.inl rfl) (lt_of rfl) trivial))
      (oC (oS rfl rfl (r_move (av := dv (.bool (decide (isReplica f s)))) (lt_of rfl) trivial))
      (oC (oY (b := (decide (isReplica f s))) rfl rfl rfl rfl (lt_of rfl) (decide_eq_false hq1) (r_move (av := pv 0 0) (lt_of rfl) trivial))
      (oC (oY (b := (decide (isReplica f s))) rfl rfl rfl rfl (lt_of rfl) (decide_eq_false hq1) (r_move (av := dv (.int .i64 s)) (lt_of rfl) trivial))
      (oC (oY (b := (decide (isReplica f s))) rfl rfl rfl rfl (lt_of rfl) (decide_eq_false hq1) (r_call (authn_client f u rows s (by first | assumption | omega | (simp only [maxLen, kU8_sz, kSl_sz, k_quaestorlaw03_Deed_sz, k_quaestorlaw03_Size_sz, k_authn_pair_sz, k_api_Envelope_sz]; omega) | (simp only [maxLen, kU8_sz, kSl_sz, k_quaestorlaw03_Deed_sz, k_quaestorlaw03_Size_sz, k_authn_pair_sz, k_api_Envelope_sz, List.length_append, List.length_cons, List.length_nil, List.length_take, List.length_drop, List.length_set]; omega) | decide) (by first | assumption | omega | (simp only [maxLen, kU8_sz, kSl_sz, k_quaestorlaw03_Deed_sz, k_quaestorlaw03_Size_sz, k_authn_pair_sz, k_api_Envelope_sz]; omega) | (simp only [maxLen, kU8_sz, kSl_sz, k_quaestorlaw03_Deed_sz, k_quaestorlaw03_Size_sz, k_authn_pair_sz, k_api_Envelope_sz, List.length_append, List.length_cons, List.length_nil, List.length_take, List.length_drop, List.length_set]; omega) | decide) (by first | assumption | omega | (simp only [maxLen, kU8_sz, kSl_sz, k_quaestorlaw03_Deed_sz, k_quaestorlaw03_Size_sz, k_authn_pair_sz, k_api_Envelope_sz]; omega) | (simp only [maxLen, kU8_sz, kSl_sz, k_quaestorlaw03_Deed_sz, k_quaestorlaw03_Size_sz, k_authn_pair_sz, k_api_Envelope_sz, List.length_append, List.length_cons, List.length_nil, List.length_take, List.length_drop, List.length_set]; omega) | decide)) Try.func50 rfl (by decide) [0, 1] [] (l := [(.tmp 9, pv 0 0), (.tmp 10, dv (.int .i64 s))]) [] rfl 2 2 rfl rfl rfl rfl rfl rfl rfl rfl rfl ⟨.inl ⟨rfl, rfl⟩, ⟨.inl ⟨rfl, rfl⟩, trivial⟩⟩ rfl (fun b hb => by cases hb) (.inl rfl) (lt_of rfl) trivial))
      (oC (oS rfl rfl (r_pickF (b := (decide (isReplica f s))) (av := dv (.bool (decide (isClient u s)))) (lt_of rfl) trivial (decide_eq_false hq1)))
      (oC (oS rfl rfl (r_assign (av := dv (.bool (decide (isClient u s)))) (lt_of rfl) trivial)) (oZ rfl))))))))))
      (by kernel_rfl) (by kernel_rfl) ?_
    refine nT ?_
    refine T.ret ?_
    exact tE (.inl rfl) [.t 4 (.one (.d (.val (.bool (decide (isClient u s))))))] ⟨⟨rfl, rfl⟩, trivial⟩ [0, 1] (by have e1 : ((decide (isKnown f u s)) : Bool) = (decide (isClient u s)) := (by first | rfl | omega | (simp [isKnown, orgA, *]; done) | (simp [isClient, isReplica, isKnown, primaryA, orgA, *]; done) | (simp only [primaryA, orgA]; first | rw [if_pos (by omega)] | rw [if_neg (by omega)])); have hE := congrArg (fun (q1 : Bool) => (dv (.bool q1) : AV)) e1; exact hE) rfl rfl rfl rfl rfl ⟨⟨rfl, rfl⟩, ⟨⟨rfl, rfl⟩, trivial⟩⟩
end Go.Proofs.Ytladnlechpadlaa.Q
