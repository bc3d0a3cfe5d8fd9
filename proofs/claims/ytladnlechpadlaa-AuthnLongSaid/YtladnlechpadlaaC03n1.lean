import Derived.Test.YtladnlechpadlaaC03n0
namespace Go.Proofs.Ytladnlechpadlaa.Q
open Go Go.RowKit
set_option linter.unusedVariables false
set_option linter.unusedSimpArgs false
set_option maxRecDepth 100000
set_option maxHeartbeats 4000000
-- (*quaestor/authn.Authority).F
theorem authn_F (f : Int) (u : Int) (rows : List (authn_pair × Bool)) (hf : 0 ≤ f ∧ f ≤ 2) (hu : 0 ≤ u ∧ u ≤ 8) : Holds Try.prog 24 ⟨[pv 0 0], [.box 58 [.d (.val (.int .i64 (3 * f + 1))), .d (.val (.int .i64 u)), .mref 1], mpK f_authn_pair kBool rows], dv (.int .i64 f), [.live (.box 58 [.d (.val (.int .i64 (3 * f + 1))), .d (.val (.int .i64 u)), .mref 1]), .live (mpK f_authn_pair kBool rows)]⟩ := by
  refine Holds.of Try.func24 rfl (N := 6) Try.ntmps24 rfl fun w0 B0 S0 U0 => ?_
  show T _ (mkBase 6 2 w0 S0 U0 B0) ⟨[pv 0 0], [.live (.box 58 [.d (.val (.int .i64 (3 * f + 1))), .d (.val (.int .i64 u)), .mref 1]), .live (mpK f_authn_pair kBool rows)]⟩ _ _
  refine T.seq ?_
  refine tR (s1 := ⟨[pv 0 0, AV.any, dv (.int .i64 0)], [.live (.box 58 [.d (.val (.int .i64 (3 * f + 1))), .d (.val (.int .i64 u)), .mref 1]), .live (mpK f_authn_pair kBool rows)]⟩) [true, false, true] [true, true]
    (oC (oS rfl rfl (r_assign (av := dv (.int .i64 0)) (lt_of rfl) ⟨rfl, trivial⟩)) (oZ rfl))
    (by kernel_rfl) (by kernel_rfl) ?_
  refine nT ?_
  refine T.seq ?_
  refine tR (s1 := ⟨[pv 0 0, AV.any, dv (.int .i64 ((3 * f + 1) / 3))], [.live (.box 58 [.d (.val (.int .i64 (3 * f + 1))), .d (.val (.int .i64 u)), .mref 1]), .live (mpK f_authn_pair kBool rows)]⟩) [true, false, true] [true, true]
    (oC (oS rfl rfl (r_move (av := pv 0 0) (lt_of rfl) trivial))
    (oC (oS rfl rfl (r_call (authn_N f u rows (by first | assumption | omega | (simp only [maxLen, kU8_sz, kSl_sz, k_quaestorlaw03_Deed_sz, k_quaestorlaw03_Size_sz, k_authn_pair_sz, k_api_Envelope_sz]; omega) | (simp only [maxLen, kU8_sz, kSl_sz, k_quaestorlaw03_Deed_sz, k_quaestorlaw03_Size_sz, k_authn_pair_sz, k_api_Envelope_sz, List.length_append, List.length_cons, List.length_nil, List.length_take, List.length_drop, List.length_set]; omega) | decide) (by first | assumption | omega | (simp only [maxLen, kU8_sz, kSl_sz, k_quaestorlaw03_Deed_sz, k_quaestorlaw03_Size_sz, k_authn_pair_sz, k_api_Envelope_sz]; omega) | (simp only [maxLen, kU8_sz, kSl_sz, k_quaestorlaw03_Deed_sz, k_quaestorlaw03_Size_sz, k_authn_pair_sz, k_api_Envelope_sz, List.length_append, List.length_cons, List.length_nil, List.length_take, List.length_drop, List.length_set]; omega) | decide)) Try.func26 rfl (by decide) [0, 1] [] (l := [(.tmp 3, pv 0 0)]) [] rfl 2 2 rfl rfl rfl rfl rfl rfl rfl rfl rfl ⟨.inl ⟨rfl, rfl⟩, trivial⟩ rfl (fun b hb => by cases hb) (.inl rfl) (lt_of rfl) trivial))
    (oC (oS rfl rfl (r_bin (u1 := .int .i64 (3 * f + 1)) (u2 := .int .i64 3) (v := .int .i64 ((3 * f + 1) / 3)) (b_quoP (by first | assumption | omega | (simp only [maxLen, kU8_sz, kSl_sz, k_quaestorlaw03_Deed_sz, k_quaestorlaw03_Size_sz, k_authn_pair_sz, k_api_Envelope_sz]; omega) | (simp only [maxLen, kU8_sz, kSl_sz, k_quaestorlaw03_Deed_sz, k_quaestorlaw03_Size_sz, k_authn_pair_sz, k_api_Envelope_sz, List.length_append, List.length_cons, List.length_nil, List.length_take, List.length_drop, List.length_set]; omega) | decide) (by first | assumption | omega | (simp only [maxLen, kU8_sz, kSl_sz, k_quaestorlaw03_Deed_sz, k_quaestorlaw03_Size_sz, k_authn_pair_sz, k_api_Envelope_sz]; omega) | (simp only [maxLen, kU8_sz, kSl_sz, k_quaestorlaw03_Deed_sz, k_quaestorlaw03_Size_sz, k_authn_pair_sz, k_api_Envelope_sz, List.length_append, List.length_cons, List.length_nil, List.length_take, List.length_drop, List.length_set]; omega) | decide) (by rw [IntKind.wrap_i64]; omega)) (lt_of rfl) ⟨rfl, trivial⟩))
    (oC (oS rfl rfl (r_assign (av := dv (.int .i64 ((3 * f + 1) / 3))) (lt_of rfl) trivial)) (oZ rfl)))))
    (by kernel_rfl) (by kernel_rfl) ?_
  refine nT ?_
  refine T.ret ?_
  exact tE (.inl rfl) [.t 2 (.one (.d (.val (.int .i64 ((3 * f + 1) / 3)))))] ⟨⟨rfl, rfl⟩, trivial⟩ [0, 1] (by have e1 : (f : Int) = (3 * f + 1) / 3 := (by first | rfl | omega | (simp [isKnown, orgA, *]; done) | (simp [isClient, isReplica, isKnown, primaryA, orgA, *]; done) | (simp only [primaryA, orgA]; first | rw [if_pos (by omega)] | rw [if_neg (by omega)])); have hE := congrArg (fun (q1 : Int) => (dv (.int .i64 q1) : AV)) e1; exact hE) rfl rfl rfl rfl rfl ⟨⟨rfl, rfl⟩, ⟨⟨rfl, rfl⟩, trivial⟩⟩

theorem fld_58_1 : FieldAt Try.prog 58 1 1 := ⟨_, _, _, Try.underlying58, rfl, iat_3, by decide, rfl⟩
-- (*quaestor/authn.Authority).Clients
theorem authn_Clients (f : Int) (u : Int) (rows : List (authn_pair × Bool)) (hf : 0 ≤ f ∧ f ≤ 2) (hu : 0 ≤ u ∧ u ≤ 8) : Holds Try.prog 35 ⟨[pv 0 0], [.box 58 [.d (.val (.int .i64 (3 * f + 1))), .d (.val (.int .i64 u)), .mref 1], mpK f_authn_pair kBool rows], dv (.int .i64 u), [.live (.box 58 [.d (.val (.int .i64 (3 * f + 1))), .d (.val (.int .i64 u)), .mref 1]), .live (mpK f_authn_pair kBool rows)]⟩ := by
  refine Holds.of Try.func35 rfl (N := 9) Try.ntmps35 rfl fun w0 B0 S0 U0 => ?_
  show T _ (mkBase 9 2 w0 S0 U0 B0) ⟨[pv 0 0], [.live (.box 58 [.d (.val (.int .i64 (3 * f + 1))), .d (.val (.int .i64 u)), .mref 1]), .live (mpK f_authn_pair kBool rows)]⟩ _ _
  refine T.seq ?_
  refine tR (s1 := ⟨[pv 0 0, AV.any, dv (.int .i64 0)], [.live (.box 58 [.d (.val (.int .i64 (3 * f + 1))), .d (.val (.int .i64 u)), .mref 1]), .live (mpK f_authn_pair kBool rows)]⟩) [true, false, true] [true, true]
    (oC (oS rfl rfl (r_assign (av := dv (.int .i64 0)) (lt_of rfl) ⟨rfl, trivial⟩)) (oZ rfl))
    (by kernel_rfl) (by kernel_rfl) ?_
  refine nT ?_
  refine T.seq ?_
  refine T.seq ?_
  refine tR (s1 := ⟨[pv 0 0, AV.any, dv (.int .i64 0), AV.any, dv (.bool false)], [.live (.box 58 [.d (.val (.int .i64 (3 * f + 1))), .d (.val (.int .i64 u)), .mref 1]), .live (mpK f_authn_pair kBool rows)]⟩) [true, false, true, false, true] [true, true]
    (oC (oS rfl rfl (r_move (av := pv 0 0) (lt_of rfl) trivial))
    (oC (oS rfl rfl (r_eqNilP (av := pv 0 0) Try.underlying29 rfl (lt_of rfl) ⟨rfl, trivial⟩)) (oZ rfl)))
    (by kernel_rfl) (by kernel_rfl) ?_
  refine nT ?_
  refine T.condF (b := false) rfl rfl ?_
  refine T.skip ?_
  refine nT ?_
  refine T.seq ?_
  refine tR (s1 := ⟨[pv 0 0, AV.any, dv (.int .i64 u), AV.any, dv (.bool false)], [.live (.box 58 [.d (.val (.int .i64 (3 * f + 1))), .d (.val (.int .i64 u)), .mref 1]), .live (mpK f_authn_pair kBool rows)]⟩) [true, false, true, false, true] [true, true]
    (oC (oS rfl rfl (r_move (av := pv 0 0) (lt_of rfl) trivial))
    (oC (oS rfl rfl (r_nilCheck (av := pv 0 0) rfl (lt_of rfl) trivial))
    (oC (oS rfl rfl (r_fieldAddr (l := 0) (off := 0) fld_58_1 (lt_of rfl) trivial))
    (oC (oS rfl rfl (r_loadB (l := 0) (off := 1) (T := 58) (cs := [.d (.val (.int .i64 (3 * f + 1))), .d (.val (.int .i64 u)), .mref 1]) (c := .d (.val (.int .i64 u))) wide_3 rfl (lt_of rfl) trivial))
    (oC (oS rfl rfl (r_assign (av := dv (.int .i64 u)) (lt_of rfl) trivial)) (oZ rfl))))))
    (by kernel_rfl) (by kernel_rfl) ?_
  refine nT ?_
  refine T.ret ?_
  exact tE (.inl rfl) [.t 2 (.one (.d (.val (.int .i64 u))))] ⟨⟨rfl, rfl⟩, trivial⟩ [0, 1] rfl rfl rfl rfl rfl rfl ⟨⟨rfl, rfl⟩, ⟨⟨rfl, rfl⟩, trivial⟩⟩

-- (*quaestor/authn.Authority).Quorum
theorem authn_Quorum (f : Int) (u : Int) (rows : List (authn_pair × Bool)) (hf : 0 ≤ f ∧ f ≤ 2) (hu : 0 ≤ u ∧ u ≤ 8) : Holds Try.prog 23 ⟨[pv 0 0], [.box 58 [.d (.val (.int .i64 (3 * f + 1))), .d (.val (.int .i64 u)), .mref 1], mpK f_authn_pair kBool rows], dv (.int .i64 (2 * f + 1)), [.live (.box 58 [.d (.val (.int .i64 (3 * f + 1))), .d (.val (.int .i64 u)), .mref 1]), .live (mpK f_authn_pair kBool rows)]⟩ := by
  refine Holds.of Try.func23 rfl (N := 8) Try.ntmps23 rfl fun w0 B0 S0 U0 => ?_
  show T _ (mkBase 8 2 w0 S0 U0 B0) ⟨[pv 0 0], [.live (.box 58 [.d (.val (.int .i64 (3 * f + 1))), .d (.val (.int .i64 u)), .mref 1]), .live (mpK f_authn_pair kBool rows)]⟩ _ _
  refine T.seq ?_
  refine tR (s1 := ⟨[pv 0 0, AV.any, dv (.int .i64 0)], [.live (.box 58 [.d (.val (.int .i64 (3 * f + 1))), .d (.val (.int .i64 u)), .mref 1]), .live (mpK f_authn_pair kBool rows)]⟩) [true, false, true] [true, true]
    (oC (oS rfl rfl (r_assign (av := dv (.int .i64 0)) (lt_of rfl) ⟨rfl, trivial⟩)) (oZ rfl))
    (by kernel_rfl) (by kernel_rfl) ?_
  refine nT ?_
  refine T.seq ?_
  refine tR (s1 := ⟨[pv 0 0, AV.any, dv (.int .i64 ((3 * f + 1) - f))], [.live (.box 58 [.d (.val (.int .i64 (3 * f + 1))), .d (.val (.int .i64 u)), .mref 1]), .live (mpK f_authn_pair kBool rows)]⟩) [true, false, true] [true, true]
    (oC (oS rfl rfl (r_move (av := pv 0 0) (lt_of rfl) trivial))
    (oC (oS rfl rfl (r_call (authn_N f u rows (by first | assumption | omega | (simp only [maxLen, kU8_sz, kSl_sz, k_quaestorlaw03_Deed_sz, k_quaestorlaw03_Size_sz, k_authn_pair_sz, k_api_Envelope_sz]; omega) | (simp only [maxLen, kU8_sz, kSl_sz, k_quaestorlaw03_Deed_sz, k_quaestorlaw03_Size_sz, k_authn_pair_sz, k_api_Envelope_sz, List.length_append, List.length_cons, List.length_nil, List.length_take, List.length_drop, List.length_set]; omega) | decide) (by first | assumption | omega | (simp only [maxLen, kU8_sz, kSl_sz, k_quaestorlaw03_Deed_sz, k_quaestorlaw03_Size_sz, k_authn_pair_sz, k_api_Envelope_sz]; omega) | (simp only [maxLen, kU8_sz, kSl_sz, k_quaestorlaw03_Deed_sz, k_quaestorlaw03_Size_sz, k_authn_pair_sz, k_api_Envelope_sz, List.length_append, List.length_cons, List.length_nil, List.length_take, List.length_drop, List.length_set]; omega) | decide)) Try.func26 rfl (by decide) [0, 1] [] (l := [(.tmp 3, pv 0 0)]) [] rfl 2 2 rfl rfl rfl rfl rfl rfl rfl rfl rfl ⟨.inl ⟨rfl, rfl⟩, trivial⟩ rfl (fun b hb => by cases hb) (.inl rfl) (lt_of rfl) trivial))
    (oC (oS rfl rfl (r_move (av := pv 0 0) (lt_of rfl) trivial))
    (oC (oS rfl rfl (r_call (authn_F f u rows (by first | assumption | omega | (simp only [maxLen, kU8_sz, kSl_sz, k_quaestorlaw03_Deed_sz, k_quaestorlaw03_Size_sz, k_authn_pair_sz, k_api_Envelope_sz]; omega) | (simp only [maxLen, kU8_sz, kSl_sz, k_quaestorlaw03_Deed_sz, k_quaestorlaw03_Size_sz, k_authn_pair_sz, k_api_Envelope_sz, List.length_append, List.length_cons, List.length_nil, List.length_take, List.length_drop, List.length_set]; omega) | decide) (by first | assumption | omega | (simp only [maxLen, kU8_sz, kSl_sz, k_quaestorlaw03_Deed_sz, k_quaestorlaw03_Size_sz, k_authn_pair_sz, k_api_Envelope_sz]; omega) | (simp only [maxLen, kU8_sz, kSl_sz, k_quaestorlaw03_Deed_sz, k_quaestorlaw03_Size_sz, k_authn_pair_sz, k_api_Envelope_sz, List.length_append, List.length_cons, List.length_nil, List.length_take, List.length_drop, List.length_set]; omega) | decide)) Try.func24 rfl (by decide) [0, 1] [] (l := [(.tmp 5, pv 0 0)]) [] rfl 2 2 rfl rfl rfl rfl rfl rfl rfl rfl rfl ⟨.inl ⟨rfl, rfl⟩, trivial⟩ rfl (fun b hb => by cases hb) (.inl rfl) (lt_of rfl) trivial))
    (oC (oS rfl rfl (r_bin (u1 := .int .i64 (3 * f + 1)) (u2 := .int .i64 f) (v := .int .i64 ((3 * f + 1) - f)) (b_sub (by rw [IntKind.wrap_i64]; omega)) (lt_of rfl) trivial))
    (oC (oS rfl rfl (r_assign (av := dv (.int .i64 ((3 * f + 1) - f))) (lt_of rfl) trivial)) (oZ rfl)))))))
    (by kernel_rfl) (by kernel_rfl) ?_
  refine nT ?_
  refine T.ret ?_
  exact tE (.inl rfl) [.t 2 (.one (.d (.val (.int .i64 ((3 * f + 1) - f)))))] ⟨⟨rfl, rfl⟩, trivial⟩ [0, 1] (by have e1 : (2 * f + 1 : Int) = (3 * f + 1) - f := (by first | rfl | omega | (simp [isKnown, orgA, *]; done) | (simp [isClient, isReplica, isKnown, primaryA, orgA, *]; done) | (simp only [primaryA, orgA]; first | rw [if_pos (by omega)] | rw [if_neg (by omega)])); have hE := congrArg (fun (q1 : Int) => (dv (.int .i64 q1) : AV)) e1; exact hE) rfl rfl rfl rfl rfl ⟨⟨rfl, rfl⟩, ⟨⟨rfl, rfl⟩, trivial⟩⟩

-- (*quaestor/authn.Authority).Weak
theorem authn_Weak (f : Int) (u : Int) (rows : List (authn_pair × Bool)) (hf : 0 ≤ f ∧ f ≤ 2) (hu : 0 ≤ u ∧ u ≤ 8) : Holds Try.prog 25 ⟨[pv 0 0], [.box 58 [.d (.val (.int .i64 (3 * f + 1))), .d (.val (.int .i64 u)), .mref 1], mpK f_authn_pair kBool rows], dv (.int .i64 (f + 1)), [.live (.box 58 [.d (.val (.int .i64 (3 * f + 1))), .d (.val (.int .i64 u)), .mref 1]), .live (mpK f_authn_pair kBool rows)]⟩ := by
  refine Holds.of Try.func25 rfl (N := 7) Try.ntmps25 rfl fun w0 B0 S0 U0 => ?_
  show T _ (mkBase 7 2 w0 S0 U0 B0) ⟨[pv 0 0], [.live (.box 58 [.d (.val (.int .i64 (3 * f + 1))), .d (.val (.int .i64 u)), .mref 1]), .live (mpK f_authn_pair kBool rows)]⟩ _ _
  refine T.seq ?_
  refine tR (s1 := ⟨[pv 0 0, AV.any, dv (.int .i64 0)], [.live (.box 58 [.d (.val (.int .i64 (3 * f + 1))), .d (.val (.int .i64 u)), .mref 1]), .live (mpK f_authn_pair kBool rows)]⟩) [true, false, true] [true, true]
    (oC (oS rfl rfl (r_assign (av := dv (.int .i64 0)) (lt_of rfl) ⟨rfl, trivial⟩)) (oZ rfl))
    (by kernel_rfl) (by kernel_rfl) ?_
  refine nT ?_
  refine T.seq ?_
  refine tR (s1 := ⟨[pv 0 0, AV.any, dv (.int .i64 (((3 * f + 1) + 2) / 3))], [.live (.box 58 [.d (.val (.int .i64 (3 * f + 1))), .d (.val (.int .i64 u)), .mref 1]), .live (mpK f_authn_pair kBool rows)]⟩) [true, false, true] [true, true]
    (oC (oS rfl rfl (r_move (av := pv 0 0) (lt_of rfl) trivial))
    (oC (oS rfl rfl (r_call (authn_N f u rows (by first | assumption | omega | (simp only [maxLen, kU8_sz, kSl_sz, k_quaestorlaw03_Deed_sz, k_quaestorlaw03_Size_sz, k_authn_pair_sz, k_api_Envelope_sz]; omega) | (simp only [maxLen, kU8_sz, kSl_sz, k_quaestorlaw03_Deed_sz, k_quaestorlaw03_Size_sz, k_authn_pair_sz, k_api_Envelope_sz, List.length_append, List.length_cons, List.length_nil, List.length_take, List.length_drop, List.length_set]; omega) | decide) (by first | assumption | omega | (simp only [maxLen, kU8_sz, kSl_sz, k_quaestorlaw03_Deed_sz, k_quaestorlaw03_Size_sz, k_authn_pair_sz, k_api_Envelope_sz]; omega) | (simp only [maxLen, kU8_sz, kSl_sz, k_quaestorlaw03_Deed_sz, k_quaestorlaw03_Size_sz, k_authn_pair_sz, k_api_Envelope_sz, List.length_append, List.length_cons, List.length_nil, List.length_take, List.length_drop, List.length_set]; omega) | decide)) Try.func26 rfl (by decide) [0, 1] [] (l := [(.tmp 3, pv 0 0)]) [] rfl 2 2 rfl rfl rfl rfl rfl rfl rfl rfl rfl ⟨.inl ⟨rfl, rfl⟩, trivial⟩ rfl (fun b hb => by cases hb) (.inl rfl) (lt_of rfl) trivial))
    (oC (oS rfl rfl (r_bin (u1 := .int .i64 (3 * f + 1)) (u2 := .int .i64 2) (v := .int .i64 ((3 * f + 1) + 2)) (b_add (by rw [IntKind.wrap_i64]; omega)) (lt_of rfl) ⟨rfl, trivial⟩))
    (oC (oS rfl rfl (r_bin (u1 := .int .i64 ((3 * f + 1) + 2)) (u2 := .int .i64 3) (v := .int .i64 (((3 * f + 1) + 2) / 3)) (b_quoP (by first | assumption | omega | (simp only [maxLen, kU8_sz, kSl_sz, k_quaestorlaw03_Deed_sz, k_quaestorlaw03_Size_sz, k_authn_pair_sz, k_api_Envelope_sz]; omega) | (simp only [maxLen, kU8_sz, kSl_sz, k_quaestorlaw03_Deed_sz, k_quaestorlaw03_Size_sz, k_authn_pair_sz, k_api_Envelope_sz, List.length_append, List.length_cons, List.length_nil, List.length_take, List.length_drop, List.length_set]; omega) | decide) (by first | assumption | omega | (simp only [maxLen, kU8_sz, kSl_sz, k_quaestorlaw03_Deed_sz, k_quaestorlaw03_Size_sz, k_authn_pair_sz, k_api_Envelope_sz]; omega) | (simp only [maxLen, kU8_sz, kSl_sz, k_quaestorlaw03_Deed_sz, k_quaestorlaw03_Size_sz, k_authn_pair_sz, k_api_Envelope_sz, List.length_append, List.length_cons, List.length_nil, List.length_take, List.length_drop, List.length_set]; omega) | decide) (by rw [IntKind.wrap_i64]; omega)) (lt_of rfl) ⟨rfl, trivial⟩))
    (oC (oS rfl rfl (r_assign (av := dv (.int .i64 (((3 * f + 1) + 2) / 3))) (lt_of rfl) trivial)) (oZ rfl))))))
    (by kernel_rfl) (by kernel_rfl) ?_
  refine nT ?_
  refine T.ret ?_
  exact tE (.inl rfl) [.t 2 (.one (.d (.val (.int .i64 (((3 * f + 1) + 2) / 3)))))] ⟨⟨rfl, rfl⟩, trivial⟩ [0, 1] (by have e1 : (f + 1 : Int) = ((3 * f + 1) + 2) / 3 := (by first | rfl | omega | (simp [isKnown, orgA, *]; done) | (simp [isClient, isReplica, isKnown, primaryA, orgA, *]; done) | (simp only [primaryA, orgA]; first | rw [if_pos (by omega)] | rw [if_neg (by omega)])); have hE := congrArg (fun (q1 : Int) => (dv (.int .i64 q1) : AV)) e1; exact hE) rfl rfl rfl rfl rfl ⟨⟨rfl, rfl⟩, ⟨⟨rfl, rfl⟩, trivial⟩⟩
end Go.Proofs.Ytladnlechpadlaa.Q
