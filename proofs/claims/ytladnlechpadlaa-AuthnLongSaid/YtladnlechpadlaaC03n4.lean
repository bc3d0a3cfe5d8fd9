import Derived.Test.YtladnlechpadlaaC03n3
namespace Go.Proofs.Ytladnlechpadlaa.Q
open Go Go.RowKit
set_option linter.unusedVariables false
set_option linter.unusedSimpArgs false
set_option maxRecDepth 100000
set_option maxHeartbeats 4000000
theorem fld_32_0 : FieldAt Try.prog 32 0 0 := ⟨_, _, _, Try.underlying32, rfl, iat_3, by decide, rfl⟩
theorem fld_32_1 : FieldAt Try.prog 32 1 1 := ⟨_, _, _, Try.underlying32, rfl, iat_25, by decide, rfl⟩
theorem wide_25 : Wide Try.prog 25 none := ⟨_, Try.underlying25, (fun _ h => by cases h), (fun _ _ h => by cases h)⟩
theorem iat_4 : Try.prog.info? 4 = some Try.t4 := by kernel_rfl
theorem zerom_4 : ZeroM Try.prog 4 [.bool false] := ⟨_, _, iat_4, rfl, rfl, fun _ => rfl⟩
-- (*quaestor/authn.Authority).Check
theorem authn_Check (f : Int) (u : Int) (rows : List (authn_pair × Bool)) (te : Bool) (e : api_Envelope) (hf : 0 ≤ f ∧ f ≤ 2) (hu : 0 ≤ u ∧ u ≤ 8) (hs : -9223372036854775808 ≤ e.f_Signer ∧ e.f_Signer ≤ 9223372036854775807) : Holds Try.prog 14 ⟨[pv 0 0, .tv (.agg [.d (.val (.int .i64 e.f_Signer)), .d (dsl te false kU8 e.f_Body)])], [.box 58 [.d (.val (.int .i64 (3 * f + 1))), .d (.val (.int .i64 u)), .mref 1], mpK f_authn_pair kBool rows], dv (.int .i64 (checkE f u rows e)), [.live (.box 58 [.d (.val (.int .i64 (3 * f + 1))), .d (.val (.int .i64 u)), .mref 1]), .live (mpK f_authn_pair kBool rows)]⟩ := by
  refine Holds.of Try.func14 rfl (N := 28) Try.ntmps14 rfl fun w0 B0 S0 U0 => ?_
  show T _ (mkBase 28 2 w0 S0 U0 B0) ⟨[pv 0 0, .tv (.agg [.d (.val (.int .i64 e.f_Signer)), .d (dsl te false kU8 e.f_Body)])], [.live (.box 58 [.d (.val (.int .i64 (3 * f + 1))), .d (.val (.int .i64 u)), .mref 1]), .live (mpK f_authn_pair kBool rows)]⟩ _ _
  refine T.seq ?_
  refine tR (s1 := ⟨[pv 0 0, .tv (.agg [.d (.val (.int .i64 e.f_Signer)), .d (dsl te false kU8 e.f_Body)]), AV.any, pv 2 0, dv (.int .i64 0)], [.live (.box 58 [.d (.val (.int .i64 (3 * f + 1))), .d (.val (.int .i64 u)), .mref 1]), .live (mpK f_authn_pair kBool rows), .live (.box 32 [.d (.val (.int .i64 e.f_Signer)), .d (dsl te false kU8 e.f_Body)])]⟩) [true, true, false, true, true] [true, true, true]
    (oC (oS rfl rfl (r_box (l := 2) (t := .agg [.d (.val (.int .i64 e.f_Signer)), .d (dsl te false kU8 e.f_Body)]) rfl (lt_of rfl) trivial))
    (oC (oS rfl rfl (r_assign (av := dv (.int .i64 0)) (lt_of rfl) ⟨rfl, trivial⟩)) (oZ rfl)))
    (by kernel_rfl) (by kernel_rfl) ?_
  refine nT ?_
  refine T.seq ?_
  refine T.seq ?_
  refine tR (s1 := ⟨[pv 0 0, .tv (.agg [.d (.val (.int .i64 e.f_Signer)), .d (dsl te false kU8 e.f_Body)]), AV.any, pv 2 0, dv (.int .i64 0), AV.any, AV.any, AV.any, AV.any, AV.any, AV.any, dv (.bool (!(decide (isKnown f u e.f_Signer))))], [.live (.box 58 [.d (.val (.int .i64 (3 * f + 1))), .d (.val (.int .i64 u)), .mref 1]), .live (mpK f_authn_pair kBool rows), .live (.box 32 [.d (.val (.int .i64 e.f_Signer)), .d (dsl te false kU8 e.f_Body)])]⟩) [true, true, false, true, true, false, false, false, false, false, false, true] [true, true, true]
    (oC (oS rfl rfl (r_move (av := pv 0 0) (lt_of rfl) trivial))
    (oC (oS rfl rfl (r_fieldAddr (l := 2) (off := 0) fld_32_0 (lt_of rfl) trivial))
    (oC (oS rfl rfl (r_loadB (l := 2) (off := 0) (T := 32) (cs := [.d (.val (.int .i64 e.f_Signer)), .d (dsl te false kU8 e.f_Body)]) (c := .d (.val (.int .i64 e.f_Signer))) wide_3 rfl (lt_of rfl) trivial))
    (oC (oS rfl rfl (r_call (authn_Known f u rows e.f_Signer (by first | assumption | omega | (simp only [maxLen, kU8_sz, kSl_sz, k_quaestorlaw03_Deed_sz, k_quaestorlaw03_Size_sz, k_authn_pair_sz, k_api_Envelope_sz]; omega) | (simp only [maxLen, kU8_sz, kSl_sz, k_quaestorlaw03_Deed_sz, k_quaestorlaw03_Size_sz, k_authn_pair_sz, k_api_Envelope_sz, List.length_append, List.length_cons, List.length_nil, List.length_take, List.length_drop, List.length_set]; omega) | decide) (by first | assumption | omega | (simp only [maxLen, kU8_sz, kSl_sz, k_quaestorlaw03_Deed_sz, k_quaestorlaw03_Size_sz, k_authn_pair_sz, k_api_Envelope_sz]; omega) | (simp only [maxLen, kU8_sz, kSl_sz, k_quaestorlaw03_Deed_sz, k_quaestorlaw03_Size_sz, k_authn_pair_sz, k_api_Envelope_sz, List.length_append, List.length_cons, List.length_nil, List.length_take, List.length_drop, List.length_set]; omega) | decide) (by first | assumption | omega | (simp only [maxLen, kU8_sz, kSl_sz, k_quaestorlaw03_Deed_sz, k_quaestorlaw03_Size_sz, k_authn_pair_sz, k_api_Envelope_sz]; omega) | (simp only [maxLen, kU8_sz, kSl_sz, k_quaestorlaw03_Deed_sz, k_quaestorlaw03_Size_sz, k_authn_pair_sz, k_api_Envelope_sz, List.length_append, List.length_cons, List.length_nil, List.length_take, List.length_drop, List.length_set]; omega) | decide)) Try.func31 rfl (by decide) [0, 1] [] (l := [(.tmp 7, pv 0 0), (.tmp 9, dv (.int .i64 e.f_Signer))]) [] rfl 2 2 rfl rfl rfl rfl rfl rfl rfl rfl rfl ⟨.inl ⟨rfl, rfl⟩, ⟨.inl ⟨rfl, rfl⟩, trivial⟩⟩ rfl (fun b hb => by cases hb) (.inl rfl) (lt_of rfl) trivial))
    (oC (oS rfl rfl (r_un (u := .bool (decide (isKnown f u e.f_Signer))) (v := .bool (!(decide (isKnown f u e.f_Signer)))) u_not (lt_of rfl) trivial)) (oZ rfl))))))
    (by kernel_rfl) (by kernel_rfl) ?_
  refine nT ?_
  by_cases hq1 : isKnown f u e.f_Signer
  · refine T.condF (b := (!(decide (isKnown f u e.f_Signer)))) rfl (congrArg Bool.not (decide_eq_true hq1)) ?_
    refine T.skip ?_
    refine nT ?_
    refine T.seq ?_
    refine T.seq ?_
    refine tD (s1 := ⟨[pv 0 0, .tv (.agg [.d (.val (.int .i64 e.f_Signer)), .d (dsl te false kU8 e.f_Body)]), AV.any, pv 2 0, dv (.int .i64 0), AV.any, dv (.bool (mhas rows (authn_pair.mk e.f_Signer e.f_Body))), AV.any, AV.any, AV.any, AV.any, dv (.bool (!(decide (isKnown f u e.f_Signer))))], [.live (.box 58 [.d (.val (.int .i64 (3 * f + 1))), .d (.val (.int .i64 u)), .mref 1]), .live (mpK f_authn_pair kBool rows), .live (.box 32 [.d (.val (.int .i64 e.f_Signer)), .d (dsl te false kU8 e.f_Body)])]⟩) (by kernel_rfl) [[], [0], [0, 1], [0, 1, 2], [], [4], [], [6], [6, 7], [4, 5, 6, 7, 8], [0, 1, 2, 3, 4, 5, 6, 7, 8, 9], [0, 1, 2, 3, 4, 5, 6, 7, 8, 9, 10], [0, 1, 2, 3, 4, 5, 6, 7, 8, 9, 10, 11], [0, 1, 2, 3, 4, 5, 6, 7, 8, 9, 10, 11], [0, 1, 2, 3, 4, 5, 6, 7, 8, 9, 10, 11, 12], [0, 1, 2, 3, 4, 5, 6, 7, 8, 9, 10, 11, 12, 13, 14]] [true, true, false, true, true, false, true, false, false, false, false, true] [true, true, true]
      (oC (oS rfl rfl (r_move (av := pv 0 0) (lt_of rfl) trivial))
      (oC (oS rfl rfl (r_nilCheck (av := pv 0 0) rfl (lt_of rfl) trivial))
      (oC (oS rfl rfl (r_fieldAddr (l := 0) (off := 0) fld_58_2 (lt_of rfl) trivial))
      (oC (oS rfl rfl (r_loadB (l := 0) (off := 2) (T := 58) (cs := [.d (.val (.int .i64 (3 * f + 1))), .d (.val (.int .i64 u)), .mref 1]) (c := .mref 1) wide_56 rfl (lt_of rfl) trivial))
      (oC (oS rfl rfl (r_fieldAddr (l := 2) (off := 0) fld_32_0 (lt_of rfl) trivial))
      (oC (oS rfl rfl (r_loadB (l := 2) (off := 0) (T := 32) (cs := [.d (.val (.int .i64 e.f_Signer)), .d (dsl te false kU8 e.f_Body)]) (c := .d (.val (.int .i64 e.f_Signer))) wide_3 rfl (lt_of rfl) trivial))
      (oC (oS rfl rfl (r_fieldAddr (l := 2) (off := 0) fld_32_1 (lt_of rfl) trivial))
      (oC (oS rfl rfl (r_loadB (l := 2) (off := 1) (T := 32) (cs := [.d (.val (.int .i64 e.f_Signer)), .d (dsl te false kU8 e.f_Body)]) (c := .d (dsl te false kU8 e.f_Body)) wide_25 rfl (lt_of rfl) trivial))
      (oC (oS rfl rfl (q_strOf () e.f_Body (ys := (.d (dsl te false kU8 e.f_Body))) (rhs := []) Try.underlying25 Try.underlying5 Try.underlying9 (src_sl te false kU8 e.f_Body) (lt_of rfl) trivial))
      (oC (oS rfl rfl (r_build (ps := [⟨0, .tmp 18, .one (.d (.val (.int .i64 e.f_Signer))), 0⟩, ⟨1, .tmp 21, .one (.d (.val (strV e.f_Body))), 1⟩]) (cs := [.d (.val (.int .i64 e.f_Signer)), .d (.val (strV e.f_Body))]) zero_61 places_61 rfl (part_cons rfl rfl (Nat.le_of_ble_eq_true rfl) (part_cons rfl rfl (Nat.le_of_ble_eq_true rfl) part_ok)) rfl (lt_of rfl) trivial))
      (oC (oS rfl rfl (r_lookup2 1 rows (authn_pair.mk e.f_Signer e.f_Body) (.one (.d (.val (.bool (mget rows (authn_pair.mk e.f_Signer e.f_Body) false))))) (ak := .tv (.agg [.d (.val (.int .i64 e.f_Signer)), .d (.val (strV e.f_Body))])) (kd := kBool) Try.underlying56 mkey_authn_pair ⟨[.int .i64 e.f_Signer, strV e.f_Body], rfl, rfl⟩ zerom_4 ⟨(.inl rfl), trivial⟩ rfl (lt_of rfl) trivial))
      (oC (oS rfl rfl (r_move (av := .tup [.one (.d (.val (.bool (mget rows (authn_pair.mk e.f_Signer e.f_Body) false)))), .one (.d (.val (.bool (mhas rows (authn_pair.mk e.f_Signer e.f_Body)))))]) (lt_of rfl) trivial))
      (oC (oS rfl rfl (r_extract (l := [.one (.d (.val (.bool (mget rows (authn_pair.mk e.f_Signer e.f_Body) false)))), .one (.d (.val (.bool (mhas rows (authn_pair.mk e.f_Signer e.f_Body)))))]) (tv := .one (.d (.val (.bool (mget rows (authn_pair.mk e.f_Signer e.f_Body) false))))) rfl (lt_of rfl) trivial))
      (oC (oS rfl rfl (r_extract (l := [.one (.d (.val (.bool (mget rows (authn_pair.mk e.f_Signer e.f_Body) false)))), .one (.d (.val (.bool (mhas rows (authn_pair.mk e.f_Signer e.f_Body)))))]) (tv := .one (.d (.val (.bool (mhas rows (authn_pair.mk e.f_Signer e.f_Body)))))) rfl (lt_of rfl) trivial))
      (oC (oS rfl rfl (r_assign (av := dv (.bool (mget rows (authn_pair.mk e.f_Signer e.f_Body) false))) (lt_of rfl) trivial))
      (oC (oS rfl rfl (r_assign (av := dv (.bool (mhas rows (authn_pair.mk e.f_Signer e.f_Body)))) (lt_of rfl) trivial)) (oZ rfl)))))))))))))))))
      (by kernel_rfl) (by kernel_rfl) (by kernel_rfl) (by kernel_rfl) (by kernel_rfl) ?_
    refine nT ?_
    refine T.seq ?_
    refine tR (s1 := ⟨[pv 0 0, .tv (.agg [.d (.val (.int .i64 e.f_Signer)), .d (dsl te false kU8 e.f_Body)]), AV.any, pv 2 0, dv (.int .i64 0), AV.any, dv (.bool (mhas rows (authn_pair.mk e.f_Signer e.f_Body))), AV.any, AV.any, AV.any, AV.any, dv (.bool (!(decide (isKnown f u e.f_Signer)))), AV.any, AV.any, AV.any, AV.any, AV.any, AV.any, AV.any, AV.any, AV.any, AV.any, AV.any, AV.any, AV.any, AV.any, AV.any, dv (.bool (!(mhas rows (authn_pair.mk e.f_Signer e.f_Body))))], [.live (.box 58 [.d (.val (.int .i64 (3 * f + 1))), .d (.val (.int .i64 u)), .mref 1]), .live (mpK f_authn_pair kBool rows), .live (.box 32 [.d (.val (.int .i64 e.f_Signer)), .d (dsl te false kU8 e.f_Body)])]⟩) [true, true, false, true, true, false, true, false, false, false, false, true, false, false, false, false, false, false, false, false, false, false, false, false, false, false, false, true] [true, true, true]
      (oC (oS rfl rfl (r_move (av := dv (.bool (mhas rows (authn_pair.mk e.f_Signer e.f_Body)))) (lt_of rfl) trivial))
      (oC (oS rfl rfl (r_un (u := .bool (mhas rows (authn_pair.mk e.f_Signer e.f_Body))) (v := .bool (!(mhas rows (authn_pair.mk e.f_Signer e.f_Body)))) u_not (lt_of rfl) trivial)) (oZ rfl)))
      (by kernel_rfl) (by kernel_rfl) ?_
    refine nT ?_
    by_cases hq2 : (mhas rows (authn_pair.mk e.f_Signer e.f_Body)) = true
    · refine T.condF (b := (!(mhas rows (authn_pair.mk e.f_Signer e.f_Body)))) rfl (congrArg Bool.not hq2) ?_
      refine T.skip ?_
      refine nT ?_
      refine T.seq ?_
      refine tR (s1 := ⟨[pv 0 0, .tv (.agg [.d (.val (.int .i64 e.f_Signer)), .d (dsl te false kU8 e.f_Body)]), AV.any, pv 2 0, dv (.int .i64 0), AV.any, dv (.bool (mhas rows (authn_pair.mk e.f_Signer e.f_Body))), AV.any, AV.any, AV.any, AV.any, dv (.bool (!(decide (isKnown f u e.f_Signer)))), AV.any, AV.any, AV.any, AV.any, AV.any, AV.any, AV.any, AV.any, AV.any, AV.any, AV.any, AV.any, AV.any, AV.any, AV.any, dv (.bool (!(mhas rows (authn_pair.mk e.f_Signer e.f_Body))))], [.live (.box 58 [.d (.val (.int .i64 (3 * f + 1))), .d (.val (.int .i64 u)), .mref 1]), .live (mpK f_authn_pair kBool rows), .live (.box 32 [.d (.val (.int .i64 e.f_Signer)), .d (dsl te false kU8 e.f_Body)])]⟩) [true, true, false, true, true, false, true, false, false, false, false, true, false, false, false, false, false, false, false, false, false, false, false, false, false, false, false, true] [true, true, true]
        (oC (oS rfl rfl (r_assign (av := dv (.int .i64 0)) (lt_of rfl) ⟨rfl, trivial⟩)) (oZ rfl))
        (by kernel_rfl) (by kernel_rfl) ?_
      refine nT ?_
      refine T.ret ?_
      exact tE (.inl rfl) [.t 4 (.one (.d (.val (.int .i64 0))))] ⟨⟨rfl, rfl⟩, trivial⟩ [0, 1] (by have e1 : ((checkE f u rows e) : Int) = 0 := (by first | rfl | (simp [checkE, *]; done)); have hE := congrArg (fun (q1 : Int) => (dv (.int .i64 q1) : AV)) e1; exact hE) rfl rfl rfl rfl rfl ⟨⟨rfl, rfl⟩, ⟨⟨rfl, rfl⟩, trivial⟩⟩
    · replace hq2 := Bool.eq_false_iff.2 hq2
      refine T.condT (b := (!(mhas rows (authn_pair.mk e.f_Signer e.f_Body)))) rfl (congrArg Bool.not hq2) ?_
      refine T.seq ?_
      refine tR (s1 := ⟨[pv 0 0, .tv (.agg [.d (.val (.int .i64 e.f_Signer)), .d (dsl te false kU8 e.f_Body)]), AV.any, pv 2 0, dv (.int .i64 31), AV.any, dv (.bool (mhas rows (authn_pair.mk e.f_Signer e.f_Body))), AV.any, AV.any, AV.any, AV.any, dv (.bool (!(decide (isKnown f u e.f_Signer)))), AV.any, AV.any, AV.any, AV.any, AV.any, AV.any, AV.any, AV.any, AV.any, AV.any, AV.any, AV.any, AV.any, AV.any, AV.any, dv (.bool (!(mhas rows (authn_pair.mk e.f_Signer e.f_Body))))], [.live (.box 58 [.d (.val (.int .i64 (3 * f + 1))), .d (.val (.int .i64 u)), .mref 1]), .live (mpK f_authn_pair kBool rows), .live (.box 32 [.d (.val (.int .i64 e.f_Signer)), .d (dsl te false kU8 e.f_Body)])]⟩) [true, true, false, true, true, false, true, false, false, false, false, true, false, false, false, false, false, false, false, false, false, false, false, false, false, false, false, true] [true, true, true]
        (oC (oS rfl rfl (r_assign (av := dv (.int .i64 31)) (lt_of rfl) ⟨rfl, trivial⟩)) (oZ rfl))
        (by kernel_rfl) (by kernel_rfl) ?_
      refine nT ?_
      refine T.ret ?_
      refine rT ?_
      exact tE (.inl rfl) [.t 4 (.one (.d (.val (.int .i64 31))))] ⟨⟨rfl, rfl⟩, trivial⟩ [0, 1] (by have e1 : ((checkE f u rows e) : Int) = 31 := (by first | rfl | (simp [checkE, *]; done)); have hE := congrArg (fun (q1 : Int) => (dv (.int .i64 q1) : AV)) e1; exact hE) rfl rfl rfl rfl rfl ⟨⟨rfl, rfl⟩, ⟨⟨rfl, rfl⟩, trivial⟩⟩
  · refine T.condT (b := (!(decide (isKnown f u e.f_Signer)))) rfl (congrArg Bool.not (decide_eq_false hq1)) ?_
    refine T.seq ?_
    refine tR (s1 := ⟨[pv 0 0, .tv (.agg [.d (.val (.int .i64 e.f_Signer)), .d (dsl te false kU8 e.f_Body)]), AV.any, pv 2 0, dv (.int .i64 30), AV.any, AV.any, AV.any, AV.any, AV.any, AV.any, dv (.bool (!(decide (isKnown f u e.f_Signer))))], [.live (.box 58 [.d (.val (.int .i64 (3 * f + 1))), .d (.val (.int .i64 u)), .mref 1]), .live (mpK f_authn_pair kBool rows), .live (.box 32 [.d (.val (.int .i64 e.f_Signer)), .d (dsl te false kU8 e.f_Body)])]⟩) [true, true, false, true, true, false, false, false, false, false, false, true] [true, true, true]
      (oC (oS rfl rfl (r_assign (av := dv (.int .i64 30)) (lt_of rfl) ⟨rfl, trivial⟩)) (oZ rfl))
      (by kernel_rfl) (by kernel_rfl) ?_
    refine nT ?_
    refine T.ret ?_
    refine rT ?_
    exact tE (.inl rfl) [.t 4 (.one (.d (.val (.int .i64 30))))] ⟨⟨rfl, rfl⟩, trivial⟩ [0, 1] (by have e1 : ((checkE f u rows e) : Int) = 30 := (by first | rfl | (simp [checkE, *]; done)); have hE := congrArg (fun (q1 : Int) => (dv (.int .i64 q1) : AV)) e1; exact hE) rfl rfl rfl rfl rfl ⟨⟨rfl, rfl⟩, ⟨⟨rfl, rfl⟩, trivial⟩⟩

-- quaestor/quaestorref03.Same
theorem ref03_Same (ta : Bool) (tb : Bool) (a : api_Envelope) (b : api_Envelope) : Holds Try.prog 21 ⟨[.tv (.agg [.d (.val (.int .i64 a.f_Signer)), .d (dsl ta false kU8 a.f_Body)]), .tv (.agg [.d (.val (.int .i64 b.f_Signer)), .d (dsl tb false kU8 b.f_Body)])], [], dv (.bool (decide (a = b))), []⟩ := by
  refine Holds.of Try.func21 rfl (N := 17) Try.ntmps21 rfl fun w0 B0 S0 U0 => ?_
  show T _ (mkBase 17 0 w0 S0 U0 B0) ⟨[.tv (.agg [.d (.val (.int .i64 a.f_Signer)), .d (dsl ta false kU8 a.f_Body)]), .tv (.agg [.d (.val (.int .i64 b.f_Signer)), .d (dsl tb false kU8 b.f_Body)])], []⟩ _ _
  refine T.seq ?_
  refine tR (s1 := ⟨[.tv (.agg [.d (.val (.int .i64 a.f_Signer)), .d (dsl ta false kU8 a.f_Body)]), .tv (.agg [.d (.val (.int .i64 b.f_Signer)), .d (dsl tb false kU8 b.f_Body)]), pv 0 0, pv 1 0, dv (.bool false)], [.live (.box 32 [.d (.val (.int .i64 a.f_Signer)), .d (dsl ta false kU8 a.f_Body)]), .live (.box 32 [.d (.val (.int .i64 b.f_Signer)), .d (dsl tb false kU8 b.f_Body)])]⟩) [true, true, true, true, true] [true, true]
    (oC (oS rfl rfl (r_box (l := 0) (t := .agg [.d (.val (.int .i64 a.f_Signer)), .d (dsl ta false kU8 a.f_Body)]) rfl (lt_of rfl) trivial))
    (oC (oS rfl rfl (r_box (l := 1) (t := .agg [.d (.val (.int .i64 b.f_Signer)), .d (dsl tb false kU8 b.f_Body)]) rfl (lt_of rfl) trivial))
    (oC (oS rfl rfl (r_assign (av := dv (.bool false)) (lt_of rfl) ⟨rfl, trivial⟩)) (oZ rfl))))
    (by kernel_rfl) (by kernel_rfl) ?_
  refine nT ?_
  refine T.seq ?_
  by_cases hq1 : a.f_Signer = b.f_Signer
  · refine tR (s1 := ⟨[.tv (.agg [.d (.val (.int .i64 a.f_Signer)), .d (dsl ta false kU8 a.f_Body)]), .tv (.agg [.d (.val (.int .i64 b.f_Signer)), .d (dsl tb false kU8 b.f_Body)]), pv 0 0, pv 1 0, dv (.bool (decide (a.f_Body = b.f_Body)))], [.live (.box 32 [.d (.val (.int .i64 a.f_Signer)), .d (dsl ta false kU8 a.f_Body)]), .live (.box 32 [.d (.val (.int .i64 b.f_Signer)), .d (dsl tb false kU8 b.f_Body)])]⟩) [true, true, true, true, true] [true, true]
      (oC (oS rfl rfl (r_fieldAddr (l := 0) (off := 0) fld_32_0 (lt_of rfl) trivial))
      (oC (oS rfl rfl (r_loadB (l := 0) (off := 0) (T := 32) (cs := [.d (.val (.int .i64 a.f_Signer)), .d (dsl ta false kU8 a.f_Body)]) (c := .d (.val (.int .i64 a.f_Signer))) wide_3 rfl (lt_of rfl) trivial))
      (oC (oS rfl rfl (r_fieldAddr (l := 1) (off := 0) fld_32_0 (lt_of rfl) trivial))
      (oC (oS rfl rfl (r_loadB (l := 1) (off := 0) (T := 32) (cs := [.d (.val (.int .i64 b.f_Signer)), .d (dsl tb false kU8 b.f_Body)]) (c := .d (.val (.int .i64 b.f_Signer))) wide_3 rfl (lt_of rfl) trivial))
      (oC (oS rfl rfl (r_bin (u1 := .int .i64 a.f_Signer) (u2 := .int .i64 b.f_Signer) (v := .bool (decide (a.f_Signer = b.f_Signer))) b_eql (lt_of rfl) trivial))
      (oC (oS rfl rfl (r_move (av := dv (.bool (decide (a.f_Signer = b.f_Signer)))) (lt_of rfl) trivial))
      (oC (oY (b := (decide (a.f_Signer = b.f_Signer))) rfl rfl rfl rfl (lt_of rfl) (decide_eq_true hq1) (r_fieldAddr (l := 0) (off := 0) fld_32_1 (lt_of rfl) trivial))
      (oC (oY (b := (decide (a.f_Signer = b.f_Signer))) rfl rfl rfl rfl (lt_of rfl) (decide_eq_true hq1) (r_loadB (l := 0) (off := 1) (T := 32) (cs := [.d (.val (.int .i64 a.f_Signer)), .d (dsl ta false kU8 a.f_Body)]) (c := .d (dsl ta false kU8 a.f_Body)) wide_25 rfl (lt_of rfl) trivial))
      (oC (oY (b := (decide (a.f_Signer = b.f_Signer))) rfl rfl rfl rfl (lt_of rfl) (decide_eq_true hq1) (r_fieldAddr (l := 1) (off := 0) fld_32_1 (lt_of rfl) trivial))
      (oC (oY (b := (decide (a.f_Signer = b.f_Signer))) rfl rfl rfl rfl (lt_of rfl) (decide_eq_true hq1) (r_loadB (l := 1) (off := 1) (T := 32) (cs := [.d (.val (.int .i64 b.f_Signer)), .d (dsl tb false kU8 b.f_Body)]) (c := .d (dsl tb false kU8 b.f_Body)) wide_25 rfl (lt_of rfl) trivial))
      (oC (oY (b := (decide (a.f_Signer = b.f_Signer))) rfl rfl rfl rfl (lt_of rfl) (decide_eq_true hq1) (r_call (ref01_Same ta false tb false a.f_Body b.f_Body ) Try.func13 rfl (by decide) [] [] (l := [(.tmp 12, slV ta false kU8 a.f_Body), (.tmp 14, slV tb false kU8 b.f_Body)]) [] rfl 0 0 rfl rfl rfl rfl rfl rfl rfl rfl rfl ⟨.inl ⟨rfl, rfl⟩, ⟨.inl ⟨rfl, rfl⟩, trivial⟩⟩ rfl (fun b hb => by cases hb) (.inl rfl) (lt_of rfl) trivial))
      (oC (oS rfl rfl (r_pickT (b := (decide (a.f_Signer = b.f_Signer))) (av := dv (.bool (decide (a.f_Body = b.f_Body)))) (lt_of rfl) trivial (decide_eq_true hq1)))
      (oC (oS rfl rfl (r_assign (av := dv (.bool (decide (a.f_Body = b.f_Body)))) (lt_of rfl) trivial)) (oZ rfl))))))))))))))
      (by kernel_rfl) (by kernel_rfl) ?_
    refine nT ?_
    refine T.ret ?_
    exact tE (.inl rfl) [.t 4 (.one (.d (.val (.bool (decide (a.f_Body = b.f_Body))))))] ⟨⟨rfl, rfl⟩, trivial⟩ [] (by have e1 : ((decide (a = b)) : Bool) = (decide (a.f_Body = b.f_Body)) := (by simp [api_Envelope_iff, *]); have hE := congrArg (fun (q1 : Bool) => (dv (.bool q1) : AV)) e1; exact hE) rfl rfl rfl rfl rfl trivial
  · refine tR (s1 := ⟨[.tv (.agg [.d (.val (.int .i64 a.f_Signer)), .d (dsl ta false kU8 a.f_Body)]), .tv (.agg [.d (.val (.int .i64 b.f_Signer)), .d (dsl tb false kU8 b.f_Body)]), pv 0 0, pv 1 0, dv (.bool false)], [.live (.box 32 [.d (.val (.int .i64 a.f_Signer)), .d (dsl ta false kU8 a.f_Body)]), .live (.box 32 [.d (.val (.int .i64 b.f_Signer)), .d (dsl tb false kU8 b.f_Body)])]⟩) [true, true, true, true, true] [true, true]
      (oC (oS rfl rfl (r_fieldAddr (l := 0) (off := 0) fld_32_0 (lt_of rfl) trivial))
      (oC (oS rfl rfl (r_loadB (l := 0) (off := 0) (T := 32) (cs := [.d (.val (.int .i64 a.f_Signer)), .d (dsl ta false kU8 a.f_Body)]) (c := .d (.val (.int .i64 a.f_Signer))) wide_3 rfl (lt_of rfl) trivial))
      (oC (oS rfl rfl (r_fieldAddr (l := 1) (off := 0) fld_32_0 (lt_of rfl) trivial))
      (oC (oS rfl rfl (r_loadB (l := 1) (off := 0) (T := 32) (cs := [.d (.val (.int .i64 b.f_Signer)), .d (dsl tb false kU8 b.f_Body)]) (c := .d (.val (.int .i64 b.f_Signer))) wide_3 rfl (lt_of rfl) trivial))
      (oC (oS rfl rfl (r_bin (u1 := .int .i64 a.f_Signer) (u2 := .int .i64 b.f_Signer) (v := .bool (decide (a.f_Signer = b.f_Signer))) b_eql (lt_of rfl) trivial))
      (oC (oS rfl rfl (r_move (av := dv (.bool (decide (a.f_Signer = b.f_Signer)))) (lt_of rfl) trivial))
      (oC (oN (b := (decide (a.f_Signer = b.f_Signer))) rfl rfl rfl rfl (lt_of rfl) (decide_eq_false hq1) rfl (lt_of rfl))
      (oC (oN (b := (decide (a.f_Signer = b.f_Signer))) rfl rfl rfl rfl (lt_of rfl) (decide_eq_false hq1) rfl (lt_of rfl))
      (oC (oN (b := (decide (a.f_Signer = b.f_Signer))) rfl rfl rfl rfl (lt_of rfl) (decide_eq_false hq1) rfl (lt_of rfl))
      (oC (oN (b := (decide (a.f_Signer = b.f_Signer))) rfl rfl rfl rfl (lt_of rfl) (decide_eq_false hq1) rfl (lt_of rfl))
      (oC (oN (b := (decide (a.f_Signer = b.f_Signer))) rfl rfl rfl rfl (lt_of rfl) (decide_eq_false hq1) rfl (lt_of rfl))
      (oC (oS rfl rfl (r_pickF (b := (decide (a.f_Signer = b.f_Signer))) (av := dv (.bool false)) (lt_of rfl) ⟨rfl, trivial⟩ (decide_eq_false hq1)))
      (oC (oS rfl rfl (r_assign (av := dv (.bool false)) (lt_of rfl) trivial)) (oZ rfl))))))))))))))
      (by kernel_rfl) (by kernel_rfl) ?_
    refine nT ?_
    refine T.ret ?_
    exact tE (.inl rfl) [.t 4 (.one (.d (.val (.bool false))))] ⟨⟨rfl, rfl⟩, trivial⟩ [] (by have e1 : ((decide (a = b)) : Bool) = false := (by simp [api_Envelope_iff, *]); have hE := congrArg (fun (q1 : Bool) => (dv (.bool q1) : AV)) e1; exact hE) rfl rfl rfl rfl rfl trivial

theorem iat_48 : Try.prog.info? 48 = some Try.t48 := by kernel_rfl
theorem zero_48 : Zero Try.prog 48 [.bool false, .int .i64 0, .int .i64 0, .slice none 0 0] := ⟨_, _, iat_48, rfl, rfl⟩
theorem iat_46 : Try.prog.info? 46 = some Try.t46 := by kernel_rfl
theorem places_48 : Places Try.prog 48 [(0, 1), (1, 1), (2, 1), (3, 1)] := ⟨_, Try.underlying48, ⟨⟨rfl, _, iat_4, rfl⟩, ⟨⟨rfl, _, iat_3, rfl⟩, ⟨⟨rfl, _, iat_3, rfl⟩, ⟨⟨rfl, _, iat_46, rfl⟩, trivial⟩⟩⟩⟩⟩
-- quaestor/quaestorref03.New
theorem ref03_New (f : Int) (u : Int) : Holds Try.prog 16 ⟨[dv (.int .i64 f), dv (.int .i64 u)], [], pv 0 0, [.live (.box 48 [.d (.val (.bool true)), .d (.val (.int .i64 (fOf f))), .d (.val (.int .i64 (cOf u))), .own 1 (k_api_Envelope false).sz 0 ([] : List api_Envelope).length]), .live (arrK 32 (k_api_Envelope false) ([] : List api_Envelope))]⟩ := by
  refine Holds.of Try.func16 rfl (N := 13) Try.ntmps16 rfl fun w0 B0 S0 U0 => ?_
  show T _ (mkBase 13 0 w0 S0 U0 B0) ⟨[dv (.int .i64 f), dv (.int .i64 u)], []⟩ _ _
  refine T.seq ?_
  refine tR (s1 := ⟨[dv (.int .i64 f), dv (.int .i64 u), AV.any, AV.any, dv (.pointer none)], []⟩) [true, true, false, false, true] []
    (oC (oS rfl rfl (r_assign (av := dv (.pointer none)) (lt_of rfl) ⟨rfl, trivial⟩)) (oZ rfl))
    (by kernel_rfl) (by kernel_rfl) ?_
  refine nT ?_
  refine T.seq ?_
  refine tR (s1 := ⟨[dv (.int .i64 f), dv (.int .i64 u), AV.any, AV.any, pv 0 0], [.live (.box 48 [.d (.val (.bool true)), .d (.val (.int .i64 (max 0 (min f 2)))), .d (.val (.int .i64 (max 0 (min u 8)))), .d (.val (.slice none 0 0))])]⟩) [true, true, false, false, true] [true]
    (oC (oS rfl rfl (r_move (av := dv (.int .i64 f)) (lt_of rfl) trivial))
    (oC (oS rfl rfl (r_min (k := .i64) (a := f) (b := 2) (lt_of rfl) ⟨rfl, trivial⟩))
    (oC (oS rfl rfl (r_max (k := .i64) (a := 0) (b := min f 2) (lt_of rfl) ⟨rfl, trivial⟩))
    (oC (oS rfl rfl (r_move (av := dv (.int .i64 u)) (lt_of rfl) trivial))
    (oC (oS rfl rfl (r_min (k := .i64) (a := u) (b := 8) (lt_of rfl) ⟨rfl, trivial⟩))
    (oC (oS rfl rfl (r_max (k := .i64) (a := 0) (b := min u 8) (lt_of rfl) ⟨rfl, trivial⟩))
    (oC (oS rfl rfl (r_build (ps := [⟨0, .const (.bool true), .one (.d (.val (.bool true))), 0⟩, ⟨1, .tmp 7, .one (.d (.val (.int .i64 (max 0 (min f 2))))), 1⟩, ⟨2, .tmp 10, .one (.d (.val (.int .i64 (max 0 (min u 8))))), 2⟩]) (cs := [.d (.val (.bool true)), .d (.val (.int .i64 (max 0 (min f 2)))), .d (.val (.int .i64 (max 0 (min u 8)))), .d (.val (.slice none 0 0))]) zero_48 places_48 rfl (part_cons rfl rfl (Nat.le_of_ble_eq_true rfl) (part_cons rfl rfl (Nat.le_of_ble_eq_true rfl) (part_cons rfl rfl (Nat.le_of_ble_eq_true rfl) part_ok))) rfl (lt_of rfl) ⟨rfl, trivial⟩))
    (oC (oS rfl rfl (r_box (l := 0) (t := .agg [.d (.val (.bool true)), .d (.val (.int .i64 (max 0 (min f 2)))), .d (.val (.int .i64 (max 0 (min u 8)))), .d (.val (.slice none 0 0))]) rfl (lt_of rfl) trivial))
    (oC (oS rfl rfl (r_assign (av := pv 0 0) (lt_of rfl) trivial)) (oZ rfl))))))))))
    (by kernel_rfl) (by kernel_rfl) ?_
  refine nT ?_
  refine T.ret ?_
  refine Ends.turn (s' := ⟨[dv (.int .i64 f), dv (.int .i64 u), AV.any, AV.any, pv 0 0], [.live (.box 48 [.d (.val (.bool true)), .d (.val (.int .i64 (max 0 (min f 2)))), .d (.val (.int .i64 (max 0 (min u 8)))), .own 1 (k_api_Envelope false).sz 0 0]), .live (arrK 32 (k_api_Envelope false) ([] : List api_Envelope))]⟩) (fun _ _ hG => Gs.absentB 1 0 3 32 (k_api_Envelope false) (Tb := 48) (cs := [.d (.val (.bool true)), .d (.val (.int .i64 (max 0 (min f 2)))), .d (.val (.int .i64 (max 0 (min u 8)))), .d (.val (.slice none 0 0))]) rfl rfl rfl hG) ?_
  exact tE (.inl rfl) [.t 4 (.one (.ptr 0 0))] ⟨⟨rfl, rfl⟩, trivial⟩ [0, 1] rfl rfl rfl rfl rfl rfl ⟨⟨rfl, (by have e1 : (max 0 (min f 2) : Int) = (fOf f) := (by first | rfl | (simp only [fOf, cOf]; omega)); have e2 : (max 0 (min u 8) : Int) = (cOf u) := (by first | rfl | (simp only [fOf, cOf]; omega)); have e3 : (0 : Nat) = ([] : List api_Envelope).length := (by first | rfl | (simp only [fOf, cOf]; omega)); have hE := congr (congr (congrArg (fun (q1 : Int) (q2 : Int) (q3 : Nat) => (.live (.box 48 [.d (.val (.bool true)), .d (.val (.int .i64 q1)), .d (.val (.int .i64 q2)), .own 1 (k_api_Envelope false).sz 0 q3]) : HS)) e1) e2) e3; exact hE)⟩, ⟨⟨rfl, rfl⟩, trivial⟩⟩

theorem fld_48_0 : FieldAt Try.prog 48 0 0 := ⟨_, _, _, Try.underlying48, rfl, iat_4, by decide, rfl⟩
theorem wide_4 : Wide Try.prog 4 none := ⟨_, Try.underlying4, (fun _ h => by cases h), (fun _ _ h => by cases h)⟩
theorem fld_48_1 : FieldAt Try.prog 48 1 1 := ⟨_, _, _, Try.underlying48, rfl, iat_3, by decide, rfl⟩
-- (*quaestor/quaestorref03.Authority).N
theorem ref03_N (f : Int) (u : Int) (l : List api_Envelope) (hf : 0 ≤ f ∧ f ≤ 2) (hu : 0 ≤ u ∧ u ≤ 8) : Holds Try.prog 34 ⟨[pv 0 0], [.box 48 [.d (.val (.bool true)), .d (.val (.int .i64 f)), .d (.val (.int .i64 u)), .own 1 (k_api_Envelope false).sz 0 l.length], arrK 32 (k_api_Envelope false) l], dv (.int .i64 (3 * f + 1)), [.live (.box 48 [.d (.val (.bool true)), .d (.val (.int .i64 f)), .d (.val (.int .i64 u)), .own 1 (k_api_Envelope false).sz 0 l.length]), .live (arrK 32 (k_api_Envelope false) l)]⟩ := by
  refine Holds.of Try.func34 rfl (N := 14) Try.ntmps34 rfl fun w0 B0 S0 U0 => ?_
  show T _ (mkBase 14 2 w0 S0 U0 B0) ⟨[pv 0 0], [.live (.box 48 [.d (.val (.bool true)), .d (.val (.int .i64 f)), .d (.val (.int .i64 u)), .own 1 (k_api_Envelope false).sz 0 l.length]), .live (arrK 32 (k_api_Envelope false) l)]⟩ _ _
  refine T.seq ?_
  refine tR (s1 := ⟨[pv 0 0, AV.any, dv (.int .i64 0)], [.live (.box 48 [.d (.val (.bool true)), .d (.val (.int .i64 f)), .d (.val (.int .i64 u)), .own 1 (k_api_Envelope false).sz 0 l.length]), .live (arrK 32 (k_api_Envelope false) l)]⟩) [true, false, true] [true, true]
    (oC (oS rfl rfl (r_assign (av := dv (.int .i64 0)) (lt_of rfl) ⟨rfl, trivial⟩)) (oZ rfl))
    (by kernel_rfl) (by kernel_rfl) ?_
  refine nT ?_
  refine T.seq ?_
  refine T.seq ?_
  refine tR (s1 := ⟨[pv 0 0, AV.any, dv (.int .i64 0), AV.any, AV.any, AV.any, AV.any, dv (.bool (!true))], [.live (.box 48 [.d (.val (.bool true)), .d (.val (.int .i64 f)), .d (.val (.int .i64 u)), .own 1 (k_api_Envelope false).sz 0 l.length]), .live (arrK 32 (k_api_Envelope false) l)]⟩) [true, false, true, false, false, false, false, true] [true, true]
    (oC (oS rfl rfl (r_move (av := pv 0 0) (lt_of rfl) trivial))
    (oC (oS rfl rfl (r_nilCheck (av := pv 0 0) rfl (lt_of rfl) trivial))
    (oC (oS rfl rfl (r_fieldAddr (l := 0) (off := 0) fld_48_0 (lt_of rfl) trivial))
    (oC (oS rfl rfl (r_loadB (l := 0) (off := 0) (T := 48) (cs := [.d (.val (.bool true)), .d (.val (.int .i64 f)), .d (.val (.int .i64 u)), .own 1 (k_api_Envelope false).sz 0 l.length]) (c := .d (.val (.bool true))) wide_4 rfl (lt_of rfl) trivial))
    (oC (oS rfl rfl (r_un (u := .bool true) (v := .bool (!true)) u_not (lt_of rfl) trivial)) (oZ rfl))))))
    (by kernel_rfl) (by kernel_rfl) ?_
  refine nT ?_
  refine T.condF (b := (!true)) rfl (congrArg Bool.not rfl) ?_
  refine T.skip ?_
  refine nT ?_
  refine T.seq ?_
  refine tR (s1 := ⟨[pv 0 0, AV.any, dv (.int .i64 ((3 * f) + 1)), AV.any, AV.any, AV.any, AV.any, dv (.bool (!true))], [.live (.box 48 [.d (.val (.bool true)), .d (.val (.int .i64 f)), .d (.val (.int .i64 u)), .own 1 (k_api_Envelope false).sz 0 l.length]), .live (arrK 32 (k_api_Envelope false) l)]⟩) [true, false, true, false, false, false, false, true] [true, true]
    (oC (oS rfl rfl (r_move (av := pv 0 0) (lt_of rfl) trivial))
    (oC (oS rfl rfl (r_nilCheck (av := pv 0 0) rfl (lt_of rfl) trivial))
    (oC (oS rfl rfl (r_fieldAddr (l := 0) (off := 0) fld_48_1 (lt_of rfl) trivial))
    (oC (oS rfl rfl (r_loadB (l := 0) (off := 1) (T := 48) (cs := [.d (.val (.bool true)), .d (.val (.int .i64 f)), .d (.val (.int .i64 u)), .own 1 (k_api_Envelope false).sz 0 l.length]) (c := .d (.val (.int .i64 f))) wide_3 rfl (lt_of rfl) trivial))
    (oC (oS rfl rfl (r_bin (u1 := .int .i64 3) (u2 := .int .i64 f) (v := .int .i64 (3 * f)) (b_mul (by rw [IntKind.wrap_i64]; omega)) (lt_of rfl) ⟨rfl, trivial⟩))
    (oC (oS rfl rfl (r_bin (u1 := .int .i64 (3 * f)) (u2 := .int .i64 1) (v := .int .i64 ((3 * f) + 1)) (b_add (by rw [IntKind.wrap_i64]; omega)) (lt_of rfl) ⟨rfl, trivial⟩))
    (oC (oS rfl rfl (r_assign (av := dv (.int .i64 ((3 * f) + 1))) (lt_of rfl) trivial)) (oZ rfl))))))))
    (by kernel_rfl) (by kernel_rfl) ?_
  refine nT ?_
  refine T.ret ?_
  exact tE (.inl rfl) [.t 2 (.one (.d (.val (.int .i64 ((3 * f) + 1)))))] ⟨⟨rfl, rfl⟩, trivial⟩ [0, 1] (by have e1 : (3 * f + 1 : Int) = (3 * f) + 1 := (by first | rfl | omega | (simp [isKnown, orgA, *]; done) | (simp [isClient, isReplica, isKnown, primaryA, orgA, *]; done) | (simp only [primaryA, orgA]; first | rw [if_pos (by omega)] | rw [if_neg (by omega)])); have hE := congrArg (fun (q1 : Int) => (dv (.int .i64 q1) : AV)) e1; exact hE) rfl rfl rfl rfl rfl ⟨⟨rfl, rfl⟩, ⟨⟨rfl, rfl⟩, trivial⟩⟩
end Go.Proofs.Ytladnlechpadlaa.Q
