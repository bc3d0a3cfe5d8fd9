import Derived.Test.YtladnlechpadlaaC03n2
namespace Go.Proofs.Ytladnlechpadlaa.Q
open Go Go.RowKit
set_option linter.unusedVariables false
set_option linter.unusedSimpArgs false
set_option maxRecDepth 100000
set_option maxHeartbeats 4000000
-- (*quaestor/authn.Authority).Org
theorem authn_Org (f : Int) (u : Int) (rows : List (authn_pair × Bool)) (s : Int) (hf : 0 ≤ f ∧ f ≤ 2) (hu : 0 ≤ u ∧ u ≤ 8) (hs : -9223372036854775808 ≤ s ∧ s ≤ 9223372036854775807) : Holds Try.prog 33 ⟨[pv 0 0, dv (.int .i64 s)], [.box 58 [.d (.val (.int .i64 (3 * f + 1))), .d (.val (.int .i64 u)), .mref 1], mpK f_authn_pair kBool rows], dv (.int .i64 (orgA u s)), [.live (.box 58 [.d (.val (.int .i64 (3 * f + 1))), .d (.val (.int .i64 u)), .mref 1]), .live (mpK f_authn_pair kBool rows)]⟩ := by
  refine Holds.of Try.func33 rfl (N := 12) Try.ntmps33 rfl fun w0 B0 S0 U0 => ?_
  show T _ (mkBase 12 2 w0 S0 U0 B0) ⟨[pv 0 0, dv (.int .i64 s)], [.live (.box 58 [.d (.val (.int .i64 (3 * f + 1))), .d (.val (.int .i64 u)), .mref 1]), .live (mpK f_authn_pair kBool rows)]⟩ _ _
  refine T.seq ?_
  refine tR (s1 := ⟨[pv 0 0, dv (.int .i64 s), AV.any, AV.any, dv (.int .i64 0)], [.live (.box 58 [.d (.val (.int .i64 (3 * f + 1))), .d (.val (.int .i64 u)), .mref 1]), .live (mpK f_authn_pair kBool rows)]⟩) [true, true, false, false, true] [true, true]
    (oC (oS rfl rfl (r_assign (av := dv (.int .i64 0)) (lt_of rfl) ⟨rfl, trivial⟩)) (oZ rfl))
    (by kernel_rfl) (by kernel_rfl) ?_
  refine nT ?_
  refine T.seq ?_
  refine T.seq ?_
  refine tR (s1 := ⟨[pv 0 0, dv (.int .i64 s), AV.any, AV.any, dv (.int .i64 0), AV.any, AV.any, AV.any, dv (.bool (!(decide (isClient u s))))], [.live (.box 58 [.d (.val (.int .i64 (3 * f + 1))), .d (.val (.int .i64 u)), .mref 1]), .live (mpK f_authn_pair kBool rows)]⟩) [true, true, false, false, true, false, false, false, true] [true, true]
    (oC (oS rfl rfl (r_move (av := pv 0 0) (lt_of rfl) trivial))
    (oC (oS rfl rfl (r_move (av := dv (.int .i64 s)) (lt_of rfl) trivial))
    (oC (oS rfl rfl (r_call (authn_client f u rows s (by first | assumption | omega | (simp only [maxLen, kU8_sz, kSl_sz, k_quaestorlaw03_Deed_sz, k_quaestorlaw03_Size_sz, k_authn_pair_sz, k_api_Envelope_sz]; omega) | (simp only [maxLen, kU8_sz, kSl_sz, k_quaestorlaw03_Deed_sz, k_quaestorlaw03_Size_sz, k_authn_pair_sz, k_api_Envelope_sz, List.length_append, List.length_cons, List.length_nil, List.length_take, List.length_drop, List.length_set]; omega) | decide) (by first | assumption | omega | (simp only [maxLen, kU8_sz, kSl_sz, k_quaestorlaw03_Deed_sz, k_quaestorlaw03_Size_sz, k_authn_pair_sz, k_api_Envelope_sz]; omega) | (simp only [maxLen, kU8_sz, kSl_sz, k_quaestorlaw03_Deed_sz, k_quaestorlaw03_Size_sz, k_authn_pair_sz, k_api_Envelope_sz, List.length_append, List.length_cons, List.length_nil, List.length_take, List.length_drop, List.length_set]; omega) | decide) (by first | assumption | omega | (simp only [maxLen, kU8_sz, kSl_sz, k_quaestorlaw03_Deed_sz, k_quaestorlaw03_Size_sz, k_authn_pair_sz, k_api_Envelope_sz]; omega) | (simp only [maxLen, kU8_sz, kSl_sz, k_quaestorlaw03_Deed_sz, k_quaestorlaw03_Size_sz, k_authn_pair_sz, k_api_Envelope_sz, List.length_append, List.length_cons, List.length_nil, List.length_take, List.length_drop, List.length_set]; omega) | decide)) Try.func50 rfl (by decide) [0, 1] [] (l := [(.tmp 5, pv 0 0), (.tmp 6, dv (.int .i64 s))]) [] rfl 2 2 rfl rfl rfl rfl rfl rfl rfl rfl rfl ⟨.inl ⟨rfl, rfl⟩, ⟨.inl ⟨rfl, rfl⟩, trivial⟩⟩ rfl (fun b hb => by cases hb) (.inl rfl) (lt_of rfl) trivial))
    (oC (oS rfl rfl (r_un (u := .bool (decide (isClient u s))) (v := .bool (!(decide (isClient u s)))) u_not (lt_of rfl) trivial)) (oZ rfl)))))
    (by kernel_rfl) (by kernel_rfl) ?_
  refine nT ?_
  by_cases hq1 : isClient u s
  · have hcl : 1000 ≤ s := by have h' := hq1; simp only [isClient] at h'; omega
    refine T.condF (b := (!(decide (isClient u s)))) rfl (congrArg Bool.not (decide_eq_true hq1)) ?_
    refine T.skip ?_
    refine nT ?_
    refine T.seq ?_
    refine tR (s1 := ⟨[pv 0 0, dv (.int .i64 s), AV.any, AV.any, dv (.int .i64 ((s - 1000) % 4)), AV.any, AV.any, AV.any, dv (.bool (!(decide (isClient u s))))], [.live (.box 58 [.d (.val (.int .i64 (3 * f + 1))), .d (.val (.int .i64 u)), .mref 1]), .live (mpK f_authn_pair kBool rows)]⟩) [true, true, false, false, true, false, false, false, true] [true, true]
      (oC (oS rfl rfl (r_move (av := dv (.int .i64 s)) (lt_of rfl) trivial))
      (oC (oS rfl rfl (r_bin (u1 := .int .i64 s) (u2 := .int .i64 1000) (v := .int .i64 (s - 1000)) (b_sub (by rw [IntKind.wrap_i64]; omega)) (lt_of rfl) ⟨rfl, trivial⟩))
      (oC (oS rfl rfl (r_bin (u1 := .int .i64 (s - 1000)) (u2 := .int .i64 4) (v := .int .i64 ((s - 1000) % 4)) (b_remP (by first | assumption | omega | (simp only [maxLen, kU8_sz, kSl_sz, k_quaestorlaw03_Deed_sz, k_quaestorlaw03_Size_sz, k_authn_pair_sz, k_api_Envelope_sz]; omega) | (simp only [maxLen, kU8_sz, kSl_sz, k_quaestorlaw03_Deed_sz, k_quaestorlaw03_Size_sz, k_authn_pair_sz, k_api_Envelope_sz, List.length_append, List.length_cons, List.length_nil, List.length_take, List.length_drop, List.length_set]; omega) | decide) (by first | assumption | omega | (simp only [maxLen, kU8_sz, kSl_sz, k_quaestorlaw03_Deed_sz, k_quaestorlaw03_Size_sz, k_authn_pair_sz, k_api_Envelope_sz]; omega) | (simp only [maxLen, kU8_sz, kSl_sz, k_quaestorlaw03_Deed_sz, k_quaestorlaw03_Size_sz, k_authn_pair_sz, k_api_Envelope_sz, List.length_append, List.length_cons, List.length_nil, List.length_take, List.length_drop, List.length_set]; omega) | decide)) (lt_of rfl) ⟨rfl, trivial⟩))
      (oC (oS rfl rfl (r_assign (av := dv (.int .i64 ((s - 1000) % 4))) (lt_of rfl) trivial)) (oZ rfl)))))
      (by kernel_rfl) (by kernel_rfl) ?_
    refine nT ?_
    refine T.ret ?_
    exact tE (.inl rfl) [.t 4 (.one (.d (.val (.int .i64 ((s - 1000) % 4)))))] ⟨⟨rfl, rfl⟩, trivial⟩ [0, 1] (by have e1 : ((orgA u s) : Int) = (s - 1000) % 4 := (by first | rfl | omega | (simp [isKnown, orgA, *]; done) | (simp [isClient, isReplica, isKnown, primaryA, orgA, *]; done) | (simp only [primaryA, orgA]; first | rw [if_pos (by omega)] | rw [if_neg (by omega)])); have hE := congrArg (fun (q1 : Int) => (dv (.int .i64 q1) : AV)) e1; exact hE) rfl rfl rfl rfl rfl ⟨⟨rfl, rfl⟩, ⟨⟨rfl, rfl⟩, trivial⟩⟩
  · refine T.condT (b := (!(decide (isClient u s)))) rfl (congrArg Bool.not (decide_eq_false hq1)) ?_
    refine T.seq ?_
    refine tR (s1 := ⟨[pv 0 0, dv (.int .i64 s), AV.any, AV.any, dv (.int .i64 (-1)), AV.any, AV.any, AV.any, dv (.bool (!(decide (isClient u s))))], [.live (.box 58 [.d (.val (.int .i64 (3 * f + 1))), .d (.val (.int .i64 u)), .mref 1]), .live (mpK f_authn_pair kBool rows)]⟩) [true, true, false, false, true, false, false, false, true] [true, true]
      (oC (oS rfl rfl (r_assign (av := dv (.int .i64 (-1))) (lt_of rfl) ⟨rfl, trivial⟩)) (oZ rfl))
      (by kernel_rfl) (by kernel_rfl) ?_
    refine nT ?_
    refine T.ret ?_
    refine rT ?_
    exact tE (.inl rfl) [.t 4 (.one (.d (.val (.int .i64 (-1)))))] ⟨⟨rfl, rfl⟩, trivial⟩ [0, 1] (by have e1 : ((orgA u s) : Int) = (-1) := (by first | rfl | omega | (simp [isKnown, orgA, *]; done) | (simp [isClient, isReplica, isKnown, primaryA, orgA, *]; done) | (simp only [primaryA, orgA]; first | rw [if_pos (by omega)] | rw [if_neg (by omega)])); have hE := congrArg (fun (q1 : Int) => (dv (.int .i64 q1) : AV)) e1; exact hE) rfl rfl rfl rfl rfl ⟨⟨rfl, rfl⟩, ⟨⟨rfl, rfl⟩, trivial⟩⟩

theorem fld_58_2 : FieldAt Try.prog 58 2 2 := ⟨_, _, _, Try.underlying58, rfl, iat_56, by decide, rfl⟩
theorem wide_56 : Wide Try.prog 56 none := ⟨_, Try.underlying56, (fun _ h => by cases h), (fun _ _ h => by cases h)⟩
-- (*quaestor/authn.Authority).Signed
theorem authn_Signed (f : Int) (u : Int) (rows : List (authn_pair × Bool)) (hf : 0 ≤ f ∧ f ≤ 2) (hu : 0 ≤ u ∧ u ≤ 8) : Holds Try.prog 17 ⟨[pv 0 0], [.box 58 [.d (.val (.int .i64 (3 * f + 1))), .d (.val (.int .i64 u)), .mref 1], mpK f_authn_pair kBool rows], dv (.int .i64 ((rows.length : Nat) : Int)), [.live (.box 58 [.d (.val (.int .i64 (3 * f + 1))), .d (.val (.int .i64 u)), .mref 1]), .live (mpK f_authn_pair kBool rows)]⟩ := by
  refine Holds.of Try.func17 rfl (N := 10) Try.ntmps17 rfl fun w0 B0 S0 U0 => ?_
  show T _ (mkBase 10 2 w0 S0 U0 B0) ⟨[pv 0 0], [.live (.box 58 [.d (.val (.int .i64 (3 * f + 1))), .d (.val (.int .i64 u)), .mref 1]), .live (mpK f_authn_pair kBool rows)]⟩ _ _
  refine T.seq ?_
  refine tR (s1 := ⟨[pv 0 0, AV.any, dv (.int .i64 0)], [.live (.box 58 [.d (.val (.int .i64 (3 * f + 1))), .d (.val (.int .i64 u)), .mref 1]), .live (mpK f_authn_pair kBool rows)]⟩) [true, false, true] [true, true]
    (oC (oS rfl rfl (r_assign (av := dv (.int .i64 0)) (lt_of rfl) ⟨rfl, trivial⟩)) (oZ rfl))
    (by kernel_rfl) (by kernel_rfl) ?_
  refine nT ?_
  refine T.seq ?_
  refine T.seq ?_
  refine tR (s1 := ⟨[pv 0 0, AV.any, dv (.int .i64 0), AV.any, dv (.bool false)], [.live (.box 58 [.d (.val (.int .i64 (3 * f + 1))), .d (.val (.int .i64 u)), .mref 1]), .live (mpK f_authn_pair kBool rows)]⟩) [true, false, true, false, true] [true, true]
    (oC (oS rfl rfl (r_move (av := pv 0 0) (lt_of rfl) trivial))
    (oC (oS rfl rfl (r_eqNilP (av := pv 0 0) Try.underlying29 rfl (lt_of rfl) ⟨rfl, trivial⟩)) (oZ rfl)))
    (by kernel_rfl) (by kernel_rfl) ?_
  refine nT ?_
  refine T.condF (b := false) rfl rfl ?_
  refine T.skip ?_
  refine nT ?_
  refine T.seq ?_
  refine tR (s1 := ⟨[pv 0 0, AV.any, dv (.int .i64 ((rows.length : Nat) : Int)), AV.any, dv (.bool false)], [.live (.box 58 [.d (.val (.int .i64 (3 * f + 1))), .d (.val (.int .i64 u)), .mref 1]), .live (mpK f_authn_pair kBool rows)]⟩) [true, false, true, false, true] [true, true]
    (oC (oS rfl rfl (r_move (av := pv 0 0) (lt_of rfl) trivial))
    (oC (oS rfl rfl (r_nilCheck (av := pv 0 0) rfl (lt_of rfl) trivial))
    (oC (oS rfl rfl (r_fieldAddr (l := 0) (off := 0) fld_58_2 (lt_of rfl) trivial))
    (oC (oS rfl rfl (r_loadB (l := 0) (off := 2) (T := 58) (cs := [.d (.val (.int .i64 (3 * f + 1))), .d (.val (.int .i64 u)), .mref 1]) (c := .mref 1) wide_56 rfl (lt_of rfl) trivial))
    (oC (oS rfl rfl (r_lenM 1 rows (f := f_authn_pair) (kd := kBool) Try.underlying56 (lt_of rfl) trivial))
    (oC (oS rfl rfl (r_assign (av := dv (.int .i64 ((rows.length : Nat) : Int))) (lt_of rfl) trivial)) (oZ rfl)))))))
    (by kernel_rfl) (by kernel_rfl) ?_
  refine nT ?_
  refine T.ret ?_
  exact tE (.inl rfl) [.t 2 (.one (.d (.val (.int .i64 ((rows.length : Nat) : Int)))))] ⟨⟨rfl, rfl⟩, trivial⟩ [0, 1] rfl rfl rfl rfl rfl rfl ⟨⟨rfl, rfl⟩, ⟨⟨rfl, rfl⟩, trivial⟩⟩

theorem iat_32 : Try.prog.info? 32 = some Try.t32 := by kernel_rfl
theorem zero_32 : Zero Try.prog 32 [.int .i64 0, .slice none 0 0] := ⟨_, _, iat_32, rfl, rfl⟩
theorem iat_25 : Try.prog.info? 25 = some Try.t25 := by kernel_rfl
theorem places_32 : Places Try.prog 32 [(0, 1), (1, 1)] := ⟨_, Try.underlying32, ⟨⟨rfl, _, iat_3, rfl⟩, ⟨⟨rfl, _, iat_25, rfl⟩, trivial⟩⟩⟩
theorem cells_32 : Cells Try.prog 32 2 := ⟨_, iat_32, rfl⟩
theorem wide_32 : Wide Try.prog 32 (some 2) := ⟨_, _, Try.underlying32, .inl ⟨_, rfl⟩, iat_32, rfl⟩
theorem iat_61 : Try.prog.info? 61 = some Try.t61 := by kernel_rfl
theorem zero_61 : Zero Try.prog 61 [.int .i64 0, strV []] := ⟨_, _, iat_61, rfl, rfl⟩
theorem iat_9 : Try.prog.info? 9 = some Try.t9 := by kernel_rfl
theorem places_61 : Places Try.prog 61 [(0, 1), (1, 1)] := ⟨_, Try.underlying61, ⟨⟨rfl, _, iat_3, rfl⟩, ⟨⟨rfl, _, iat_9, rfl⟩, trivial⟩⟩⟩
-- (*quaestor/authn.Authority).Sign
theorem authn_Sign_o (f : Int) (u : Int) (rows : List (authn_pair × Bool)) (s : Int) (tb : Bool) (nb : Bool) (b : List UInt8) (hf : 0 ≤ f ∧ f ≤ 2) (hu : 0 ≤ u ∧ u ≤ 8) (hs : -9223372036854775808 ≤ s ∧ s ≤ 9223372036854775807) (hb : b.length ≤ 140737488355328) : Holds Try.prog 12 ⟨[pv 0 0, dv (.int .i64 s), slV tb nb kU8 b], [.box 58 [.d (.val (.int .i64 (3 * f + 1))), .d (.val (.int .i64 u)), .mref 1], mpK f_authn_pair kBool rows], .tup [.agg [.d (.val (.int .i64 (signV f u s b).f_Signer)), .own 2 kU8.sz 0 (signV f u s b).f_Body.length], .one (.d (.val (.int .i64 (signE f u s b))))], [.live (.box 58 [.d (.val (.int .i64 (3 * f + 1))), .d (.val (.int .i64 u)), .mref 1]), .live (mpK f_authn_pair kBool (signT f u rows s b)), .live (arrK 5 kU8 (signV f u s b).f_Body)]⟩ := by
  refine Holds.of Try.func12 rfl (N := 31) Try.ntmps12 rfl fun w0 B0 S0 U0 => ?_
  show T _ (mkBase 31 2 w0 S0 U0 B0) ⟨[pv 0 0, dv (.int .i64 s), slV tb nb kU8 b], [.live (.box 58 [.d (.val (.int .i64 (3 * f + 1))), .d (.val (.int .i64 u)), .mref 1]), .live (mpK f_authn_pair kBool rows)]⟩ _ _
  refine T.seq ?_
  refine tR (s1 := ⟨[pv 0 0, dv (.int .i64 s), slV tb nb kU8 b, AV.any, AV.any, AV.any, pv 2 0, dv (.int .i64 0)], [.live (.box 58 [.d (.val (.int .i64 (3 * f + 1))), .d (.val (.int .i64 u)), .mref 1]), .live (mpK f_authn_pair kBool rows), .live (.box 32 [.d (.val (.int .i64 0)), .d (.val (.slice none 0 0))])]⟩) [true, true, true, false, false, false, true, true] [true, true, true]
    (oC (oS rfl rfl (r_alloc (l := 2) zero_32 (lt_of rfl)))
    (oC (oS rfl rfl (r_assign (av := dv (.int .i64 0)) (lt_of rfl) ⟨rfl, trivial⟩)) (oZ rfl)))
    (by kernel_rfl) (by kernel_rfl) ?_
  refine nT ?_
  refine T.seq ?_
  refine T.block ?_
  refine T.seq ?_
  refine tR (s1 := ⟨[pv 0 0, dv (.int .i64 s), slV tb nb kU8 b, AV.any, AV.any, AV.any, pv 2 0, dv (.int .i64 0), dv (.bool (!(decide (isKnown f u s))))], [.live (.box 58 [.d (.val (.int .i64 (3 * f + 1))), .d (.val (.int .i64 u)), .mref 1]), .live (mpK f_authn_pair kBool rows), .live (.box 32 [.d (.val (.int .i64 0)), .d (.val (.slice none 0 0))])]⟩) [true, true, true, false, false, false, true, true, true] [true, true, true]
    (oC (oS rfl rfl (r_move (av := pv 0 0) (lt_of rfl) trivial))
    (oC (oS rfl rfl (r_move (av := dv (.int .i64 s)) (lt_of rfl) trivial))
    (oC (oS rfl rfl (r_call (authn_Known f u rows s (by first | assumption | omega | (simp only [maxLen, kU8_sz, kSl_sz, k_quaestorlaw03_Deed_sz, k_quaestorlaw03_Size_sz, k_authn_pair_sz, k_api_Envelope_sz]; omega) | (simp only [maxLen, kU8_sz, kSl_sz, k_quaestorlaw03_Deed_sz, k_quaestorlaw03_Size_sz, k_authn_pair_sz, k_api_Envelope_sz, List.length_append, List.length_cons, List.length_nil, List.length_take, List.length_drop, List.length_set]; omega) | decide) (by first | assumption | omega | (simp only [maxLen, kU8_sz, kSl_sz, k_quaestorlaw03_Deed_sz, k_quaestorlaw03_Size_sz, k_authn_pair_sz, k_api_Envelope_sz]; omega) | (simp only [maxLen, kU8_sz, kSl_sz, k_quaestorlaw03_Deed_sz, k_quaestorlaw03_Size_sz, k_authn_pair_sz, k_api_Envelope_sz, List.length_append, List.length_cons, List.length_nil, List.length_take, List.length_drop, List.length_set]; omega) | decide) (by first | assumption | omega | (simp only [maxLen, kU8_sz, kSl_sz, k_quaestorlaw03_Deed_sz, k_quaestorlaw03_Size_sz, k_authn_pair_sz, k_api_Envelope_sz]; omega) | (simp only [maxLen, kU8_sz, kSl_sz, k_quaestorlaw03_Deed_sz, k_quaestorlaw03_Size_sz, k_authn_pair_sz, k_api_Envelope_sz, List.length_append, List.length_cons, List.length_nil, List.length_take, List.length_drop, List.length_set]; omega) | decide)) Try.func31 rfl (by decide) [0, 1] [] (l := [(.tmp 9, pv 0 0), (.tmp 10, dv (.int .i64 s))]) [] rfl 2 2 rfl rfl rfl rfl rfl rfl rfl rfl rfl ⟨.inl ⟨rfl, rfl⟩, ⟨.inl ⟨rfl, rfl⟩, trivial⟩⟩ rfl (fun b hb => by cases hb) (.inl rfl) (lt_of rfl) trivial))
    (oC (oS rfl rfl (r_un (u := .bool (decide (isKnown f u s))) (v := .bool (!(decide (isKnown f u s)))) u_not (lt_of rfl) trivial))
    (oC (oS rfl rfl (r_assign (av := dv (.bool (!(decide (isKnown f u s))))) (lt_of rfl) trivial)) (oZ rfl))))))
    (by kernel_rfl) (by kernel_rfl) ?_
  refine nT ?_
  by_cases hq1 : isKnown f u s
  · refine T.condF (b := (!(decide (isKnown f u s)))) rfl (congrArg Bool.not (decide_eq_true hq1)) ?_
    refine T.seq ?_
    refine tR (s1 := ⟨[pv 0 0, dv (.int .i64 s), slV tb nb kU8 b, AV.any, AV.any, AV.any, pv 2 0, dv (.int .i64 0), dv (.bool (!(decide (isKnown f u s)))), AV.any, AV.any, AV.any, AV.any, AV.any, dv (.bool (decide (((b.length : Nat) : Int) > 16777216)))], [.live (.box 58 [.d (.val (.int .i64 (3 * f + 1))), .d (.val (.int .i64 u)), .mref 1]), .live (mpK f_authn_pair kBool rows), .live (.box 32 [.d (.val (.int .i64 0)), .d (.val (.slice none 0 0))])]⟩) [true, true, true, false, false, false, true, true, true, false, false, false, false, false, true] [true, true, true]
      (oC (oS rfl rfl (r_move (av := slV tb nb kU8 b) (lt_of rfl) trivial))
      (oC (oS rfl rfl (q_len tb nb kU8 b Try.underlying25 (lt_of rfl) trivial))
      (oC (oS rfl rfl (r_bin (u1 := .int .i64 ((b.length : Nat) : Int)) (u2 := .int .i64 16777216) (v := .bool (decide (((b.length : Nat) : Int) > 16777216))) b_gtr (lt_of rfl) ⟨rfl, trivial⟩))
      (oC (oS rfl rfl (r_assign (av := dv (.bool (decide (((b.length : Nat) : Int) > 16777216)))) (lt_of rfl) trivial)) (oZ rfl)))))
      (by kernel_rfl) (by kernel_rfl) ?_
    refine nT ?_
    by_cases hq2 : ((b.length : Nat) : Int) > 16777216
    · refine T.condT (b := (decide (((b.length : Nat) : Int) > 16777216))) rfl (decide_eq_true hq2) ?_
      refine T.seq ?_
      refine tR (s1 := ⟨[pv 0 0, dv (.int .i64 s), slV tb nb kU8 b, AV.any, AV.any, AV.any, pv 2 0, dv (.int .i64 11), dv (.bool (!(decide (isKnown f u s)))), AV.any, AV.any, AV.any, AV.any, AV.any, dv (.bool (decide (((b.length : Nat) : Int) > 16777216)))], [.live (.box 58 [.d (.val (.int .i64 (3 * f + 1))), .d (.val (.int .i64 u)), .mref 1]), .live (mpK f_authn_pair kBool rows), .live (.box 32 [.d (.val (.int .i64 0)), .d (.val (.slice none 0 0))])]⟩) [true, true, true, false, false, false, true, true, true, false, false, false, false, false, true] [true, true, true]
        (oC (oS rfl rfl (r_build (ps := []) (cs := [.d (.val (.int .i64 0)), .d (.val (.slice none 0 0))]) zero_32 places_32 rfl part_ok rfl (lt_of rfl) trivial))
        (oC (oS rfl rfl (r_store (l := 2) (off := 0) (n := 2) (T := 32) (cs := [.d (.val (.int .i64 0)), .d (.val (.slice none 0 0))]) (cs' := [.d (.val (.int .i64 0)), .d (.val (.slice none 0 0))]) (tv := .agg [.d (.val (.int .i64 0)), .d (.val (.slice none 0 0))]) cells_32 rfl (Nat.le_of_ble_eq_true rfl) rfl rfl trivial))
        (oC (oS rfl rfl (r_assign (av := dv (.int .i64 11)) (lt_of rfl) ⟨rfl, trivial⟩)) (oZ rfl))))
        (by kernel_rfl) (by kernel_rfl) ?_
      refine nT ?_
      refine T.ret ?_
      refine rB ?_
      refine rT ?_
      refine Ends.turn (s' := ⟨[pv 0 0, dv (.int .i64 s), slV tb nb kU8 b, AV.any, AV.any, AV.any, pv 2 0, dv (.int .i64 11), dv (.bool (!(decide (isKnown f u s)))), AV.any, AV.any, AV.any, AV.any, AV.any, dv (.bool (decide (((b.length : Nat) : Int) > 16777216)))], [.live (.box 58 [.d (.val (.int .i64 (3 * f + 1))), .d (.val (.int .i64 u)), .mref 1]), .live (mpK f_authn_pair kBool rows), .live (.box 32 [.d (.val (.int .i64 0)), .own 3 kU8.sz 0 0]), .live (arrK 5 kU8 ([] : List UInt8))]⟩) (fun _ _ hG => Gs.absentB 3 2 1 5 kU8 (Tb := 32) (cs := [.d (.val (.int .i64 0)), .d (.val (.slice none 0 0))]) rfl rfl rfl hG) ?_
      exact tE (.inl rfl) [.c 6 2 32 0 32 [.d (.val (.int .i64 0)), .own 3 kU8.sz 0 0] (.agg [.d (.val (.int .i64 0)), .own 3 kU8.sz 0 0]), .t 7 (.one (.d (.val (.int .i64 11))))] ⟨⟨rfl, rfl, rfl, rfl, .inl ⟨2, wide_32, rfl, Nat.le_of_ble_eq_true rfl⟩⟩, ⟨⟨rfl, rfl⟩, trivial⟩⟩ [0, 1, 3] (by have e1 : ((signV f u s b).f_Signer : Int) = 0 := (by first | rfl | (simp [signE, signV, signT, z_api_Envelope, *]; done)); have e2 : ((signV f u s b).f_Body.length : Nat) = 0 := (by first | rfl | (simp [signE, signV, signT, z_api_Envelope, *]; done)); have e3 : ((signE f u s b) : Int) = 11 := (by first | rfl | (simp [signE, signV, signT, z_api_Envelope, *]; done)); have hE := congr (congr (congrArg (fun (q1 : Int) (q2 : Nat) (q3 : Int) => (.tup [.agg [.d (.val (.int .i64 q1)), .own 3 kU8.sz 0 q2], .one (.d (.val (.int .i64 q3)))] : AV)) e1) e2) e3; exact hE) rfl rfl rfl rfl rfl ⟨⟨rfl, rfl⟩, ⟨⟨rfl, (by have e1 : (rows : List (authn_pair × Bool)) = (signT f u rows s b) := (by first | rfl | (simp [signE, signV, signT, z_api_Envelope, *]; done)); have hE := congrArg (fun (q1 : List (authn_pair × Bool)) => (.live (mpK f_authn_pair kBool q1) : HS)) e1; exact hE)⟩, ⟨⟨rfl, (by have e1 : (([] : List UInt8) : List UInt8) = (signV f u s b).f_Body := (by first | rfl | (simp [signE, signV, signT, z_api_Envelope, *]; done)); have hE := congrArg (fun (q1 : List UInt8) => (.live (arrK 5 kU8 q1) : HS)) e1; exact hE)⟩, trivial⟩⟩⟩
    · refine T.condF (b := (decide (((b.length : Nat) : Int) > 16777216))) rfl (decide_eq_false hq2) ?_
      refine T.skip ?_
      refine nB ?_
      refine nT ?_
      refine T.seq ?_
      refine tD (s1 := ⟨[pv 0 0, dv (.int .i64 s), slV tb nb kU8 b, AV.any, AV.any, AV.any, pv 2 0, dv (.int .i64 0), dv (.bool (!(decide (isKnown f u s)))), AV.any, AV.any, AV.any, AV.any, AV.any, dv (.bool (decide (((b.length : Nat) : Int) > 16777216)))], [.live (.box 58 [.d (.val (.int .i64 (3 * f + 1))), .d (.val (.int .i64 u)), .mref 1]), .live (mpK f_authn_pair kBool (mput rows (authn_pair.mk s b) true)), .live (.box 32 [.d (.val (.int .i64 0)), .d (.val (.slice none 0 0))])]⟩) (by kernel_rfl) [[], [0], [0, 1], [0, 1, 2], [], [], [5], [4, 5, 6], [0, 1, 2, 3, 4, 5, 6, 7]] [true, true, true, false, false, false, true, true, true, false, false, false, false, false, true] [true, true, true]
        (oC (oS rfl rfl (r_move (av := pv 0 0) (lt_of rfl) trivial))
        (oC (oS rfl rfl (r_nilCheck (av := pv 0 0) rfl (lt_of rfl) trivial))
        (oC (oS rfl rfl (r_fieldAddr (l := 0) (off := 0) fld_58_2 (lt_of rfl) trivial))
        (oC (oS rfl rfl (r_loadB (l := 0) (off := 2) (T := 58) (cs := [.d (.val (.int .i64 (3 * f + 1))), .d (.val (.int .i64 u)), .mref 1]) (c := .mref 1) wide_56 rfl (lt_of rfl) trivial))
        (oC (oS rfl rfl (r_move (av := dv (.int .i64 s)) (lt_of rfl) trivial))
        (oC (oS rfl rfl (r_move (av := slV tb nb kU8 b) (lt_of rfl) trivial))
        (oC (oS rfl rfl (q_strOf () b (ys := (.d (dsl tb nb kU8 b))) (rhs := []) Try.underlying25 Try.underlying5 Try.underlying9 (src_sl tb nb kU8 b) (lt_of rfl) trivial))
        (oC (oS rfl rfl (r_build (ps := [⟨0, .tmp 23, .one (.d (.val (.int .i64 s))), 0⟩, ⟨1, .tmp 25, .one (.d (.val (strV b))), 1⟩]) (cs := [.d (.val (.int .i64 s)), .d (.val (strV b))]) zero_61 places_61 rfl (part_cons rfl rfl (Nat.le_of_ble_eq_true rfl) (part_cons rfl rfl (Nat.le_of_ble_eq_true rfl) part_ok)) rfl (lt_of rfl) trivial))
        (oC (oS rfl rfl (r_mapUpdate 1 rows (authn_pair.mk s b) true (kd := kBool) (ak := .tv (.agg [.d (.val (.int .i64 s)), .d (.val (strV b))])) (tv := .one (.d (.val (.bool true)))) Try.underlying56 mkey_authn_pair ⟨[.int .i64 s, strV b], rfl, rfl⟩ rfl ⟨(.inl rfl), trivial⟩ ⟨rfl, trivial⟩)) (oZ rfl))))))))))
        (by kernel_rfl) (by kernel_rfl) (by kernel_rfl) (by kernel_rfl) (by kernel_rfl) ?_
      refine nT ?_
      refine T.seq ?_
      refine tR (s1 := ⟨[pv 0 0, dv (.int .i64 s), slV tb nb kU8 b, AV.any, AV.any, AV.any, pv 2 0, dv (.int .i64 0), dv (.bool (!(decide (isKnown f u s)))), AV.any, AV.any, AV.any, AV.any, AV.any, dv (.bool (decide (((b.length : Nat) : Int) > 16777216)))], [.live (.box 58 [.d (.val (.int .i64 (3 * f + 1))), .d (.val (.int .i64 u)), .mref 1]), .live (mpK f_authn_pair kBool (mput rows (authn_pair.mk s b) true)), .live (.box 32 [.d (.val (.int .i64 s)), .own 3 kU8.sz 0 b.length]), .live (arrK 5 kU8 b)]⟩) [true, true, true, false, false, false, true, true, true, false, false, false, false, false, true] [true, true, true, true]
        (oC (oS rfl rfl (r_move (av := dv (.int .i64 s)) (lt_of rfl) trivial))
        (oC (oS rfl rfl (r_move (av := slV tb nb kU8 b) (lt_of rfl) trivial))
        (oC (oS rfl rfl (r_call (clone_u8 tb nb b (by first | assumption | omega | (simp only [maxLen, kU8_sz, kSl_sz, k_quaestorlaw03_Deed_sz, k_quaestorlaw03_Size_sz, k_authn_pair_sz, k_api_Envelope_sz]; omega) | (simp only [maxLen, kU8_sz, kSl_sz, k_quaestorlaw03_Deed_sz, k_quaestorlaw03_Size_sz, k_authn_pair_sz, k_api_Envelope_sz, List.length_append, List.length_cons, List.length_nil, List.length_take, List.length_drop, List.length_set]; omega) | decide)) Try.func32 rfl (by decide) [3] [] (l := [(.tmp 28, slV tb nb kU8 b)]) [] rfl 0 1 rfl rfl rfl rfl rfl rfl rfl rfl rfl ⟨.inl ⟨rfl, rfl⟩, trivial⟩ rfl (fun b hb => by cases hb) (.inl rfl) (lt_of rfl) trivial))
        (oC (oS rfl rfl (r_build (ps := [⟨0, .tmp 27, .one (.d (.val (.int .i64 s))), 0⟩, ⟨1, .tmp 29, .one (.own 3 kU8.sz 0 b.length), 1⟩]) (cs := [.d (.val (.int .i64 s)), .own 3 kU8.sz 0 b.length]) zero_32 places_32 rfl (part_cons rfl rfl (Nat.le_of_ble_eq_true rfl) (part_cons rfl rfl (Nat.le_of_ble_eq_true rfl) part_ok)) rfl (lt_of rfl) trivial))
        (oC (oS rfl rfl (r_store (l := 2) (off := 0) (n := 2) (T := 32) (cs := [.d (.val (.int .i64 0)), .d (.val (.slice none 0 0))]) (cs' := [.d (.val (.int .i64 s)), .own 3 kU8.sz 0 b.length]) (tv := .agg [.d (.val (.int .i64 s)), .own 3 kU8.sz 0 b.length]) cells_32 rfl (Nat.le_of_ble_eq_true rfl) rfl rfl trivial))
        (oC (oS rfl rfl (r_assign (av := dv (.int .i64 0)) (lt_of rfl) ⟨rfl, trivial⟩)) (oZ rfl)))))))
        (by kernel_rfl) (by kernel_rfl) ?_
      refine nT ?_
      refine T.ret ?_
      exact tE (.inl rfl) [.c 6 2 32 0 32 [.d (.val (.int .i64 s)), .own 3 kU8.sz 0 b.length] (.agg [.d (.val (.int .i64 s)), .own 3 kU8.sz 0 b.length]), .t 7 (.one (.d (.val (.int .i64 0))))] ⟨⟨rfl, rfl, rfl, rfl, .inl ⟨2, wide_32, rfl, Nat.le_of_ble_eq_true rfl⟩⟩, ⟨⟨rfl, rfl⟩, trivial⟩⟩ [0, 1, 3] (by have e1 : ((signV f u s b).f_Signer : Int) = s := (by first | rfl | (simp [signE, signV, signT, z_api_Envelope, *]; done)); have e2 : ((signV f u s b).f_Body.length : Nat) = b.length := (by first | rfl | (simp [signE, signV, signT, z_api_Envelope, *]; done)); have e3 : ((signE f u s b) : Int) = 0 := (by first | rfl | (simp [signE, signV, signT, z_api_Envelope, *]; done)); have hE := congr (congr (congrArg (fun (q1 : Int) (q2 : Nat) (q3 : Int) => (.tup [.agg [.d (.val (.int .i64 q1)), .own 3 kU8.sz 0 q2], .one (.d (.val (.int .i64 q3)))] : AV)) e1) e2) e3; exact hE) rfl rfl rfl rfl rfl ⟨⟨rfl, rfl⟩, ⟨⟨rfl, (by have e1 : ((mput rows (authn_pair.mk s b) true) : List (authn_pair × Bool)) = (signT f u rows s b) := (by first | rfl | (simp [signE, signV, signT, z_api_Envelope, *]; done)); have hE := congrArg (fun (q1 : List (authn_pair × Bool)) => (.live (mpK f_authn_pair kBool q1) : HS)) e1; exact hE)⟩, ⟨⟨rfl, (by have e1 : (b : List UInt8) = (signV f u s b).f_Body := (by first | rfl | (simp [signE, signV, signT, z_api_Envelope, *]; done)); have hE := congrArg (fun (q1 : List UInt8) => (.live (arrK 5 kU8 q1) : HS)) e1; exact hE)⟩, trivial⟩⟩⟩
  · refine T.condT (b := (!(decide (isKnown f u s)))) rfl (congrArg Bool.not (decide_eq_false hq1)) ?_
    refine T.seq ?_
    refine tR (s1 := ⟨[pv 0 0, dv (.int .i64 s), slV tb nb kU8 b, AV.any, AV.any, AV.any, pv 2 0, dv (.int .i64 30), dv (.bool (!(decide (isKnown f u s))))], [.live (.box 58 [.d (.val (.int .i64 (3 * f + 1))), .d (.val (.int .i64 u)), .mref 1]), .live (mpK f_authn_pair kBool rows), .live (.box 32 [.d (.val (.int .i64 0)), .d (.val (.slice none 0 0))])]⟩) [true, true, true, false, false, false, true, true, true] [true, true, true]
      (oC (oS rfl rfl (r_build (ps := []) (cs := [.d (.val (.int .i64 0)), .d (.val (.slice none 0 0))]) zero_32 places_32 rfl part_ok rfl (lt_of rfl) trivial))
      (oC (oS rfl rfl (r_store (l := 2) (off := 0) (n := 2) (T := 32) (cs := [.d (.val (.int .i64 0)), .d (.val (.slice none 0 0))]) (cs' := [.d (.val (.int .i64 0)), .d (.val (.slice none 0 0))]) (tv := .agg [.d (.val (.int .i64 0)), .d (.val (.slice none 0 0))]) cells_32 rfl (Nat.le_of_ble_eq_true rfl) rfl rfl trivial))
      (oC (oS rfl rfl (r_assign (av := dv (.int .i64 30)) (lt_of rfl) ⟨rfl, trivial⟩)) (oZ rfl))))
      (by kernel_rfl) (by kernel_rfl) ?_
    refine nT ?_
    refine T.ret ?_
    refine rB ?_
    refine rT ?_
    refine Ends.turn (s' := ⟨[pv 0 0, dv (.int .i64 s), slV tb nb kU8 b, AV.any, AV.any, AV.any, pv 2 0, dv (.int .i64 30), dv (.bool (!(decide (isKnown f u s))))], [.live (.box 58 [.d (.val (.int .i64 (3 * f + 1))), .d (.val (.int .i64 u)), .mref 1]), .live (mpK f_authn_pair kBool rows), .live (.box 32 [.d (.val (.int .i64 0)), .own 3 kU8.sz 0 0]), .live (arrK 5 kU8 ([] : List UInt8))]⟩) (fun _ _ hG => Gs.absentB 3 2 1 5 kU8 (Tb := 32) (cs := [.d (.val (.int .i64 0)), .d (.val (.slice none 0 0))]) rfl rfl rfl hG) ?_
    exact tE (.inl rfl) [.c 6 2 32 0 32 [.d (.val (.int .i64 0)), .own 3 kU8.sz 0 0] (.agg [.d (.val (.int .i64 0)), .own 3 kU8.sz 0 0]), .t 7 (.one (.d (.val (.int .i64 30))))] ⟨⟨rfl, rfl, rfl, rfl, .inl ⟨2, wide_32, rfl, Nat.le_of_ble_eq_true rfl⟩⟩, ⟨⟨rfl, rfl⟩, trivial⟩⟩ [0, 1, 3] (by have e1 : ((signV f u s b).f_Signer : Int) = 0 := (by first | rfl | (simp [signE, signV, signT, z_api_Envelope, *]; done)); have e2 : ((signV f u s b).f_Body.length : Nat) = 0 := (by first | rfl | (simp [signE, signV, signT, z_api_Envelope, *]; done)); have e3 : ((signE f u s b) : Int) = 30 := (by first | rfl | (simp [signE, signV, signT, z_api_Envelope, *]; done)); have hE := congr (congr (congrArg (fun (q1 : Int) (q2 : Nat) (q3 : Int) => (.tup [.agg [.d (.val (.int .i64 q1)), .own 3 kU8.sz 0 q2], .one (.d (.val (.int .i64 q3)))] : AV)) e1) e2) e3; exact hE) rfl rfl rfl rfl rfl ⟨⟨rfl, rfl⟩, ⟨⟨rfl, (by have e1 : (rows : List (authn_pair × Bool)) = (signT f u rows s b) := (by first | rfl | (simp [signE, signV, signT, z_api_Envelope, *]; done)); have hE := congrArg (fun (q1 : List (authn_pair × Bool)) => (.live (mpK f_authn_pair kBool q1) : HS)) e1; exact hE)⟩, ⟨⟨rfl, (by have e1 : (([] : List UInt8) : List UInt8) = (signV f u s b).f_Body := (by first | rfl | (simp [signE, signV, signT, z_api_Envelope, *]; done)); have hE := congrArg (fun (q1 : List UInt8) => (.live (arrK 5 kU8 q1) : HS)) e1; exact hE)⟩, trivial⟩⟩⟩

-- (*quaestor/authn.Authority).Sign
theorem authn_Sign (f : Int) (u : Int) (rows : List (authn_pair × Bool)) (s : Int) (tb : Bool) (nb : Bool) (b : List UInt8) (hf : 0 ≤ f ∧ f ≤ 2) (hu : 0 ≤ u ∧ u ≤ 8) (hs : -9223372036854775808 ≤ s ∧ s ≤ 9223372036854775807) (hb : b.length ≤ 140737488355328) : Holds Try.prog 12 ⟨[pv 0 0, dv (.int .i64 s), slV tb nb kU8 b], [.box 58 [.d (.val (.int .i64 (3 * f + 1))), .d (.val (.int .i64 u)), .mref 1], mpK f_authn_pair kBool rows], .tup [.agg [.d (.val (.int .i64 (signV f u s b).f_Signer)), .d (dsl false false kU8 (signV f u s b).f_Body)], .one (.d (.val (.int .i64 (signE f u s b))))], [.live (.box 58 [.d (.val (.int .i64 (3 * f + 1))), .d (.val (.int .i64 u)), .mref 1]), .live (mpK f_authn_pair kBool (signT f u rows s b))]⟩ := by
  refine Holds.of Try.func12 rfl (N := 31) Try.ntmps12 rfl fun w0 B0 S0 U0 => ?_
  show T _ (mkBase 31 2 w0 S0 U0 B0) ⟨[pv 0 0, dv (.int .i64 s), slV tb nb kU8 b], [.live (.box 58 [.d (.val (.int .i64 (3 * f + 1))), .d (.val (.int .i64 u)), .mref 1]), .live (mpK f_authn_pair kBool rows)]⟩ _ _
  refine T.seq ?_
  refine tR (s1 := ⟨[pv 0 0, dv (.int .i64 s), slV tb nb kU8 b, AV.any, AV.any, AV.any, pv 2 0, dv (.int .i64 0)], [.live (.box 58 [.d (.val (.int .i64 (3 * f + 1))), .d (.val (.int .i64 u)), .mref 1]), .live (mpK f_authn_pair kBool rows), .live (.box 32 [.d (.val (.int .i64 0)), .d (.val (.slice none 0 0))])]⟩) [true, true, true, false, false, false, true, true] [true, true, true]
    (oC (oS rfl rfl (r_alloc (l := 2) zero_32 (lt_of rfl)))
    (oC (oS rfl rfl (r_assign (av := dv (.int .i64 0)) (lt_of rfl) ⟨rfl, trivial⟩)) (oZ rfl)))
    (by kernel_rfl) (by kernel_rfl) ?_
  refine nT ?_
  refine T.seq ?_
  refine T.block ?_
  refine T.seq ?_
  refine tR (s1 := ⟨[pv 0 0, dv (.int .i64 s), slV tb nb kU8 b, AV.any, AV.any, AV.any, pv 2 0, dv (.int .i64 0), dv (.bool (!(decide (isKnown f u s))))], [.live (.box 58 [.d (.val (.int .i64 (3 * f + 1))), .d (.val (.int .i64 u)), .mref 1]), .live (mpK f_authn_pair kBool rows), .live (.box 32 [.d (.val (.int .i64 0)), .d (.val (.slice none 0 0))])]⟩) [true, true, true, false, false, false, true, true, true] [true, true, true]
    (oC (oS rfl rfl (r_move (av := pv 0 0) (lt_of rfl) trivial))
    (oC (oS rfl rfl (r_move (av := dv (.int .i64 s)) (lt_of rfl) trivial))
    (oC (oS rfl rfl (r_call (authn_Known f u rows s (by first | assumption | omega | (simp only [maxLen, kU8_sz, kSl_sz, k_quaestorlaw03_Deed_sz, k_quaestorlaw03_Size_sz, k_authn_pair_sz, k_api_Envelope_sz]; omega) | (simp only [maxLen, kU8_sz, kSl_sz, k_quaestorlaw03_Deed_sz, k_quaestorlaw03_Size_sz, k_authn_pair_sz, k_api_Envelope_sz, List.length_append, List.length_cons, List.length_nil, List.length_take, List.length_drop, List.length_set]; omega) | decide) (by first | assumption | omega | (simp only [maxLen, kU8_sz, kSl_sz, k_quaestorlaw03_Deed_sz, k_quaestorlaw03_Size_sz, k_authn_pair_sz, k_api_Envelope_sz]; omega) | (simp only [maxLen, kU8_sz, kSl_sz, k_quaestorlaw03_Deed_sz, k_quaestorlaw03_Size_sz, k_authn_pair_sz, k_api_Envelope_sz, List.length_append, List.length_cons, List.length_nil, List.length_take, List.length_drop, List.length_set]; omega) | decide) (by first | assumption | omega | (simp only [maxLen, kU8_sz, kSl_sz, k_quaestorlaw03_Deed_sz, k_quaestorlaw03_Size_sz, k_authn_pair_sz, k_api_Envelope_sz]; omega) | (simp only [maxLen, kU8_sz, kSl_sz, k_quaestorlaw03_Deed_sz, k_quaestorlaw03_Size_sz, k_authn_pair_sz, k_api_Envelope_sz, List.length_append, List.length_cons, List.length_nil, List.length_take, List.length_drop, List.length_set]; omega) | decide)) Try.func31 rfl (by decide) [0, 1] [] (l := [(.tmp 9, pv 0 0), (.tmp 10, dv (.int .i64 s))]) [] rfl 2 2 rfl rfl rfl rfl rfl rfl rfl rfl rfl ⟨.inl ⟨rfl, rfl⟩, ⟨.inl ⟨rfl, rfl⟩, trivial⟩⟩ rfl (fun b hb => by cases hb) (.inl rfl) (lt_of rfl) trivial))
    (oC (oS rfl rfl (r_un (u := .bool (decide (isKnown f u s))) (v := .bool (!(decide (isKnown f u s)))) u_not (lt_of rfl) trivial))
    (oC (oS rfl rfl (r_assign (av := dv (.bool (!(decide (isKnown f u s))))) (lt_of rfl) trivial)) (oZ rfl))))))
    (by kernel_rfl) (by kernel_rfl) ?_
  refine nT ?_
  by_cases hq1 : isKnown f u s
  · refine T.condF (b := (!(decide (isKnown f u s)))) rfl (congrArg Bool.not (decide_eq_true hq1)) ?_
    refine T.seq ?_
    refine tR (s1 := ⟨[pv 0 0, dv (.int .i64 s), slV tb nb kU8 b, AV.any, AV.any, AV.any, pv 2 0, dv (.int .i64 0), dv (.bool (!(decide (isKnown f u s)))), AV.any, AV.any, AV.any, AV.any, AV.any, dv (.bool (decide (((b.length : Nat) : Int) > 16777216)))], [.live (.box 58 [.d (.val (.int .i64 (3 * f + 1))), .d (.val (.int .i64 u)), .mref 1]), .live (mpK f_authn_pair kBool rows), .live (.box 32 [.d (.val (.int .i64 0)), .d (.val (.slice none 0 0))])]⟩) [true, true, true, false, false, false, true, true, true, false, false, false, false, false, true] [true, true, true]
      (oC (oS rfl rfl (r_move (av := slV tb nb kU8 b) (lt_of rfl) trivial))
      (oC (oS rfl rfl (q_len tb nb kU8 b Try.underlying25 (lt_of rfl) trivial))
      (oC (oS rfl rfl (r_bin (u1 := .int .i64 ((b.length : Nat) : Int)) (u2 := .int .i64 16777216) (v := .bool (decide (((b.length : Nat) : Int) > 16777216))) b_gtr (lt_of rfl) ⟨rfl, trivial⟩))
      (oC (oS rfl rfl (r_assign (av := dv (.bool (decide (((b.length : Nat) : Int) > 16777216)))) (lt_of rfl) trivial)) (oZ rfl)))))
      (by kernel_rfl) (by kernel_rfl) ?_
    refine nT ?_
    by_cases hq2 : ((b.length : Nat) : Int) > 16777216
    · refine T.condT (b := (decide (((b.length : Nat) : Int) > 16777216))) rfl (decide_eq_true hq2) ?_
      refine T.seq ?_
      refine tR (s1 := ⟨[pv 0 0, dv (.int .i64 s), slV tb nb kU8 b, AV.any, AV.any, AV.any, pv 2 0, dv (.int .i64 11), dv (.bool (!(decide (isKnown f u s)))), AV.any, AV.any, AV.any, AV.any, AV.any, dv (.bool (decide (((b.length : Nat) : Int) > 16777216)))], [.live (.box 58 [.d (.val (.int .i64 (3 * f + 1))), .d (.val (.int .i64 u)), .mref 1]), .live (mpK f_authn_pair kBool rows), .live (.box 32 [.d (.val (.int .i64 0)), .d (.val (.slice none 0 0))])]⟩) [true, true, true, false, false, false, true, true, true, false, false, false, false, false, true] [true, true, true]
        (oC (oS rfl rfl (r_build (ps := []) (cs := [.d (.val (.int .i64 0)), .d (.val (.slice none 0 0))]) zero_32 places_32 rfl part_ok rfl (lt_of rfl) trivial))
        (oC (oS rfl rfl (r_store (l := 2) (off := 0) (n := 2) (T := 32) (cs := [.d (.val (.int .i64 0)), .d (.val (.slice none 0 0))]) (cs' := [.d (.val (.int .i64 0)), .d (.val (.slice none 0 0))]) (tv := .agg [.d (.val (.int .i64 0)), .d (.val (.slice none 0 0))]) cells_32 rfl (Nat.le_of_ble_eq_true rfl) rfl rfl trivial))
        (oC (oS rfl rfl (r_assign (av := dv (.int .i64 11)) (lt_of rfl) ⟨rfl, trivial⟩)) (oZ rfl))))
        (by kernel_rfl) (by kernel_rfl) ?_
      refine nT ?_
      refine T.ret ?_
      refine rB ?_
      refine rT ?_
      refine Ends.turn (s' := ⟨[pv 0 0, dv (.int .i64 s), slV tb nb kU8 b, AV.any, AV.any, AV.any, pv 2 0, dv (.int .i64 11), dv (.bool (!(decide (isKnown f u s)))), AV.any, AV.any, AV.any, AV.any, AV.any, dv (.bool (decide (((b.length : Nat) : Int) > 16777216)))], [.live (.box 58 [.d (.val (.int .i64 (3 * f + 1))), .d (.val (.int .i64 u)), .mref 1]), .live (mpK f_authn_pair kBool rows), .live (.box 32 [.d (.val (.int .i64 0)), .d (dsl false false kU8 ([] : List UInt8))])]⟩) (fun _ _ hG => Gs.less (s := ⟨[pv 0 0, dv (.int .i64 s), slV tb nb kU8 b, AV.any, AV.any, AV.any, pv 2 0, dv (.int .i64 11), dv (.bool (!(decide (isKnown f u s)))), AV.any, AV.any, AV.any, AV.any, AV.any, dv (.bool (decide (((b.length : Nat) : Int) > 16777216)))], [.live (.box 58 [.d (.val (.int .i64 (3 * f + 1))), .d (.val (.int .i64 u)), .mref 1]), .live (mpK f_authn_pair kBool rows), .live (.box 32 [.d (.val (.int .i64 0)), .d (.val (.slice none 0 0))])]⟩) ⟨(.inl rfl), ⟨(.inl rfl), ⟨(.inl rfl), ⟨(.inl rfl), ⟨(.inl rfl), ⟨(.inl rfl), ⟨(.inl rfl), ⟨(.inl rfl), ⟨(.inl rfl), ⟨(.inl rfl), ⟨(.inl rfl), ⟨(.inl rfl), ⟨(.inl rfl), ⟨(.inl rfl), ⟨(.inl rfl), trivial⟩⟩⟩⟩⟩⟩⟩⟩⟩⟩⟩⟩⟩⟩⟩ ⟨(.inl rfl), ⟨(.inl rfl), ⟨(.inr ⟨rfl, ⟨(.inl rfl), ⟨(.inr ⟨rfl, rfl, rfl⟩), trivial⟩⟩⟩), trivial⟩⟩⟩ hG) ?_
      exact tE (.inl rfl) [.c 6 2 32 0 32 [.d (.val (.int .i64 0)), .d (dsl false false kU8 ([] : List UInt8))] (.agg [.d (.val (.int .i64 0)), .d (dsl false false kU8 ([] : List UInt8))]), .t 7 (.one (.d (.val (.int .i64 11))))] ⟨⟨rfl, rfl, rfl, rfl, .inl ⟨2, wide_32, rfl, Nat.le_of_ble_eq_true rfl⟩⟩, ⟨⟨rfl, rfl⟩, trivial⟩⟩ [0, 1] (by have e1 : ((signV f u s b).f_Signer : Int) = 0 := (by first | rfl | (simp [signE, signV, signT, z_api_Envelope, *]; done)); have e2 : ((signV f u s b).f_Body : List UInt8) = ([] : List UInt8) := (by first | rfl | (simp [signE, signV, signT, z_api_Envelope, *]; done)); have e3 : ((signE f u s b) : Int) = 11 := (by first | rfl | (simp [signE, signV, signT, z_api_Envelope, *]; done)); have hE := congr (congr (congrArg (fun (q1 : Int) (q2 : List UInt8) (q3 : Int) => (.tup [.agg [.d (.val (.int .i64 q1)), .d (dsl false false kU8 q2)], .one (.d (.val (.int .i64 q3)))] : AV)) e1) e2) e3; exact hE) rfl rfl rfl rfl rfl ⟨⟨rfl, rfl⟩, ⟨⟨rfl, (by have e1 : (rows : List (authn_pair × Bool)) = (signT f u rows s b) := (by first | rfl | (simp [signE, signV, signT, z_api_Envelope, *]; done)); have hE := congrArg (fun (q1 : List (authn_pair × Bool)) => (.live (mpK f_authn_pair kBool q1) : HS)) e1; exact hE)⟩, trivial⟩⟩
    · refine T.condF (b := (decide (((b.length : Nat) : Int) > 16777216))) rfl (decide_eq_false hq2) ?_
      refine T.skip ?_
      refine nB ?_
      refine nT ?_
      refine T.seq ?_
      refine tD (s1 := ⟨[pv 0 0, dv (.int .i64 s), slV tb nb kU8 b, AV.any, AV.any, AV.any, pv 2 0, dv (.int .i64 0), dv (.bool (!(decide (isKnown f u s)))), AV.any, AV.any, AV.any, AV.any, AV.any, dv (.bool (decide (((b.length : Nat) : Int) > 16777216)))], [.live (.box 58 [.d (.val (.int .i64 (3 * f + 1))), .d (.val (.int .i64 u)), .mref 1]), .live (mpK f_authn_pair kBool (mput rows (authn_pair.mk s b) true)), .live (.box 32 [.d (.val (.int .i64 0)), .d (.val (.slice none 0 0))])]⟩) (by kernel_rfl) [[], [0], [0, 1], [0, 1, 2], [], [], [5], [4, 5, 6], [0, 1, 2, 3, 4, 5, 6, 7]] [true, true, true, false, false, false, true, true, true, false, false, false, false, false, true] [true, true, true]
        (oC (oS rfl rfl (r_move (av := pv 0 0) (lt_of rfl) trivial))
        (oC (oS rfl rfl (r_nilCheck (av := pv 0 0) rfl (lt_of rfl) trivial))
        (oC (oS rfl rfl (r_fieldAddr (l := 0) (off := 0) fld_58_2 (lt_of rfl) trivial))
        (oC (oS rfl rfl (r_loadB (l := 0) (off := 2) (T := 58) (cs := [.d (.val (.int .i64 (3 * f + 1))), .d (.val (.int .i64 u)), .mref 1]) (c := .mref 1) wide_56 rfl (lt_of rfl) trivial))
        (oC (oS rfl rfl (r_move (av := dv (.int .i64 s)) (lt_of rfl) trivial))
        (oC (oS rfl rfl (r_move (av := slV tb nb kU8 b) (lt_of rfl) trivial))
        (oC (oS rfl rfl (q_strOf () b (ys := (.d (dsl tb nb kU8 b))) (rhs := []) Try.underlying25 Try.underlying5 Try.underlying9 (src_sl tb nb kU8 b) (lt_of rfl) trivial))
        (oC (oS rfl rfl (r_build (ps := [⟨0, .tmp 23, .one (.d (.val (.int .i64 s))), 0⟩, ⟨1, .tmp 25, .one (.d (.val (strV b))), 1⟩]) (cs := [.d (.val (.int .i64 s)), .d (.val (strV b))]) zero_61 places_61 rfl (part_cons rfl rfl (Nat.le_of_ble_eq_true rfl) (part_cons rfl rfl (Nat.le_of_ble_eq_true rfl) part_ok)) rfl (lt_of rfl) trivial))
        (oC (oS rfl rfl (r_mapUpdate 1 rows (authn_pair.mk s b) true (kd := kBool) (ak := .tv (.agg [.d (.val (.int .i64 s)), .d (.val (strV b))])) (tv := .one (.d (.val (.bool true)))) Try.underlying56 mkey_authn_pair ⟨[.int .i64 s, strV b], rfl, rfl⟩ rfl ⟨(.inl rfl), trivial⟩ ⟨rfl, trivial⟩)) (oZ rfl))))))))))
        (by kernel_rfl) (by kernel_rfl) (by kernel_rfl) (by kernel_rfl) (by kernel_rfl) ?_
      refine nT ?_
      refine T.seq ?_
      refine tR (s1 := ⟨[pv 0 0, dv (.int .i64 s), slV tb nb kU8 b, AV.any, AV.any, AV.any, pv 2 0, dv (.int .i64 0), dv (.bool (!(decide (isKnown f u s)))), AV.any, AV.any, AV.any, AV.any, AV.any, dv (.bool (decide (((b.length : Nat) : Int) > 16777216)))], [.live (.box 58 [.d (.val (.int .i64 (3 * f + 1))), .d (.val (.int .i64 u)), .mref 1]), .live (mpK f_authn_pair kBool (mput rows (authn_pair.mk s b) true)), .live (.box 32 [.d (.val (.int .i64 s)), .own 3 kU8.sz 0 b.length]), .live (arrK 5 kU8 b)]⟩) [true, true, true, false, false, false, true, true, true, false, false, false, false, false, true] [true, true, true, true]
        (oC (oS rfl rfl (r_move (av := dv (.int .i64 s)) (lt_of rfl) trivial))
        (oC (oS rfl rfl (r_move (av := slV tb nb kU8 b) (lt_of rfl) trivial))
        (oC (oS rfl rfl (r_call (clone_u8 tb nb b (by first | assumption | omega | (simp only [maxLen, kU8_sz, kSl_sz, k_quaestorlaw03_Deed_sz, k_quaestorlaw03_Size_sz, k_authn_pair_sz, k_api_Envelope_sz]; omega) | (simp only [maxLen, kU8_sz, kSl_sz, k_quaestorlaw03_Deed_sz, k_quaestorlaw03_Size_sz, k_authn_pair_sz, k_api_Envelope_sz, List.length_append, List.length_cons, List.length_nil, List.length_take, List.length_drop, List.length_set]; omega) | decide)) Try.func32 rfl (by decide) [3] [] (l := [(.tmp 28, slV tb nb kU8 b)]) [] rfl 0 1 rfl rfl rfl rfl rfl rfl rfl rfl rfl ⟨.inl ⟨rfl, rfl⟩, trivial⟩ rfl (fun b hb => by cases hb) (.inl rfl) (lt_of rfl) trivial))
        (oC (oS rfl rfl (r_build (ps := [⟨0, .tmp 27, .one (.d (.val (.int .i64 s))), 0⟩, ⟨1, .tmp 29, .one (.own 3 kU8.sz 0 b.length), 1⟩]) (cs := [.d (.val (.int .i64 s)), .own 3 kU8.sz 0 b.length]) zero_32 places_32 rfl (part_cons rfl rfl (Nat.le_of_ble_eq_true rfl) (part_cons rfl rfl (Nat.le_of_ble_eq_true rfl) part_ok)) rfl (lt_of rfl) trivial))
        (oC (oS rfl rfl (r_store (l := 2) (off := 0) (n := 2) (T := 32) (cs := [.d (.val (.int .i64 0)), .d (.val (.slice none 0 0))]) (cs' := [.d (.val (.int .i64 s)), .own 3 kU8.sz 0 b.length]) (tv := .agg [.d (.val (.int .i64 s)), .own 3 kU8.sz 0 b.length]) cells_32 rfl (Nat.le_of_ble_eq_true rfl) rfl rfl trivial))
        (oC (oS rfl rfl (r_assign (av := dv (.int .i64 0)) (lt_of rfl) ⟨rfl, trivial⟩)) (oZ rfl)))))))
        (by kernel_rfl) (by kernel_rfl) ?_
      refine nT ?_
      refine T.ret ?_
      refine Ends.turn (s' := ⟨[pv 0 0, dv (.int .i64 s), slV tb nb kU8 b, AV.any, AV.any, AV.any, pv 2 0, dv (.int .i64 0), dv (.bool (!(decide (isKnown f u s)))), AV.any, AV.any, AV.any, AV.any, AV.any, dv (.bool (decide (((b.length : Nat) : Int) > 16777216)))], [.live (.box 58 [.d (.val (.int .i64 (3 * f + 1))), .d (.val (.int .i64 u)), .mref 1]), .live (mpK f_authn_pair kBool (mput rows (authn_pair.mk s b) true)), .live (.box 32 [.d (.val (.int .i64 s)), .d (dsl false false kU8 b)]), .dead]⟩) (fun _ _ hG => Gs.freeze (s := ⟨[pv 0 0, dv (.int .i64 s), slV tb nb kU8 b, AV.any, AV.any, AV.any, pv 2 0, dv (.int .i64 0), dv (.bool (!(decide (isKnown f u s)))), AV.any, AV.any, AV.any, AV.any, AV.any, dv (.bool (decide (((b.length : Nat) : Int) > 16777216)))], [.live (.box 58 [.d (.val (.int .i64 (3 * f + 1))), .d (.val (.int .i64 u)), .mref 1]), .live (mpK f_authn_pair kBool (mput rows (authn_pair.mk s b) true)), .live (.box 32 [.d (.val (.int .i64 s)), .own 3 kU8.sz 0 b.length]), .live (arrK 5 kU8 b)]⟩) 3 (el := elOf kU8 b) (sz := kU8.sz) (n := b.length) rfl ⟨(.inl rfl), ⟨(.inl rfl), ⟨(.inl rfl), ⟨(.inl rfl), ⟨(.inl rfl), ⟨(.inl rfl), ⟨(.inl rfl), ⟨(.inl rfl), ⟨(.inl rfl), ⟨(.inl rfl), ⟨(.inl rfl), ⟨(.inl rfl), ⟨(.inl rfl), ⟨(.inl rfl), ⟨(.inl rfl), trivial⟩⟩⟩⟩⟩⟩⟩⟩⟩⟩⟩⟩⟩⟩⟩ ⟨(.inr ⟨by decide, .inl rfl⟩), ⟨(.inr ⟨by decide, .inl rfl⟩), ⟨(.inr ⟨by decide, .inr ⟨rfl, ⟨(.inl rfl), ⟨(.inr ⟨rfl, rfl, rfl, (fun h => by cases h), rfl, rfl, by omega, fun i j _ => by rw [Nat.zero_add]⟩), trivial⟩⟩⟩⟩), ⟨(.inl ⟨rfl, rfl⟩), trivial⟩⟩⟩⟩ hG) ?_
      exact tE (.inl rfl) [.c 6 2 32 0 32 [.d (.val (.int .i64 s)), .d (dsl false false kU8 b)] (.agg [.d (.val (.int .i64 s)), .d (dsl false false kU8 b)]), .t 7 (.one (.d (.val (.int .i64 0))))] ⟨⟨rfl, rfl, rfl, rfl, .inl ⟨2, wide_32, rfl, Nat.le_of_ble_eq_true rfl⟩⟩, ⟨⟨rfl, rfl⟩, trivial⟩⟩ [0, 1] (by have e1 : ((signV f u s b).f_Signer : Int) = s := (by first | rfl | (simp [signE, signV, signT, z_api_Envelope, *]; done)); have e2 : ((signV f u s b).f_Body : List UInt8) = b := (by first | rfl | (simp [signE, signV, signT, z_api_Envelope, *]; done)); have e3 : ((signE f u s b) : Int) = 0 := (by first | rfl | (simp [signE, signV, signT, z_api_Envelope, *]; done)); have hE := congr (congr (congrArg (fun (q1 : Int) (q2 : List UInt8) (q3 : Int) => (.tup [.agg [.d (.val (.int .i64 q1)), .d (dsl false false kU8 q2)], .one (.d (.val (.int .i64 q3)))] : AV)) e1) e2) e3; exact hE) rfl rfl rfl rfl rfl ⟨⟨rfl, rfl⟩, ⟨⟨rfl, (by have e1 : ((mput rows (authn_pair.mk s b) true) : List (authn_pair × Bool)) = (signT f u rows s b) := (by first | rfl | (simp [signE, signV, signT, z_api_Envelope, *]; done)); have hE := congrArg (fun (q1 : List (authn_pair × Bool)) => (.live (mpK f_authn_pair kBool q1) : HS)) e1; exact hE)⟩, trivial⟩⟩
  · refine T.condT (b := (!(decide (isKnown f u s)))) rfl (congrArg Bool.not (decide_eq_false hq1)) ?_
    refine T.seq ?_
    refine tR (s1 := ⟨[pv 0 0, dv (.int .i64 s), slV tb nb kU8 b, AV.any, AV.any, AV.any, pv 2 0, dv (.int .i64 30), dv (.bool (!(decide (isKnown f u s))))], [.live (.box 58 [.d (.val (.int .i64 (3 * f + 1))), .d (.val (.int .i64 u)), .mref 1]), .live (mpK f_authn_pair kBool rows), .live (.box 32 [.d (.val (.int .i64 0)), .d (.val (.slice none 0 0))])]⟩) [true, true, true, false, false, false, true, true, true] [true, true, true]
      (oC (oS rfl rfl (r_build (ps := []) (cs := [.d (.val (.int .i64 0)), .d (.val (.slice none 0 0))]) zero_32 places_32 rfl part_ok rfl (lt_of rfl) trivial))
      (oC (oS rfl rfl (r_store (l := 2) (off := 0) (n := 2) (T := 32) (cs := [.d (.val (.int .i64 0)), .d (.val (.slice none 0 0))]) (cs' := [.d (.val (.int .i64 0)), .d (.val (.slice none 0 0))]) (tv := .agg [.d (.val (.int .i64 0)), .d (.val (.slice none 0 0))]) cells_32 rfl (Nat.le_of_ble_eq_true rfl) rfl rfl trivial))
      (oC (oS rfl rfl (r_assign (av := dv (.int .i64 30)) (lt_of rfl) ⟨rfl, trivial⟩)) (oZ rfl))))
      (by kernel_rfl) (by kernel_rfl) ?_
    refine nT ?_
    refine T.ret ?_
    refine rB ?_
    refine rT ?_
    refine Ends.turn (s' := ⟨[pv 0 0, dv (.int .i64 s), slV tb nb kU8 b, AV.any, AV.any, AV.any, pv 2 0, dv (.int .i64 30), dv (.bool (!(decide (isKnown f u s))))], [.live (.box 58 [.d (.val (.int .i64 (3 * f + 1))), .d (.val (.int .i64 u)), .mref 1]), .live (mpK f_authn_pair kBool rows), .live (.box 32 [.d (.val (.int .i64 0)), .d (dsl false false kU8 ([] : List UInt8))])]⟩) (fun _ _ hG => Gs.less (s := ⟨[pv 0 0, dv (.int .i64 s), slV tb nb kU8 b, AV.any, AV.any, AV.any, pv 2 0, dv (.int .i64 30), dv (.bool (!(decide (isKnown f u s))))], [.live (.box 58 [.d (.val (.int .i64 (3 * f + 1))), .d (.val (.int .i64 u)), .mref 1]), .live (mpK f_authn_pair kBool rows), .live (.box 32 [.d (.val (.int .i64 0)), .d (.val (.slice none 0 0))])]⟩) ⟨(.inl rfl), ⟨(.inl rfl), ⟨(.inl rfl), ⟨(.inl rfl), ⟨(.inl rfl), ⟨(.inl rfl), ⟨(.inl rfl), ⟨(.inl rfl), ⟨(.inl rfl), trivial⟩⟩⟩⟩⟩⟩⟩⟩⟩ ⟨(.inl rfl), ⟨(.inl rfl), ⟨(.inr ⟨rfl, ⟨(.inl rfl), ⟨(.inr ⟨rfl, rfl, rfl⟩), trivial⟩⟩⟩), trivial⟩⟩⟩ hG) ?_
    exact tE (.inl rfl) [.c 6 2 32 0 32 [.d (.val (.int .i64 0)), .d (dsl false false kU8 ([] : List UInt8))] (.agg [.d (.val (.int .i64 0)), .d (dsl false false kU8 ([] : List UInt8))]), .t 7 (.one (.d (.val (.int .i64 30))))] ⟨⟨rfl, rfl, rfl, rfl, .inl ⟨2, wide_32, rfl, Nat.le_of_ble_eq_true rfl⟩⟩, ⟨⟨rfl, rfl⟩, trivial⟩⟩ [0, 1] (by have e1 : ((signV f u s b).f_Signer : Int) = 0 := (by first | rfl | (simp [signE, signV, signT, z_api_Envelope, *]; done)); have e2 : ((signV f u s b).f_Body : List UInt8) = ([] : List UInt8) := (by first | rfl | (simp [signE, signV, signT, z_api_Envelope, *]; done)); have e3 : ((signE f u s b) : Int) = 30 := (by first | rfl | (simp [signE, signV, signT, z_api_Envelope, *]; done)); have hE := congr (congr (congrArg (fun (q1 : Int) (q2 : List UInt8) (q3 : Int) => (.tup [.agg [.d (.val (.int .i64 q1)), .d (dsl false false kU8 q2)], .one (.d (.val (.int .i64 q3)))] : AV)) e1) e2) e3; exact hE) rfl rfl rfl rfl rfl ⟨⟨rfl, rfl⟩, ⟨⟨rfl, (by have e1 : (rows : List (authn_pair × Bool)) = (signT f u rows s b) := (by first | rfl | (simp [signE, signV, signT, z_api_Envelope, *]; done)); have hE := congrArg (fun (q1 : List (authn_pair × Bool)) => (.live (mpK f_authn_pair kBool q1) : HS)) e1; exact hE)⟩, trivial⟩⟩
end Go.Proofs.Ytladnlechpadlaa.Q
