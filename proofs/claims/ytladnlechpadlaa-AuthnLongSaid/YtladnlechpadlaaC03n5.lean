import Derived.Test.YtladnlechpadlaaC03n4
namespace Go.Proofs.Ytladnlechpadlaa.Q
open Go Go.RowKit
set_option linter.unusedVariables false
set_option linter.unusedSimpArgs false
set_option maxRecDepth 100000
set_option maxHeartbeats 4000000
-- (*quaestor/quaestorref03.Authority).Quorum
theorem ref03_Quorum (f : Int) (u : Int) (l : List api_Envelope) (hf : 0 ≤ f ∧ f ≤ 2) (hu : 0 ≤ u ∧ u ≤ 8) : Holds Try.prog 36 ⟨[pv 0 0], [.box 48 [.d (.val (.bool true)), .d (.val (.int .i64 f)), .d (.val (.int .i64 u)), .own 1 (k_api_Envelope false).sz 0 l.length], arrK 32 (k_api_Envelope false) l], dv (.int .i64 (2 * f + 1)), [.live (.box 48 [.d (.val (.bool true)), .d (.val (.int .i64 f)), .d (.val (.int .i64 u)), .own 1 (k_api_Envelope false).sz 0 l.length]), .live (arrK 32 (k_api_Envelope false) l)]⟩ := by
  refine Holds.of Try.func36 rfl (N := 14) Try.ntmps36 rfl fun w0 B0 S0 U0 => ?_
  show T _ (mkBase 14 2 w0 S0 U0 B0) ⟨[pv 0 0], [.live (.box 48 [.d (.val (.bool true)), .d (.val (.int .i64 f)), .d (.val (.int .i64 u)), .own 1 (k_api_Envelope false).sz 0 l.length]), .live (arrK 32 (k_api_Envelope false) l)]⟩ _ _
  refine T.seq ?_
  refine tR (s1 := ⟨[pv 0 0, AV.any, dv (.int .i64 0)], [.live (.box 48 [.d (.val (.bool true)), .d (.val (.int .i64 f)), .d (.val (.int .i64 u)), .own 1 (k_api_Envelope false).sz 0 l.length]), .live (arrK 32 (k_api_Envelope false) l)]⟩) [true, false, true] [true, true]
    (oC (oS rfl rfl (r_assign (av := dv (.int .i64 0)) (lt_of rfl) ⟨rfl, trivial⟩)) (oZ rfl))
    (by kernel_rfl) (by kernel_rfl) ?_
  refine nT ?_
  refine T.seq ?_
  refine T.seq ?_
  refine tR (s1 := ⟨[pv 0 0, AV.any, dv (.int .i64 0), AV.any, AV.any, AV.any, AV.any, dv (.bool (!true))], [.live (.box 48 [.d (.val (.bool true)), .d (.val (.int .i64 f)), .d (.val (.int .i64 u)), .own 1 (k_api_Envelope false).sz 0 l.length]), .live (arrK 32 (k_api_Envelope false) l)]⟩) [true, false, true, false, false, false, false, true] [true, true]
    (oC (oS rfl rfl (r_move (av := pv 0 0) (lt_of rfl) trivial))
    (oC (oS rfl rfl (r_nilCheck (av := pv 0 0) rfl (lt_of rfl) trivial))
    (oC (oS rfl rfl (r_fieldAddr (l := 0) (off := 0) fld_48_0 (lt_of rfl) trivial))
    (oC (oS rfl rfl (r_loadB (l := 0) (off := 0) (T := 48) (cs := [.d (.val (.bool true)), .d (.val (.int .i64 f)), .d (.val (.int .i64 u)), .own 1 (k_api_Envelope false).sz 0 l.length]) (c := .d (.val (.bool true))) wide_4 rfl (lt_of rfl) trivial))
    (oC (oS rfl rfl (r_un (u := .bool true) (v := .bool (!true)) u_not (lt_of rfl) trivial)) (oZ rfl))))))
    (by kernel_rfl) (by kernel_rfl) ?_
  refine nT ?_
  refine T.condF (b := (!true)) rfl (congrArg Bool.not rfl) ?_
  refine T.skip ?_
  refine nT ?_
  refine T.seq ?_
  refine tR (s1 := ⟨[pv 0 0, AV.any, dv (.int .i64 ((2 * f) + 1)), AV.any, AV.any, AV.any, AV.any, dv (.bool (!true))], [.live (.box 48 [.d (.val (.bool true)), .d (.val (.int .i64 f)), .d (.val (.int .i64 u)), .own 1 (k_api_Envelope false).sz 0 l.length]), .live (arrK 32 (k_api_Envelope false) l)]⟩) [true, false, true, false, false, false, false, true] [true, true]
    (oC (oS rfl rfl (r_move (av := pv 0 0) (lt_of rfl) trivial))
    (oC (oS rfl rfl (r_nilCheck (av := pv 0 0) rfl (lt_of rfl) trivial))
    (oC (oS rfl rfl (r_fieldAddr (l := 0) (off := 0) fld_48_1 (lt_of rfl) trivial))
    (oC (oS rfl rfl (r_loadB (l := 0) (off := 1) (T := 48) (cs := [.d (.val (.bool true)), .d (.val (.int .i64 f)), .d (.val (.int .i64 u)), .own 1 (k_api_Envelope false).sz 0 l.length]) (c := .d (.val (.int .i64 f))) wide_3 rfl (lt_of rfl) trivial))
    (oC (oS rfl rfl (r_bin (u1 := .int .i64 2) (u2 := .int .i64 f) (v := .int .i64 (2 * f)) (b_mul (by rw [IntKind.wrap_i64]; omega)) (lt_of rfl) ⟨rfl, trivial⟩))
    (oC (oS rfl rfl (r_bin (u1 := .int .i64 (2 * f)) (u2 := .int .i64 1) (v := .int .i64 ((2 * f) + 1)) (b_add (by rw [IntKind.wrap_i64]; omega)) (lt_of rfl) ⟨rfl, trivial⟩))
    (oC (oS rfl rfl (r_assign (av := dv (.int .i64 ((2 * f) + 1))) (lt_of rfl) trivial)) (oZ rfl))))))))
    (by kernel_rfl) (by kernel_rfl) ?_
  refine nT ?_
  refine T.ret ?_
  exact tE (.inl rfl) [.t 2 (.one (.d (.val (.int .i64 ((2 * f) + 1)))))] ⟨⟨rfl, rfl⟩, trivial⟩ [0, 1] (by have e1 : (2 * f + 1 : Int) = (2 * f) + 1 := (by first | rfl | omega | (simp [isKnown, orgA, *]; done) | (simp [isClient, isReplica, isKnown, primaryA, orgA, *]; done) | (simp only [primaryA, orgA]; first | rw [if_pos (by omega)] | rw [if_neg (by omega)])); have hE := congrArg (fun (q1 : Int) => (dv (.int .i64 q1) : AV)) e1; exact hE) rfl rfl rfl rfl rfl ⟨⟨rfl, rfl⟩, ⟨⟨rfl, rfl⟩, trivial⟩⟩

-- (*quaestor/quaestorref03.Authority).Weak
theorem ref03_Weak (f : Int) (u : Int) (l : List api_Envelope) (hf : 0 ≤ f ∧ f ≤ 2) (hu : 0 ≤ u ∧ u ≤ 8) : Holds Try.prog 37 ⟨[pv 0 0], [.box 48 [.d (.val (.bool true)), .d (.val (.int .i64 f)), .d (.val (.int .i64 u)), .own 1 (k_api_Envelope false).sz 0 l.length], arrK 32 (k_api_Envelope false) l], dv (.int .i64 (f + 1)), [.live (.box 48 [.d (.val (.bool true)), .d (.val (.int .i64 f)), .d (.val (.int .i64 u)), .own 1 (k_api_Envelope false).sz 0 l.length]), .live (arrK 32 (k_api_Envelope false) l)]⟩ := by
  refine Holds.of Try.func37 rfl (N := 13) Try.ntmps37 rfl fun w0 B0 S0 U0 => ?_
  show T _ (mkBase 13 2 w0 S0 U0 B0) ⟨[pv 0 0], [.live (.box 48 [.d (.val (.bool true)), .d (.val (.int .i64 f)), .d (.val (.int .i64 u)), .own 1 (k_api_Envelope false).sz 0 l.length]), .live (arrK 32 (k_api_Envelope false) l)]⟩ _ _
  refine T.seq ?_
  refine tR (s1 := ⟨[pv 0 0, AV.any, dv (.int .i64 0)], [.live (.box 48 [.d (.val (.bool true)), .d (.val (.int .i64 f)), .d (.val (.int .i64 u)), .own 1 (k_api_Envelope false).sz 0 l.length]), .live (arrK 32 (k_api_Envelope false) l)]⟩) [true, false, true] [true, true]
    (oC (oS rfl rfl (r_assign (av := dv (.int .i64 0)) (lt_of rfl) ⟨rfl, trivial⟩)) (oZ rfl))
    (by kernel_rfl) (by kernel_rfl) ?_
  refine nT ?_
  refine T.seq ?_
  refine T.seq ?_
  refine tR (s1 := ⟨[pv 0 0, AV.any, dv (.int .i64 0), AV.any, AV.any, AV.any, AV.any, dv (.bool (!true))], [.live (.box 48 [.d (.val (.bool true)), .d (.val (.int .i64 f)), .d (.val (.int .i64 u)), .own 1 (k_api_Envelope false).sz 0 l.length]), .live (arrK 32 (k_api_Envelope false) l)]⟩) [true, false, true, false, false, false, false, true] [true, true]
    (oC (oS rfl rfl (r_move (av := pv 0 0) (lt_of rfl) trivial))
    (oC (oS rfl rfl (r_nilCheck (av := pv 0 0) rfl (lt_of rfl) trivial))
    (oC (oS rfl rfl (r_fieldAddr (l := 0) (off := 0) fld_48_0 (lt_of rfl) trivial))
    (oC (oS rfl rfl (r_loadB (l := 0) (off := 0) (T := 48) (cs := [.d (.val (.bool true)), .d (.val (.int .i64 f)), .d (.val (.int .i64 u)), .own 1 (k_api_Envelope false).sz 0 l.length]) (c := .d (.val (.bool true))) wide_4 rfl (lt_of rfl) trivial))
    (oC (oS rfl rfl (r_un (u := .bool true) (v := .bool (!true)) u_not (lt_of rfl) trivial)) (oZ rfl))))))
    (by kernel_rfl) (by kernel_rfl) ?_
  refine nT ?_
  refine T.condF (b := (!true)) rfl (congrArg Bool.not rfl) ?_
  refine T.skip ?_
  refine nT ?_
  refine T.seq ?_
  refine tR (s1 := ⟨[pv 0 0, AV.any, dv (.int .i64 (f + 1)), AV.any, AV.any, AV.any, AV.any, dv (.bool (!true))], [.live (.box 48 [.d (.val (.bool true)), .d (.val (.int .i64 f)), .d (.val (.int .i64 u)), .own 1 (k_api_Envelope false).sz 0 l.length]), .live (arrK 32 (k_api_Envelope false) l)]⟩) [true, false, true, false, false, false, false, true] [true, true]
    (oC (oS rfl rfl (r_move (av := pv 0 0) (lt_of rfl) trivial))
    (oC (oS rfl rfl (r_nilCheck (av := pv 0 0) rfl (lt_of rfl) trivial))
    (oC (oS rfl rfl (r_fieldAddr (l := 0) (off := 0) fld_48_1 (lt_of rfl) trivial))
    (oC (oS rfl rfl (r_loadB (l := 0) (off := 1) (T := 48) (cs := [.d (.val (.bool true)), .d (.val (.int .i64 f)), .d (.val (.int .i64 u)), .own 1 (k_api_Envelope false).sz 0 l.length]) (c := .d (.val (.int .i64 f))) wide_3 rfl (lt_of rfl) trivial))
    (oC (oS rfl rfl (r_bin (u1 := .int .i64 f) (u2 := .int .i64 1) (v := .int .i64 (f + 1)) (b_add (by rw [IntKind.wrap_i64]; omega)) (lt_of rfl) ⟨rfl, trivial⟩))
    (oC (oS rfl rfl (r_assign (av := dv (.int .i64 (f + 1))) (lt_of rfl) trivial)) (oZ rfl)))))))
    (by kernel_rfl) (by kernel_rfl) ?_
  refine nT ?_
  refine T.ret ?_
  exact tE (.inl rfl) [.t 2 (.one (.d (.val (.int .i64 (f + 1)))))] ⟨⟨rfl, rfl⟩, trivial⟩ [0, 1] rfl rfl rfl rfl rfl rfl ⟨⟨rfl, rfl⟩, ⟨⟨rfl, rfl⟩, trivial⟩⟩

-- (*quaestor/quaestorref03.Authority).Primary
theorem ref03_Primary (f : Int) (u : Int) (l : List api_Envelope) (s : Int) (hf : 0 ≤ f ∧ f ≤ 2) (hu : 0 ≤ u ∧ u ≤ 8) : Holds Try.prog 38 ⟨[pv 0 0, dv (.int .i64 s)], [.box 48 [.d (.val (.bool true)), .d (.val (.int .i64 f)), .d (.val (.int .i64 u)), .own 1 (k_api_Envelope false).sz 0 l.length], arrK 32 (k_api_Envelope false) l], dv (.int .i64 (primaryA f s)), [.live (.box 48 [.d (.val (.bool true)), .d (.val (.int .i64 f)), .d (.val (.int .i64 u)), .own 1 (k_api_Envelope false).sz 0 l.length]), .live (arrK 32 (k_api_Envelope false) l)]⟩ := by
  refine Holds.of Try.func38 rfl (N := 18) Try.ntmps38 rfl fun w0 B0 S0 U0 => ?_
  show T _ (mkBase 18 2 w0 S0 U0 B0) ⟨[pv 0 0, dv (.int .i64 s)], [.live (.box 48 [.d (.val (.bool true)), .d (.val (.int .i64 f)), .d (.val (.int .i64 u)), .own 1 (k_api_Envelope false).sz 0 l.length]), .live (arrK 32 (k_api_Envelope false) l)]⟩ _ _
  refine T.seq ?_
  refine tR (s1 := ⟨[pv 0 0, dv (.int .i64 s), AV.any, AV.any, dv (.int .i64 0)], [.live (.box 48 [.d (.val (.bool true)), .d (.val (.int .i64 f)), .d (.val (.int .i64 u)), .own 1 (k_api_Envelope false).sz 0 l.length]), .live (arrK 32 (k_api_Envelope false) l)]⟩) [true, true, false, false, true] [true, true]
    (oC (oS rfl rfl (r_assign (av := dv (.int .i64 0)) (lt_of rfl) ⟨rfl, trivial⟩)) (oZ rfl))
    (by kernel_rfl) (by kernel_rfl) ?_
  refine nT ?_
  refine T.seq ?_
  refine T.seq ?_
  refine tR (s1 := ⟨[pv 0 0, dv (.int .i64 s), AV.any, AV.any, dv (.int .i64 0), AV.any, AV.any, AV.any, AV.any, AV.any, AV.any, AV.any, AV.any, dv (.bool (decide (s < 0)))], [.live (.box 48 [.d (.val (.bool true)), .d (.val (.int .i64 f)), .d (.val (.int .i64 u)), .own 1 (k_api_Envelope false).sz 0 l.length]), .live (arrK 32 (k_api_Envelope false) l)]⟩) [true, true, false, false, true, false, false, false, false, false, false, false, false, true] [true, true]
    (oC (oS rfl rfl (r_move (av := pv 0 0) (lt_of rfl) trivial))
    (oC (oS rfl rfl (r_nilCheck (av := pv 0 0) rfl (lt_of rfl) trivial))
    (oC (oS rfl rfl (r_fieldAddr (l := 0) (off := 0) fld_48_0 (lt_of rfl) trivial))
    (oC (oS rfl rfl (r_loadB (l := 0) (off := 0) (T := 48) (cs := [.d (.val (.bool true)), .d (.val (.int .i64 f)), .d (.val (.int .i64 u)), .own 1 (k_api_Envelope false).sz 0 l.length]) (c := .d (.val (.bool true))) wide_4 rfl (lt_of rfl) trivial))
    (oC (oS rfl rfl (r_un (u := .bool true) (v := .bool (!true)) u_not (lt_of rfl) trivial))
    (oC (oS rfl rfl (r_move (av := dv (.bool (!true))) (lt_of rfl) trivial))
    (oC (oY (b := (!true)) rfl rfl rfl rfl (lt_of rfl) (congrArg Bool.not rfl) (r_move (av := dv (.int .i64 s)) (lt_of rfl) trivial))
    (oC (oY (b := (!true)) rfl rfl rfl rfl (lt_of rfl) (congrArg Bool.not rfl) (r_bin (u1 := .int .i64 s) (u2 := .int .i64 0) (v := .bool (decide (s < 0))) b_lss (lt_of rfl) ⟨rfl, trivial⟩))
    (oC (oS rfl rfl (r_pickF (b := (!true)) (av := dv (.bool (decide (s < 0)))) (lt_of rfl) trivial (congrArg Bool.not rfl))) (oZ rfl))))))))))
    (by kernel_rfl) (by kernel_rfl) ?_
  refine nT ?_
  by_cases hq1 : s < 0
  · refine T.condT (b := (decide (s < 0))) rfl (decide_eq_true hq1) ?_
    refine T.seq ?_
    refine tR (s1 := ⟨[pv 0 0, dv (.int .i64 s), AV.any, AV.any, dv (.int .i64 0), AV.any, AV.any, AV.any, AV.any, AV.any, AV.any, AV.any, AV.any, dv (.bool (decide (s < 0)))], [.live (.box 48 [.d (.val (.bool true)), .d (.val (.int .i64 f)), .d (.val (.int .i64 u)), .own 1 (k_api_Envelope false).sz 0 l.length]), .live (arrK 32 (k_api_Envelope false) l)]⟩) [true, true, false, false, true, false, false, false, false, false, false, false, false, true] [true, true]
      (oC (oS rfl rfl (r_assign (av := dv (.int .i64 0)) (lt_of rfl) ⟨rfl, trivial⟩)) (oZ rfl))
      (by kernel_rfl) (by kernel_rfl) ?_
    refine nT ?_
    refine T.ret ?_
    refine rT ?_
    exact tE (.inl rfl) [.t 4 (.one (.d (.val (.int .i64 0))))] ⟨⟨rfl, rfl⟩, trivial⟩ [0, 1] (by have e1 : ((primaryA f s) : Int) = 0 := (by first | rfl | omega | (simp [isKnown, orgA, *]; done) | (simp [isClient, isReplica, isKnown, primaryA, orgA, *]; done) | (simp only [primaryA, orgA]; first | rw [if_pos (by omega)] | rw [if_neg (by omega)])); have hE := congrArg (fun (q1 : Int) => (dv (.int .i64 q1) : AV)) e1; exact hE) rfl rfl rfl rfl rfl ⟨⟨rfl, rfl⟩, ⟨⟨rfl, rfl⟩, trivial⟩⟩
  · refine T.condF (b := (decide (s < 0))) rfl (decide_eq_false hq1) ?_
    refine T.skip ?_
    refine nT ?_
    refine T.seq ?_
    refine tR (s1 := ⟨[pv 0 0, dv (.int .i64 s), AV.any, AV.any, dv (.int .i64 (s % (3 * f + 1))), AV.any, AV.any, AV.any, AV.any, AV.any, AV.any, AV.any, AV.any, dv (.bool (decide (s < 0)))], [.live (.box 48 [.d (.val (.bool true)), .d (.val (.int .i64 f)), .d (.val (.int .i64 u)), .own 1 (k_api_Envelope false).sz 0 l.length]), .live (arrK 32 (k_api_Envelope false) l)]⟩) [true, true, false, false, true, false, false, false, false, false, false, false, false, true] [true, true]
      (oC (oS rfl rfl (r_move (av := dv (.int .i64 s)) (lt_of rfl) trivial))
      (oC (oS rfl rfl (r_move (av := pv 0 0) (lt_of rfl) trivial))
      (oC (oS rfl rfl (r_call (ref03_N f u l (by first | assumption | omega | (simp only [maxLen, kU8_sz, kSl_sz, k_quaestorlaw03_Deed_sz, k_quaestorlaw03_Size_sz, k_authn_pair_sz, k_api_Envelope_sz]; omega) | (simp only [maxLen, kU8_sz, kSl_sz, k_quaestorlaw03_Deed_sz, k_quaestorlaw03_Size_sz, k_authn_pair_sz, k_api_Envelope_sz, List.length_append, List.length_cons, List.length_nil, List.length_take, List.length_drop, List.length_set]; omega) | decide) (by first | assumption | omega | (simp only [maxLen, kU8_sz, kSl_sz, k_quaestorlaw03_Deed_sz, k_quaestorlaw03_Size_sz, k_authn_pair_sz, k_api_Envelope_sz]; omega) | (simp only [maxLen, kU8_sz, kSl_sz, k_quaestorlaw03_Deed_sz, k_quaestorlaw03_Size_sz, k_authn_pair_sz, k_api_Envelope_sz, List.length_append, List.length_cons, List.length_nil, List.length_take, List.length_drop, List.length_set]; omega) | decide)) Try.func34 rfl (by decide) [0, 1] [] (l := [(.tmp 15, pv 0 0)]) [] rfl 2 2 rfl rfl rfl rfl rfl rfl rfl rfl rfl ⟨.inl ⟨rfl, rfl⟩, trivial⟩ rfl (fun b hb => by cases hb) (.inl rfl) (lt_of rfl) trivial))
      (oC (oS rfl rfl (r_bin (u1 := .int .i64 s) (u2 := .int .i64 (3 * f + 1)) (v := .int .i64 (s % (3 * f + 1))) (b_remP (by first | assumption | omega | (simp only [maxLen, kU8_sz, kSl_sz, k_quaestorlaw03_Deed_sz, k_quaestorlaw03_Size_sz, k_authn_pair_sz, k_api_Envelope_sz]; omega) | (simp only [maxLen, kU8_sz, kSl_sz, k_quaestorlaw03_Deed_sz, k_quaestorlaw03_Size_sz, k_authn_pair_sz, k_api_Envelope_sz, List.length_append, List.length_cons, List.length_nil, List.length_take, List.length_drop, List.length_set]; omega) | decide) (by first | assumption | omega | (simp only [maxLen, kU8_sz, kSl_sz, k_quaestorlaw03_Deed_sz, k_quaestorlaw03_Size_sz, k_authn_pair_sz, k_api_Envelope_sz]; omega) | (simp only [maxLen, kU8_sz, kSl_sz, k_quaestorlaw03_Deed_sz, k_quaestorlaw03_Size_sz, k_authn_pair_sz, k_api_Envelope_sz, List.length_append, List.length_cons, List.length_nil, List.length_take, List.length_drop, List.length_set]; omega) | decide)) (lt_of rfl) trivial))
      (oC (oS rfl rfl (r_assign (av := dv (.int .i64 (s % (3 * f + 1)))) (lt_of rfl) trivial)) (oZ rfl))))))
      (by kernel_rfl) (by kernel_rfl) ?_
    refine nT ?_
    refine T.ret ?_
    exact tE (.inl rfl) [.t 4 (.one (.d (.val (.int .i64 (s % (3 * f + 1))))))] ⟨⟨rfl, rfl⟩, trivial⟩ [0, 1] (by have e1 : ((primaryA f s) : Int) = s % (3 * f + 1) := (by first | rfl | omega | (simp [isKnown, orgA, *]; done) | (simp [isClient, isReplica, isKnown, primaryA, orgA, *]; done) | (simp only [primaryA, orgA]; first | rw [if_pos (by omega)] | rw [if_neg (by omega)])); have hE := congrArg (fun (q1 : Int) => (dv (.int .i64 q1) : AV)) e1; exact hE) rfl rfl rfl rfl rfl ⟨⟨rfl, rfl⟩, ⟨⟨rfl, rfl⟩, trivial⟩⟩

theorem fld_48_2 : FieldAt Try.prog 48 2 2 := ⟨_, _, _, Try.underlying48, rfl, iat_3, by decide, rfl⟩
-- (*quaestor/quaestorref03.Authority).Client
theorem ref03_Client (f : Int) (u : Int) (l : List api_Envelope) (s : Int) (hf : 0 ≤ f ∧ f ≤ 2) (hu : 0 ≤ u ∧ u ≤ 8) (hs : -9223372036854775808 ≤ s ∧ s ≤ 9223372036854775807) : Holds Try.prog 51 ⟨[pv 0 0, dv (.int .i64 s)], [.box 48 [.d (.val (.bool true)), .d (.val (.int .i64 f)), .d (.val (.int .i64 u)), .own 1 (k_api_Envelope false).sz 0 l.length], arrK 32 (k_api_Envelope false) l], dv (.bool (decide (isClient u s))), [.live (.box 48 [.d (.val (.bool true)), .d (.val (.int .i64 f)), .d (.val (.int .i64 u)), .own 1 (k_api_Envelope false).sz 0 l.length]), .live (arrK 32 (k_api_Envelope false) l)]⟩ := by
  refine Holds.of Try.func51 rfl (N := 16) Try.ntmps51 rfl fun w0 B0 S0 U0 => ?_
  show T _ (mkBase 16 2 w0 S0 U0 B0) ⟨[pv 0 0, dv (.int .i64 s)], [.live (.box 48 [.d (.val (.bool true)), .d (.val (.int .i64 f)), .d (.val (.int .i64 u)), .own 1 (k_api_Envelope false).sz 0 l.length]), .live (arrK 32 (k_api_Envelope false) l)]⟩ _ _
  refine T.seq ?_
  refine tR (s1 := ⟨[pv 0 0, dv (.int .i64 s), AV.any, AV.any, dv (.bool false)], [.live (.box 48 [.d (.val (.bool true)), .d (.val (.int .i64 f)), .d (.val (.int .i64 u)), .own 1 (k_api_Envelope false).sz 0 l.length]), .live (arrK 32 (k_api_Envelope false) l)]⟩) [true, true, false, false, true] [true, true]
    (oC (oS rfl rfl (r_assign (av := dv (.bool false)) (lt_of rfl) ⟨rfl, trivial⟩)) (oZ rfl))
    (by kernel_rfl) (by kernel_rfl) ?_
  refine nT ?_
  refine T.seq ?_
  by_cases hq1 : s ≥ 1000
  · refine tR (s1 := ⟨[pv 0 0, dv (.int .i64 s), AV.any, AV.any, dv (.bool (decide ((s - 1000) < u)))], [.live (.box 48 [.d (.val (.bool true)), .d (.val (.int .i64 f)), .d (.val (.int .i64 u)), .own 1 (k_api_Envelope false).sz 0 l.length]), .live (arrK 32 (k_api_Envelope false) l)]⟩) [true, true, false, false, true] [true, true]
      (oC (oS rfl rfl (r_move (av := dv (.int .i64 s)) (lt_of rfl) trivial))
      (oC (oS rfl rfl (r_bin (u1 := .int .i64 s) (u2 := .int .i64 1000) (v := .bool (decide (s ≥ 1000))) b_geq (lt_of rfl) ⟨rfl, trivial⟩))
      (oC (oS rfl rfl (r_move (av := dv (.bool (decide (s ≥ 1000)))) (lt_of rfl) trivial))
      (oC (oY (b := (decide (s ≥ 1000))) rfl rfl rfl rfl (lt_of rfl) (decide_eq_true hq1) (r_move (av := dv (.int .i64 s)) (lt_of rfl) trivial))
      (oC (oY (b := (decide (s ≥ 1000))) rfl rfl rfl rfl (lt_of rfl) (decide_eq_true hq1) (r_bin (u1 := .int .i64 s) (u2 := .int .i64 1000) (v := .int .i64 (s - 1000)) (b_sub (by rw [IntKind.wrap_i64]; omega)) (lt_of rfl) ⟨rfl, trivial⟩))
      (oC (oY (b := (decide (s ≥ 1000))) rfl rfl rfl rfl (lt_of rfl) (decide_eq_true hq1) (r_move (av := pv 0 0) (lt_of rfl) trivial))
      (oC (oY (b := (decide (s ≥ 1000))) rfl rfl rfl rfl (lt_of rfl) (decide_eq_true hq1) (r_nilCheck (av := pv 0 0) rfl (lt_of rfl) trivial))
      (oC (oY (b := (decide (s ≥ 1000))) rfl rfl rfl rfl (lt_of rfl) (decide_eq_true hq1) (r_fieldAddr (l := 0) (off := 0) fld_48_2 (lt_of rfl) trivial))
      (oC (oY (b := (decide (s ≥ 1000))) rfl rfl rfl rfl (lt_of rfl) (decide_eq_true hq1) (r_loadB (l := 0) (off := 2) (T := 48) (cs := [.d (.val (.bool true)), .d (.val (.int .i64 f)), .d (.val (.int .i64 u)), .own 1 (k_api_Envelope false).sz 0 l.length]) (c := .d (.val (.int .i64 u))) wide_3 rfl (lt_of rfl) trivial))
      (oC (oY (b := (decide (s ≥ 1000))) rfl rfl rfl rfl (lt_of rfl) (decide_eq_true hq1) (r_bin (u1 := .int .i64 (s - 1000)) (u2 := .int .i64 u) (v := .bool (decide ((s - 1000) < u))) b_lss (lt_of rfl) trivial))
      (oC (oS rfl rfl (r_pickT (b := (decide (s ≥ 1000))) (av := dv (.bool (decide ((s - 1000) < u)))) (lt_of rfl) trivial (decide_eq_true hq1)))
      (oC (oS rfl rfl (r_assign (av := dv (.bool (decide ((s - 1000) < u)))) (lt_of rfl) trivial)) (oZ rfl)))))))))))))
      (by kernel_rfl) (by kernel_rfl) ?_
    refine nT ?_
    refine T.ret ?_
    exact tE (.inl rfl) [.t 4 (.one (.d (.val (.bool (decide ((s - 1000) < u))))))] ⟨⟨rfl, rfl⟩, trivial⟩ [0, 1] (by have e1 : ((decide (isClient u s)) : Bool) = (decide ((s - 1000) < u)) := (by first | rfl | omega | (simp [isKnown, orgA, *]; done) | (simp [isClient, isReplica, isKnown, primaryA, orgA, *]; done) | (simp only [primaryA, orgA]; first | rw [if_pos (by omega)] | rw [if_neg (by omega)])); have hE := congrArg (fun (q1 : Bool) => (dv (.bool q1) : AV)) e1; exact hE) rfl rfl rfl rfl rfl ⟨⟨rfl, rfl⟩, ⟨⟨rfl, rfl⟩, trivial⟩⟩
  · refine tR (s1 := ⟨[pv 0 0, dv (.int .i64 s), AV.any, AV.any, dv (.bool false)], [.live (.box 48 [.d (.val (.bool true)), .d (.val (.int .i64 f)), .d (.val (.int .i64 u)), .own 1 (k_api_Envelope false).sz 0 l.length]), .live (arrK 32 (k_api_Envelope false) l)]⟩) [true, true, false, false, true] [true, true]
      (oC (oS rfl rfl (r_move (av := dv (.int .i64 s)) (lt_of rfl) trivial))
      (oC (oS rfl rfl (r_bin (u1 := .int .i64 s) (u2 := .int .i64 1000) (v := .bool (decide (s ≥ 1000))) b_geq (lt_of rfl) ⟨rfl, trivial⟩))
      (oC (oS rfl rfl (r_move (av := dv (.bool (decide (s ≥ 1000)))) (lt_of rfl) trivial))
      (oC (oN (b := (decide (s ≥ 1000))) rfl rfl rfl rfl (lt_of rfl) (decide_eq_false hq1) rfl (lt_of rfl))
      (oC (oN (b := (decide (s ≥ 1000))) rfl rfl rfl rfl (lt_of rfl) (decide_eq_false hq1) rfl (lt_of rfl))
      (oC (oN (b := (decide (s ≥ 1000))) rfl rfl rfl rfl (lt_of rfl) (decide_eq_false hq1) rfl (lt_of rfl))
      (oC (oN (b := (decide (s ≥ 1000))) rfl rfl rfl rfl (lt_of rfl) (decide_eq_false hq1) rfl (lt_of rfl))
      (oC (oN (b := (decide (s ≥ 1000))) rfl rfl rfl rfl (lt_of rfl) (decide_eq_false hq1) rfl (lt_of rfl))
      (oC (oN (b := (decide (s ≥ 1000))) rfl rfl rfl rfl (lt_of rfl) (decide_eq_false hq1) rfl (lt_of rfl))
      (oC (oN (b := (decide (s ≥ 1000))) rfl rfl rfl rfl (lt_of rfl) (decide_eq_false hq1) rfl (lt_of rfl))
      (oC (oS rfl rfl (r_pickF (b := (decide (s ≥ 1000))) (av := dv (.bool false)) (lt_of rfl) ⟨rfl, trivial⟩ (decide_eq_false hq1)))
      (oC (oS rfl rfl (r_assign (av := dv (.bool false)) (lt_of rfl) trivial)) (oZ rfl)))))))))))))
      (by kernel_rfl) (by kernel_rfl) ?_
    refine nT ?_
    refine T.ret ?_
    exact tE (.inl rfl) [.t 4 (.one (.d (.val (.bool false))))] ⟨⟨rfl, rfl⟩, trivial⟩ [0, 1] (by have e1 : ((decide (isClient u s)) : Bool) = false := (by first | rfl | omega | (simp [isKnown, orgA, *]; done) | (simp [isClient, isReplica, isKnown, primaryA, orgA, *]; done) | (simp only [primaryA, orgA]; first | rw [if_pos (by omega)] | rw [if_neg (by omega)])); have hE := congrArg (fun (q1 : Bool) => (dv (.bool q1) : AV)) e1; exact hE) rfl rfl rfl rfl rfl ⟨⟨rfl, rfl⟩, ⟨⟨rfl, rfl⟩, trivial⟩⟩
end Go.Proofs.Ytladnlechpadlaa.Q
