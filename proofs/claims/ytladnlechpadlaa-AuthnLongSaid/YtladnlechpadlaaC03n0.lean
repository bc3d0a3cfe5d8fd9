import Derived.Test.YtladnlechpadlaaM03L
namespace Go.Proofs.Ytladnlechpadlaa.Q
open Go Go.RowKit
set_option linter.unusedVariables false
set_option linter.unusedSimpArgs false
set_option maxRecDepth 100000
set_option maxHeartbeats 4000000
-- quaestor/quaestorref01.Same
theorem ref01_Same (ta : Bool) (na : Bool) (tb : Bool) (nb : Bool) (a : List UInt8) (b : List UInt8) : Holds Try.prog 13 ⟨[slV ta na kU8 a, slV tb nb kU8 b], [], dv (.bool (decide (a = b))), []⟩ := by
  refine Holds.of Try.func13 rfl (N := 10) Try.ntmps13 rfl fun w0 B0 S0 U0 => ?_
  show T _ (mkBase 10 0 w0 S0 U0 B0) ⟨[slV ta na kU8 a, slV tb nb kU8 b], []⟩ _ _
  refine T.seq ?_
  refine tR (s1 := ⟨[slV ta na kU8 a, slV tb nb kU8 b, AV.any, AV.any, dv (.bool false)], []⟩) [true, true, false, false, true] []
    (oC (oS rfl rfl (r_assign (av := dv (.bool false)) (lt_of rfl) ⟨rfl, trivial⟩)) (oZ rfl))
    (by kernel_rfl) (by kernel_rfl) ?_
  refine nT ?_
  refine T.seq ?_
  refine tR (s1 := ⟨[slV ta na kU8 a, slV tb nb kU8 b, AV.any, AV.any, dv (.bool (decide (a = b)))], []⟩) [true, true, false, false, true] []
    (oC (oS rfl rfl (r_move (av := slV ta na kU8 a) (lt_of rfl) trivial))
    (oC (oS rfl rfl (q_strOf () a (ys := (.d (dsl ta na kU8 a))) (rhs := []) Try.underlying25 Try.underlying5 Try.underlying9 (src_sl ta na kU8 a) (lt_of rfl) trivial))
    (oC (oS rfl rfl (r_move (av := slV tb nb kU8 b) (lt_of rfl) trivial))
    (oC (oS rfl rfl (q_strOf () b (ys := (.d (dsl tb nb kU8 b))) (rhs := []) Try.underlying25 Try.underlying5 Try.underlying9 (src_sl tb nb kU8 b) (lt_of rfl) trivial))
    (oC (oS rfl rfl (r_bin (u1 := strV a) (u2 := strV b) (v := .bool (decide (a = b))) b_eqlS (lt_of rfl) trivial))
    (oC (oS rfl rfl (r_assign (av := dv (.bool (decide (a = b)))) (lt_of rfl) trivial)) (oZ rfl)))))))
    (by kernel_rfl) (by kernel_rfl) ?_
  refine nT ?_
  refine T.ret ?_
  exact tE (.inl rfl) [.t 4 (.one (.d (.val (.bool (decide (a = b))))))] ⟨⟨rfl, rfl⟩, trivial⟩ [] rfl rfl rfl rfl rfl rfl trivial

theorem iat_5 : Try.prog.info? 5 = some Try.t5 := by kernel_rfl
theorem zero_5 : Zero Try.prog 5 [.int .u8 0] := ⟨_, _, iat_5, rfl, rfl⟩
theorem elem_25 : Elem Try.prog 25 5 1 1 := ⟨Try.underlying25, _, _, iat_5, rfl, rfl, rfl, rfl, by decide⟩
-- slices.Clone[[]byte,byte]
theorem clone_u8 (ta : Bool) (na : Bool) (a : List UInt8) (hp : a.length ≤ 140737488355328) : Holds Try.prog 32 ⟨[slV ta na kU8 a], [], ownV 0 kU8 0 a.length, [.live (arrK 5 kU8 a)]⟩ := by
  refine Holds.of Try.func32 rfl (N := 8) Try.ntmps32 rfl fun w0 B0 S0 U0 => ?_
  show T _ (mkBase 8 0 w0 S0 U0 B0) ⟨[slV ta na kU8 a], []⟩ _ _
  cases na
  · refine T.nilOr (k := 0) rfl (fun h0 => ?_) ?_
    · have h0 := List.eq_nil_of_length_eq_zero h0
      subst h0
      show T _ _ ⟨[dv (.slice none 0 0)], []⟩ _ _
      refine T.seq ?_
      refine tR (s1 := ⟨[dv (.slice none 0 0), AV.any, dv (.slice none 0 0)], []⟩) [true, false, true] []
        (oC (oS rfl rfl (r_assign (av := dv (.slice none 0 0)) (lt_of rfl) ⟨rfl, trivial⟩)) (oZ rfl))
        (by kernel_rfl) (by kernel_rfl) ?_
      refine nT ?_
      refine T.seq ?_
      refine T.seq ?_
      refine tR (s1 := ⟨[dv (.slice none 0 0), AV.any, dv (.slice none 0 0), AV.any, dv (.bool true)], []⟩) [true, false, true, false, true] []
        (oC (oS rfl rfl (r_move (av := dv (.slice none 0 0)) (lt_of rfl) trivial))
        (oC (oS rfl rfl (r_bin (u1 := .slice none 0 0) (u2 := .slice none 0 0) (v := .bool true) (b_eqlNilS Try.underlying25) (lt_of rfl) ⟨rfl, trivial⟩)) (oZ rfl)))
        (by kernel_rfl) (by kernel_rfl) ?_
      refine nT ?_
      refine T.condT (b := true) rfl rfl ?_
      refine T.seq ?_
      refine tR (s1 := ⟨[dv (.slice none 0 0), AV.any, dv (.slice none 0 0), AV.any, dv (.bool true)], []⟩) [true, false, true, false, true] []
        (oC (oS rfl rfl (r_assign (av := dv (.slice none 0 0)) (lt_of rfl) ⟨rfl, trivial⟩)) (oZ rfl))
        (by kernel_rfl) (by kernel_rfl) ?_
      refine nT ?_
      refine T.ret ?_
      refine rT ?_
      refine Ends.turn (s' := ⟨[dv (.slice none 0 0), AV.any, ownV 0 kU8 0 0, AV.any, dv (.bool true)], [.live (arrK 5 kU8 ([] : List UInt8))]⟩) (fun _ _ hG => Gs.absent 0 2 5 kU8 rfl rfl hG) ?_
      exact tE (.inl rfl) [.t 2 (.one (.own 0 kU8.sz 0 0))] ⟨⟨rfl, rfl⟩, trivial⟩ [0] (by have e1 : (([] : List UInt8).length : Nat) = 0 := (by first | rfl | (simp; done)); have hE := congrArg (fun (q1 : Nat) => (ownV 0 kU8 0 q1 : AV)) e1; exact hE) rfl rfl rfl rfl rfl ⟨⟨rfl, rfl⟩, trivial⟩
    · show T _ _ ⟨[slV ta true kU8 a], []⟩ _ _
      refine T.seq ?_
      refine tR (s1 := ⟨[slV ta true kU8 a, AV.any, dv (.slice none 0 0)], []⟩) [true, false, true] []
        (oC (oS rfl rfl (r_assign (av := dv (.slice none 0 0)) (lt_of rfl) ⟨rfl, trivial⟩)) (oZ rfl))
        (by kernel_rfl) (by kernel_rfl) ?_
      refine nT ?_
      refine T.seq ?_
      refine T.seq ?_
      refine tR (s1 := ⟨[slV ta true kU8 a, AV.any, dv (.slice none 0 0), AV.any, dv (.bool false)], []⟩) [true, false, true, false, true] []
        (oC (oS rfl rfl (r_move (av := slV ta true kU8 a) (lt_of rfl) trivial))
        (oC (oS rfl rfl (r_eqNil (s := .d (dsl ta true kU8 a)) Try.underlying25 (.inl rfl) (lt_of rfl) ⟨rfl, trivial⟩)) (oZ rfl)))
        (by kernel_rfl) (by kernel_rfl) ?_
      refine nT ?_
      refine T.condF (b := false) rfl rfl ?_
      refine T.skip ?_
      refine nT ?_
      refine T.seq ?_
      refine tR (s1 := ⟨[slV ta true kU8 a, AV.any, ownV 1 kU8 0 a.length, AV.any, dv (.bool false)], [.dead, .live (arrK 5 kU8 a)]⟩) [true, false, true, false, true] [true, true]
        (oC (oS rfl rfl (q_buildSlice 0 5 kU8 kU8_ok ([] : List UInt8) [] (cs := []) Try.underlying25 iat_5 rfl zero_5 rfl rfl rfl (Nat.le_of_ble_eq_true rfl) part_ok rfl trivial (lt_of rfl) trivial))
        (oC (oS rfl rfl (r_move (av := slV ta true kU8 a) (lt_of rfl) trivial))
        (oC (oS rfl rfl (q_appendO 0 1 5 1 kU8 kU8_ok ([] : List UInt8) a a ([] : List UInt8).length (sy := (.d (dsl ta true kU8 a))) (rhs := []) elem_25 (by first | assumption | omega | (simp only [maxLen, kU8_sz, kSl_sz, k_quaestorlaw03_Deed_sz, k_quaestorlaw03_Size_sz, k_authn_pair_sz, k_api_Envelope_sz]; omega) | (simp only [maxLen, kU8_sz, kSl_sz, k_quaestorlaw03_Deed_sz, k_quaestorlaw03_Size_sz, k_authn_pair_sz, k_api_Envelope_sz, List.length_append, List.length_cons, List.length_nil, List.length_take, List.length_drop, List.length_set]; omega) | decide) (src_sl ta true kU8 a) (by simp) (by first | assumption | omega | (simp only [maxLen, kU8_sz, kSl_sz, k_quaestorlaw03_Deed_sz, k_quaestorlaw03_Size_sz, k_authn_pair_sz, k_api_Envelope_sz]; omega) | (simp only [maxLen, kU8_sz, kSl_sz, k_quaestorlaw03_Deed_sz, k_quaestorlaw03_Size_sz, k_authn_pair_sz, k_api_Envelope_sz, List.length_append, List.length_cons, List.length_nil, List.length_take, List.length_drop, List.length_set]; omega) | decide) (by first | assumption | omega | (simp only [maxLen, kU8_sz, kSl_sz, k_quaestorlaw03_Deed_sz, k_quaestorlaw03_Size_sz, k_authn_pair_sz, k_api_Envelope_sz]; omega) | (simp only [maxLen, kU8_sz, kSl_sz, k_quaestorlaw03_Deed_sz, k_quaestorlaw03_Size_sz, k_authn_pair_sz, k_api_Envelope_sz, List.length_append, List.length_cons, List.length_nil, List.length_take, List.length_drop, List.length_set]; omega) | decide) (lt_of rfl) trivial))
        (oC (oS rfl rfl (r_assign (av := ownV 1 kU8 0 a.length) (lt_of rfl) trivial)) (oZ rfl)))))
        (by kernel_rfl) (by kernel_rfl) ?_
      refine nT ?_
      refine T.ret ?_
      exact tE (.inl rfl) [.t 2 (.one (.own 1 kU8.sz 0 a.length))] ⟨⟨rfl, rfl⟩, trivial⟩ [1] rfl rfl rfl rfl rfl rfl ⟨⟨rfl, rfl⟩, trivial⟩
  · refine T.seq ?_
    refine tR (s1 := ⟨[slV ta true kU8 a, AV.any, dv (.slice none 0 0)], []⟩) [true, false, true] []
      (oC (oS rfl rfl (r_assign (av := dv (.slice none 0 0)) (lt_of rfl) ⟨rfl, trivial⟩)) (oZ rfl))
      (by kernel_rfl) (by kernel_rfl) ?_
    refine nT ?_
    refine T.seq ?_
    refine T.seq ?_
    refine tR (s1 := ⟨[slV ta true kU8 a, AV.any, dv (.slice none 0 0), AV.any, dv (.bool false)], []⟩) [true, false, true, false, true] []
      (oC (oS rfl rfl (r_move (av := slV ta true kU8 a) (lt_of rfl) trivial))
      (oC (oS rfl rfl (r_eqNil (s := .d (dsl ta true kU8 a)) Try.underlying25 (.inl rfl) (lt_of rfl) ⟨rfl, trivial⟩)) (oZ rfl)))
      (by kernel_rfl) (by kernel_rfl) ?_
    refine nT ?_
    refine T.condF (b := false) rfl rfl ?_
    refine T.skip ?_
    refine nT ?_
    refine T.seq ?_
    refine tR (s1 := ⟨[slV ta true kU8 a, AV.any, ownV 1 kU8 0 a.length, AV.any, dv (.bool false)], [.dead, .live (arrK 5 kU8 a)]⟩) [true, false, true, false, true] [true, true]
      (oC (oS rfl rfl (q_buildSlice 0 5 kU8 kU8_ok ([] : List UInt8) [] (cs := []) Try.underlying25 iat_5 rfl zero_5 rfl rfl rfl (Nat.le_of_ble_eq_true rfl) part_ok rfl trivial (lt_of rfl) trivial))
      (oC (oS rfl rfl (r_move (av := slV ta true kU8 a) (lt_of rfl) trivial))
      (oC (oS rfl rfl (q_appendO 0 1 5 1 kU8 kU8_ok ([] : List UInt8) a a ([] : List UInt8).length (sy := (.d (dsl ta true kU8 a))) (rhs := []) elem_25 (by first | assumption | omega | (simp only [maxLen, kU8_sz, kSl_sz, k_quaestorlaw03_Deed_sz, k_quaestorlaw03_Size_sz, k_authn_pair_sz, k_api_Envelope_sz]; omega) | (simp only [maxLen, kU8_sz, kSl_sz, k_quaestorlaw03_Deed_sz, k_quaestorlaw03_Size_sz, k_authn_pair_sz, k_api_Envelope_sz, List.length_append, List.length_cons, List.length_nil, List.length_take, List.length_drop, List.length_set]; omega) | decide) (src_sl ta true kU8 a) (by simp) (by first | assumption | omega | (simp only [maxLen, kU8_sz, kSl_sz, k_quaestorlaw03_Deed_sz, k_quaestorlaw03_Size_sz, k_authn_pair_sz, k_api_Envelope_sz]; omega) | (simp only [maxLen, kU8_sz, kSl_sz, k_quaestorlaw03_Deed_sz, k_quaestorlaw03_Size_sz, k_authn_pair_sz, k_api_Envelope_sz, List.length_append, List.length_cons, List.length_nil, List.length_take, List.length_drop, List.length_set]; omega) | decide) (by first | assumption | omega | (simp only [maxLen, kU8_sz, kSl_sz, k_quaestorlaw03_Deed_sz, k_quaestorlaw03_Size_sz, k_authn_pair_sz, k_api_Envelope_sz]; omega) | (simp only [maxLen, kU8_sz, kSl_sz, k_quaestorlaw03_Deed_sz, k_quaestorlaw03_Size_sz, k_authn_pair_sz, k_api_Envelope_sz, List.length_append, List.length_cons, List.length_nil, List.length_take, List.length_drop, List.length_set]; omega) | decide) (lt_of rfl) trivial))
      (oC (oS rfl rfl (r_assign (av := ownV 1 kU8 0 a.length) (lt_of rfl) trivial)) (oZ rfl)))))
      (by kernel_rfl) (by kernel_rfl) ?_
    refine nT ?_
    refine T.ret ?_
    exact tE (.inl rfl) [.t 2 (.one (.own 1 kU8.sz 0 a.length))] ⟨⟨rfl, rfl⟩, trivial⟩ [1] rfl rfl rfl rfl rfl rfl ⟨⟨rfl, rfl⟩, trivial⟩

theorem iat_58 : Try.prog.info? 58 = some Try.t58 := by kernel_rfl
theorem zero_58 : Zero Try.prog 58 [.int .i64 0, .int .i64 0, .map none] := ⟨_, _, iat_58, rfl, rfl⟩
theorem iat_3 : Try.prog.info? 3 = some Try.t3 := by kernel_rfl
theorem iat_56 : Try.prog.info? 56 = some Try.t56 := by kernel_rfl
theorem places_58 : Places Try.prog 58 [(0, 1), (1, 1), (2, 1)] := ⟨_, Try.underlying58, ⟨⟨rfl, _, iat_3, rfl⟩, ⟨⟨rfl, _, iat_3, rfl⟩, ⟨⟨rfl, _, iat_56, rfl⟩, trivial⟩⟩⟩⟩
-- quaestor/authn.New
theorem authn_New (f : Int) (u : Int) : Holds Try.prog 11 ⟨[dv (.int .i64 f), dv (.int .i64 u)], [], pv 0 0, [.live (.box 58 [.d (.val (.int .i64 (3 * (fOf f) + 1))), .d (.val (.int .i64 (cOf u))), .mref 1]), .live (mpK f_authn_pair kBool ([] : List (authn_pair × Bool)))]⟩ := by
  refine Holds.of Try.func11 rfl (N := 16) Try.ntmps11 rfl fun w0 B0 S0 U0 => ?_
  show T _ (mkBase 16 0 w0 S0 U0 B0) ⟨[dv (.int .i64 f), dv (.int .i64 u)], []⟩ _ _
  refine T.seq ?_
  refine tR (s1 := ⟨[dv (.int .i64 f), dv (.int .i64 u), AV.any, AV.any, dv (.pointer none)], []⟩) [true, true, false, false, true] []
    (oC (oS rfl rfl (r_assign (av := dv (.pointer none)) (lt_of rfl) ⟨rfl, trivial⟩)) (oZ rfl))
    (by kernel_rfl) (by kernel_rfl) ?_
  refine nT ?_
  refine T.seq ?_
  refine tR (s1 := ⟨[dv (.int .i64 f), dv (.int .i64 u), AV.any, AV.any, pv 1 0], [.live (mpK f_authn_pair kBool ([] : List (authn_pair × Bool))), .live (.box 58 [.d (.val (.int .i64 ((3 * (min (max f 0) 2)) + 1))), .d (.val (.int .i64 (min (max u 0) 8))), .mref 0])]⟩) [true, true, false, false, true] [true, true]
    (oC (oS rfl rfl (r_move (av := dv (.int .i64 f)) (lt_of rfl) trivial))
    (oC (oS rfl rfl (r_max (k := .i64) (a := f) (b := 0) (lt_of rfl) ⟨rfl, trivial⟩))
    (oC (oS rfl rfl (r_min (k := .i64) (a := max f 0) (b := 2) (lt_of rfl) ⟨rfl, trivial⟩))
    (oC (oS rfl rfl (r_bin (u1 := .int .i64 3) (u2 := .int .i64 (min (max f 0) 2)) (v := .int .i64 (3 * (min (max f 0) 2))) (b_mul (by rw [IntKind.wrap_i64]; omega)) (lt_of rfl) ⟨rfl, trivial⟩))
    (oC (oS rfl rfl (r_bin (u1 := .int .i64 (3 * (min (max f 0) 2))) (u2 := .int .i64 1) (v := .int .i64 ((3 * (min (max f 0) 2)) + 1)) (b_add (by rw [IntKind.wrap_i64]; omega)) (lt_of rfl) ⟨rfl, trivial⟩))
    (oC (oS rfl rfl (r_move (av := dv (.int .i64 u)) (lt_of rfl) trivial))
    (oC (oS rfl rfl (r_max (k := .i64) (a := u) (b := 0) (lt_of rfl) ⟨rfl, trivial⟩))
    (oC (oS rfl rfl (r_min (k := .i64) (a := max u 0) (b := 8) (lt_of rfl) ⟨rfl, trivial⟩))
    (oC (oS rfl rfl (r_makeMap 0 f_authn_pair kBool (lt_of rfl)))
    (oC (oS rfl rfl (r_build (ps := [⟨0, .tmp 9, .one (.d (.val (.int .i64 ((3 * (min (max f 0) 2)) + 1)))), 0⟩, ⟨1, .tmp 12, .one (.d (.val (.int .i64 (min (max u 0) 8)))), 1⟩, ⟨2, .tmp 13, .one (.mref 0), 2⟩]) (cs := [.d (.val (.int .i64 ((3 * (min (max f 0) 2)) + 1))), .d (.val (.int .i64 (min (max u 0) 8))), .mref 0]) zero_58 places_58 rfl (part_cons rfl rfl (Nat.le_of_ble_eq_true rfl) (part_cons rfl rfl (Nat.le_of_ble_eq_true rfl) (part_cons rfl rfl (Nat.le_of_ble_eq_true rfl) part_ok))) rfl (lt_of rfl) trivial))
    (oC (oS rfl rfl (r_box (l := 1) (t := .agg [.d (.val (.int .i64 ((3 * (min (max f 0) 2)) + 1))), .d (.val (.int .i64 (min (max u 0) 8))), .mref 0]) rfl (lt_of rfl) trivial))
    (oC (oS rfl rfl (r_assign (av := pv 1 0) (lt_of rfl) trivial)) (oZ rfl)))))))))))))
    (by kernel_rfl) (by kernel_rfl) ?_
  refine nT ?_
  refine T.ret ?_
  exact tE (.inl rfl) [.t 4 (.one (.ptr 1 0))] ⟨⟨rfl, rfl⟩, trivial⟩ [1, 0] rfl rfl rfl rfl rfl rfl ⟨⟨rfl, (by have e1 : ((3 * (min (max f 0) 2)) + 1 : Int) = 3 * (fOf f) + 1 := (by first | rfl | (simp only [fOf, cOf]; omega)); have e2 : (min (max u 0) 8 : Int) = (cOf u) := (by first | rfl | (simp only [fOf, cOf]; omega)); have hE := congr (congrArg (fun (q1 : Int) (q2 : Int) => (.live (.box 58 [.d (.val (.int .i64 q1)), .d (.val (.int .i64 q2)), .mref 0]) : HS)) e1) e2; exact hE)⟩, ⟨⟨rfl, rfl⟩, trivial⟩⟩

theorem fld_58_0 : FieldAt Try.prog 58 0 0 := ⟨_, _, _, Try.underlying58, rfl, iat_3, by decide, rfl⟩
theorem wide_3 : Wide Try.prog 3 none := ⟨_, Try.underlying3, (fun _ h => by cases h), (fun _ _ h => by cases h)⟩
-- (*quaestor/authn.Authority).N
theorem authn_N (f : Int) (u : Int) (rows : List (authn_pair × Bool)) (hf : 0 ≤ f ∧ f ≤ 2) (hu : 0 ≤ u ∧ u ≤ 8) : Holds Try.prog 26 ⟨[pv 0 0], [.box 58 [.d (.val (.int .i64 (3 * f + 1))), .d (.val (.int .i64 u)), .mref 1], mpK f_authn_pair kBool rows], dv (.int .i64 (3 * f + 1)), [.live (.box 58 [.d (.val (.int .i64 (3 * f + 1))), .d (.val (.int .i64 u)), .mref 1]), .live (mpK f_authn_pair kBool rows)]⟩ := by
  refine Holds.of Try.func26 rfl (N := 9) Try.ntmps26 rfl fun w0 B0 S0 U0 => ?_
  show T _ (mkBase 9 2 w0 S0 U0 B0) ⟨[pv 0 0], [.live (.box 58 [.d (.val (.int .i64 (3 * f + 1))), .d (.val (.int .i64 u)), .mref 1]), .live (mpK f_authn_pair kBool rows)]⟩ _ _
  refine T.seq ?_
  refine tR (s1 := ⟨[pv 0 0, AV.any, dv (.int .i64 0)], [.live (.box 58 [.d (.val (.int .i64 (3 * f + 1))), .d (.val (.int .i64 u)), .mref 1]), .live (mpK f_authn_pair kBool rows)]⟩) [true, false, true] [true, true]
    (oC (oS rfl rfl (r_assign (av := dv (.int .i64 0)) (lt_of rfl) ⟨rfl, trivial⟩)) (oZ rfl))
    (by kernel_rfl) (by kernel_rfl) ?_
  refine nT ?_
  refine T.seq ?_
  refine T.seq ?_
  refine tR (s1 := ⟨[pv 0 0, AV.any, dv (.int .i64 0), AV.any, dv (.bool false)], [.live (.box 58 [.d (.val (.int .i64 (3 * f + 1))), .d (.val (.int .i64 u)), .mref 1]), .live (mpK f_authn_pair kBool rows)]⟩) [true, false, true, false, true] [true, true]
    (oC (oS rfl rfl (r_move (av := pv 0 0) (lt_of rfl) trivial))
    (oC (oS rfl rfl (r_eqNilP (av := pv 0 0) Try.underlying29 rfl (lt_of rfl) ⟨rfl, trivial⟩)) (oZ rfl)))
    (by kernel_rfl) (by kernel_rfl) ?_
  refine nT ?_
  refine T.condF (b := false) rfl rfl ?_
  refine T.skip ?_
  refine nT ?_
  refine T.seq ?_
  refine tR (s1 := ⟨[pv 0 0, AV.any, dv (.int .i64 (3 * f + 1)), AV.any, dv (.bool false)], [.live (.box 58 [.d (.val (.int .i64 (3 * f + 1))), .d (.val (.int .i64 u)), .mref 1]), .live (mpK f_authn_pair kBool rows)]⟩) [true, false, true, false, true] [true, true]
    (oC (oS rfl rfl (r_move (av := pv 0 0) (lt_of rfl) trivial))
    (oC (oS rfl rfl (r_nilCheck (av := pv 0 0) rfl (lt_of rfl) trivial))
    (oC (oS rfl rfl (r_fieldAddr (l := 0) (off := 0) fld_58_0 (lt_of rfl) trivial))
    (oC (oS rfl rfl (r_loadB (l := 0) (off := 0) (T := 58) (cs := [.d (.val (.int .i64 (3 * f + 1))), .d (.val (.int .i64 u)), .mref 1]) (c := .d (.val (.int .i64 (3 * f + 1)))) wide_3 rfl (lt_of rfl) trivial))
    (oC (oS rfl rfl (r_assign (av := dv (.int .i64 (3 * f + 1))) (lt_of rfl) trivial)) (oZ rfl))))))
    (by kernel_rfl) (by kernel_rfl) ?_
  refine nT ?_
  refine T.ret ?_
  exact tE (.inl rfl) [.t 2 (.one (.d (.val (.int .i64 (3 * f + 1)))))] ⟨⟨rfl, rfl⟩, trivial⟩ [0, 1] rfl rfl rfl rfl rfl rfl ⟨⟨rfl, rfl⟩, ⟨⟨rfl, rfl⟩, trivial⟩⟩
end Go.Proofs.Ytladnlechpadlaa.Q
