import Derived.Test.YtioenfjcbikbcaaM20
namespace Go.Proofs.Ytioenfjcbikbcaa.Q
open Go Go.RowKit
set_option linter.unusedVariables false
set_option linter.unusedSimpArgs false
set_option maxRecDepth 100000
set_option maxHeartbeats 4000000
-- quaestor/quaestorref01.Same
theorem ref01_Same (ta : Bool) (na : Bool) (tb : Bool) (nb : Bool) (a : List UInt8) (b : List UInt8) : Holds Try.prog 28 ⟨[slV ta na kU8 a, slV tb nb kU8 b], [], dv (.bool (decide (a = b))), []⟩ := by
  refine Holds.of Try.func28 rfl (N := 10) Try.ntmps28 rfl fun w0 B0 S0 U0 => ?_
  show T _ (mkBase 10 0 w0 S0 U0 B0) ⟨[slV ta na kU8 a, slV tb nb kU8 b], []⟩ _ _
  refine T.seq ?_
  refine tR (s1 := ⟨[slV ta na kU8 a, slV tb nb kU8 b, AV.any, AV.any, dv (.bool false)], []⟩) [true, true, false, false, true] []
    (oC (oS rfl rfl (r_assign (av := dv (.bool false)) (lt_of rfl) ⟨rfl, trivial⟩)) (oZ rfl))
    (by kernel_rfl) (by kernel_rfl) ?_
  refine nT ?_
  refine T.seq ?_
  refine tR (s1 := ⟨[slV ta na kU8 a, slV tb nb kU8 b, AV.any, AV.any, dv (.bool (decide (a = b)))], []⟩) [true, true, false, false, true] []
    (oC (oS rfl rfl (r_move (av := slV ta na kU8 a) (lt_of rfl) trivial))
    (oC (oS rfl rfl (q_strOf () a (ys := (.d (dsl ta na kU8 a))) (rhs := []) Try.underlying27 Try.underlying5 Try.underlying9 (src_sl ta na kU8 a) (lt_of rfl) trivial))
    (oC (oS rfl rfl (r_move (av := slV tb nb kU8 b) (lt_of rfl) trivial))
    (oC (oS rfl rfl (q_strOf () b (ys := (.d (dsl tb nb kU8 b))) (rhs := []) Try.underlying27 Try.underlying5 Try.underlying9 (src_sl tb nb kU8 b) (lt_of rfl) trivial))
    (oC (oS rfl rfl (r_bin (u1 := strV a) (u2 := strV b) (v := .bool (decide (a = b))) b_eqlS (lt_of rfl) trivial))
    (oC (oS rfl rfl (r_assign (av := dv (.bool (decide (a = b)))) (lt_of rfl) trivial)) (oZ rfl)))))))
    (by kernel_rfl) (by kernel_rfl) ?_
  refine nT ?_
  refine T.ret ?_
  exact tE (.inl rfl) [.t 4 (.one (.d (.val (.bool (decide (a = b))))))] ⟨⟨rfl, rfl⟩, trivial⟩ [] rfl rfl rfl rfl rfl rfl trivial

theorem iat_5 : Try.prog.info? 5 = some Try.t5 := by kernel_rfl
theorem zero_5 : Zero Try.prog 5 [.int .u8 0] := ⟨_, _, iat_5, rfl, rfl⟩
theorem elem_27 : Elem Try.prog 27 5 1 1 := ⟨Try.underlying27, _, _, iat_5, rfl, rfl, rfl, rfl, by decide⟩
-- slices.Clone[[]byte,byte]
theorem clone_u8 (ta : Bool) (na : Bool) (a : List UInt8) (hp : a.length ≤ 140737488355328) : Holds Try.prog 29 ⟨[slV ta na kU8 a], [], ownV 0 kU8 0 a.length, [.live (arrK 5 kU8 a)]⟩ := by
  refine Holds.of Try.func29 rfl (N := 8) Try.ntmps29 rfl fun w0 B0 S0 U0 => ?_
  show T _ (mkBase 8 0 w0 S0 U0 B0) ⟨[slV ta na kU8 a], []⟩ _ _
  cases na
  · refine T.nilOr (k := 0) rfl (fun h0 => ?_) ?_
    · have h0 := List.eq_nil_of_length_eq_zero h0
      subst h0
      show T _ _ ⟨[dv (.slice none 0 0)], []⟩ _ _
      refine T.seq ?_
      refine tR (s1 := ⟨[dv (.slice none 0 0), AV.any, dv (.slice none 0 0)], []⟩) [true, false, true] []
        (oC (oS rfl rfl (r_assign (av := dv (.slice none 0 0)) (lt_of rfl) ⟨rfl, trivial⟩)) (oZ rfl))
        (by kernel_rfl) (by kernel_rfl) ?_
      refine nT ?_
      refine T.seq ?_
      refine T.seq ?_
      refine tR (s1 := ⟨[dv (.slice none 0 0), AV.any, dv (.slice none 0 0), AV.any, dv (.bool true)], []⟩) [true, false, true, false, true] []
        (oC (oS rfl rfl (r_move (av := dv (.slice none 0 0)) (lt_of rfl) trivial))
        (oC (oS rfl rfl (r_bin (u1 := .slice none 0 0) (u2 := .slice none 0 0) (v := .bool true) (b_eqlNilS Try.underlying27) (lt_of rfl) ⟨rfl, trivial⟩)) (oZ rfl)))
        (by kernel_rfl) (by kernel_rfl) ?_
      refine nT ?_
      refine T.condT (b := true) rfl rfl ?_
      refine T.seq ?_
      refine tR (s1 := ⟨[dv (.slice none 0 0), AV.any, dv (.slice none 0 0), AV.any, dv (.bool true)], []⟩) [true, false, true, false, true] []
        (oC (oS rfl rfl (r_assign (av := dv (.slice none 0 0)) (lt_of rfl) ⟨rfl, trivial⟩)) (oZ rfl))
        (by kernel_rfl) (by kernel_rfl) ?_
      refine nT ?_
      refine T.ret ?_
      refine rT ?_
      refine Ends.turn (s' := ⟨[dv (.slice none 0 0), AV.any, ownV 0 kU8 0 0, AV.any, dv (.bool true)], [.live (arrK 5 kU8 ([] : List UInt8))]⟩) (fun _ _ hG => Gs.absent 0 2 5 kU8 rfl rfl hG) ?_
      exact tE (.inl rfl) [.t 2 (.one (.own 0 kU8.sz 0 0))] ⟨⟨rfl, rfl⟩, trivial⟩ [0] (by have e1 : (([] : List UInt8).length : Nat) = 0 := (by rfl); have hE := congrArg (fun (q1 : Nat) => (ownV 0 kU8 0 q1 : AV)) e1; exact hE) rfl rfl rfl rfl rfl ⟨⟨rfl, rfl⟩, trivial⟩
    · show T _ _ ⟨[slV ta true kU8 a], []⟩ _ _
      refine T.seq ?_
      refine tR (s1 := ⟨[slV ta true kU8 a, AV.any, dv (.slice none 0 0)], []⟩) [true, false, true] []
        (oC (oS rfl rfl (r_assign (av := dv (.slice none 0 0)) (lt_of rfl) ⟨rfl, trivial⟩)) (oZ rfl))
        (by kernel_rfl) (by kernel_rfl) ?_
      refine nT ?_
      refine T.seq ?_
      refine T.seq ?_
      refine tR (s1 := ⟨[slV ta true kU8 a, AV.any, dv (.slice none 0 0), AV.any, dv (.bool false)], []⟩) [true, false, true, false, true] []
        (oC (oS rfl rfl (r_move (av := slV ta true kU8 a) (lt_of rfl) trivial))
        (oC (oS rfl rfl (r_eqNil (s := .d (dsl ta true kU8 a)) Try.underlying27 (.inl rfl) (lt_of rfl) ⟨rfl, trivial⟩)) (oZ rfl)))
        (by kernel_rfl) (by kernel_rfl) ?_
      refine nT ?_
      refine T.condF (b := false) rfl rfl ?_
      refine T.skip ?_
      refine nT ?_
      refine T.seq ?_
      refine tR (s1 := ⟨[slV ta true kU8 a, AV.any, ownV 1 kU8 0 a.length, AV.any, dv (.bool false)], [.dead, .live (arrK 5 kU8 a)]⟩) [true, false, true, false, true] [true, true]
        (oC (oS rfl rfl (q_buildSlice 0 5 kU8 kU8_ok ([] : List UInt8) [] (cs := []) Try.underlying27 iat_5 rfl zero_5 rfl rfl rfl (Nat.le_of_ble_eq_true rfl) part_ok rfl trivial (lt_of rfl) trivial))
        (oC (oS rfl rfl (r_move (av := slV ta true kU8 a) (lt_of rfl) trivial))
        (oC (oS rfl rfl (q_appendO 0 1 5 1 kU8 kU8_ok ([] : List UInt8) a a ([] : List UInt8).length (sy := (.d (dsl ta true kU8 a))) (rhs := []) elem_27 (by first | assumption | omega | (simp only [maxLen, kU8_sz, kSl_sz, k_api_Envelope_sz, k_api_Packet_sz, k_quaestorlaw20_Act_sz]; omega) | (simp only [maxLen, kU8_sz, kSl_sz, k_api_Envelope_sz, k_api_Packet_sz, k_quaestorlaw20_Act_sz, List.length_append, List.length_cons, List.length_nil, List.length_take, List.length_drop, List.length_set]; omega) | decide) (src_sl ta true kU8 a) (by simp) (by first | assumption | omega | (simp only [maxLen, kU8_sz, kSl_sz, k_api_Envelope_sz, k_api_Packet_sz, k_quaestorlaw20_Act_sz]; omega) | (simp only [maxLen, kU8_sz, kSl_sz, k_api_Envelope_sz, k_api_Packet_sz, k_quaestorlaw20_Act_sz, List.length_append, List.length_cons, List.length_nil, List.length_take, List.length_drop, List.length_set]; omega) | decide) (by first | assumption | omega | (simp only [maxLen, kU8_sz, kSl_sz, k_api_Envelope_sz, k_api_Packet_sz, k_quaestorlaw20_Act_sz]; omega) | (simp only [maxLen, kU8_sz, kSl_sz, k_api_Envelope_sz, k_api_Packet_sz, k_quaestorlaw20_Act_sz, List.length_append, List.length_cons, List.length_nil, List.length_take, List.length_drop, List.length_set]; omega) | decide) (lt_of rfl) trivial))
        (oC (oS rfl rfl (r_assign (av := ownV 1 kU8 0 a.length) (lt_of rfl) trivial)) (oZ rfl)))))
        (by kernel_rfl) (by kernel_rfl) ?_
      refine nT ?_
      refine T.ret ?_
      exact tE (.inl rfl) [.t 2 (.one (.own 1 kU8.sz 0 a.length))] ⟨⟨rfl, rfl⟩, trivial⟩ [1] rfl rfl rfl rfl rfl rfl ⟨⟨rfl, rfl⟩, trivial⟩
  · refine T.seq ?_
    refine tR (s1 := ⟨[slV ta true kU8 a, AV.any, dv (.slice none 0 0)], []⟩) [true, false, true] []
      (oC (oS rfl rfl (r_assign (av := dv (.slice none 0 0)) (lt_of rfl) ⟨rfl, trivial⟩)) (oZ rfl))
      (by kernel_rfl) (by kernel_rfl) ?_
    refine nT ?_
    refine T.seq ?_
    refine T.seq ?_
    refine tR (s1 := ⟨[slV ta true kU8 a, AV.any, dv (.slice none 0 0), AV.any, dv (.bool false)], []⟩) [true, false, true, false, true] []
      (oC (oS rfl rfl (r_move (av := slV ta true kU8 a) (lt_of rfl) trivial))
      (oC (oS rfl rfl (r_eqNil (s := .d (dsl ta true kU8 a)) Try.underlying27 (.inl rfl) (lt_of rfl) ⟨rfl, trivial⟩)) (oZ rfl)))
      (by kernel_rfl) (by kernel_rfl) ?_
    refine nT ?_
    refine T.condF (b := false) rfl rfl ?_
    refine T.skip ?_
    refine nT ?_
    refine T.seq ?_
    refine tR (s1 := ⟨[slV ta true kU8 a, AV.any, ownV 1 kU8 0 a.length, AV.any, dv (.bool false)], [.dead, .live (arrK 5 kU8 a)]⟩) [true, false, true, false, true] [true, true]
      (oC (oS rfl rfl (q_buildSlice 0 5 kU8 kU8_ok ([] : List UInt8) [] (cs := []) Try.underlying27 iat_5 rfl zero_5 rfl rfl rfl (Nat.le_of_ble_eq_true rfl) part_ok rfl trivial (lt_of rfl) trivial))
      (oC (oS rfl rfl (r_move (av := slV ta true kU8 a) (lt_of rfl) trivial))
      (oC (oS rfl rfl (q_appendO 0 1 5 1 kU8 kU8_ok ([] : List UInt8) a a ([] : List UInt8).length (sy := (.d (dsl ta true kU8 a))) (rhs := []) elem_27 (by first | assumption | omega | (simp only [maxLen, kU8_sz, kSl_sz, k_api_Envelope_sz, k_api_Packet_sz, k_quaestorlaw20_Act_sz]; omega) | (simp only [maxLen, kU8_sz, kSl_sz, k_api_Envelope_sz, k_api_Packet_sz, k_quaestorlaw20_Act_sz, List.length_append, List.length_cons, List.length_nil, List.length_take, List.length_drop, List.length_set]; omega) | decide) (src_sl ta true kU8 a) (by simp) (by first | assumption | omega | (simp only [maxLen, kU8_sz, kSl_sz, k_api_Envelope_sz, k_api_Packet_sz, k_quaestorlaw20_Act_sz]; omega) | (simp only [maxLen, kU8_sz, kSl_sz, k_api_Envelope_sz, k_api_Packet_sz, k_quaestorlaw20_Act_sz, List.length_append, List.length_cons, List.length_nil, List.length_take, List.length_drop, List.length_set]; omega) | decide) (by first | assumption | omega | (simp only [maxLen, kU8_sz, kSl_sz, k_api_Envelope_sz, k_api_Packet_sz, k_quaestorlaw20_Act_sz]; omega) | (simp only [maxLen, kU8_sz, kSl_sz, k_api_Envelope_sz, k_api_Packet_sz, k_quaestorlaw20_Act_sz, List.length_append, List.length_cons, List.length_nil, List.length_take, List.length_drop, List.length_set]; omega) | decide) (lt_of rfl) trivial))
      (oC (oS rfl rfl (r_assign (av := ownV 1 kU8 0 a.length) (lt_of rfl) trivial)) (oZ rfl)))))
      (by kernel_rfl) (by kernel_rfl) ?_
    refine nT ?_
    refine T.ret ?_
    exact tE (.inl rfl) [.t 2 (.one (.own 1 kU8.sz 0 a.length))] ⟨⟨rfl, rfl⟩, trivial⟩ [1] rfl rfl rfl rfl rfl rfl ⟨⟨rfl, rfl⟩, trivial⟩

theorem iat_3 : Try.prog.info? 3 = some Try.t3 := by kernel_rfl
theorem fld_29_0 : FieldAt Try.prog 29 0 0 := ⟨_, _, _, Try.underlying29, rfl, iat_3, by decide, rfl⟩
theorem wide_3 : Wide Try.prog 3 none := ⟨_, Try.underlying3, (fun _ h => by cases h), (fun _ _ h => by cases h)⟩
theorem iat_27 : Try.prog.info? 27 = some Try.t27 := by kernel_rfl
theorem fld_29_1 : FieldAt Try.prog 29 1 1 := ⟨_, _, _, Try.underlying29, rfl, iat_27, by decide, rfl⟩
theorem wide_27 : Wide Try.prog 27 none := ⟨_, Try.underlying27, (fun _ h => by cases h), (fun _ _ h => by cases h)⟩
-- quaestor/quaestorref03.Same
theorem ref03_Same (ta : Bool) (tb : Bool) (a : api_Envelope) (b : api_Envelope) : Holds Try.prog 22 ⟨[.tv (.agg [.d (.val (.int .i64 a.f_Signer)), .d (dsl ta false kU8 a.f_Body)]), .tv (.agg [.d (.val (.int .i64 b.f_Signer)), .d (dsl tb false kU8 b.f_Body)])], [], dv (.bool (decide (a = b))), []⟩ := by
  refine Holds.of Try.func22 rfl (N := 17) Try.ntmps22 rfl fun w0 B0 S0 U0 => ?_
  show T _ (mkBase 17 0 w0 S0 U0 B0) ⟨[.tv (.agg [.d (.val (.int .i64 a.f_Signer)), .d (dsl ta false kU8 a.f_Body)]), .tv (.agg [.d (.val (.int .i64 b.f_Signer)), .d (dsl tb false kU8 b.f_Body)])], []⟩ _ _
  refine T.seq ?_
  refine tR (s1 := ⟨[.tv (.agg [.d (.val (.int .i64 a.f_Signer)), .d (dsl ta false kU8 a.f_Body)]), .tv (.agg [.d (.val (.int .i64 b.f_Signer)), .d (dsl tb false kU8 b.f_Body)]), pv 0 0, pv 1 0, dv (.bool false)], [.live (.box 29 [.d (.val (.int .i64 a.f_Signer)), .d (dsl ta false kU8 a.f_Body)]), .live (.box 29 [.d (.val (.int .i64 b.f_Signer)), .d (dsl tb false kU8 b.f_Body)])]⟩) [true, true, true, true, true] [true, true]
    (oC (oS rfl rfl (r_box (l := 0) (t := .agg [.d (.val (.int .i64 a.f_Signer)), .d (dsl ta false kU8 a.f_Body)]) rfl (lt_of rfl) trivial))
    (oC (oS rfl rfl (r_box (l := 1) (t := .agg [.d (.val (.int .i64 b.f_Signer)), .d (dsl tb false kU8 b.f_Body)]) rfl (lt_of rfl) trivial))
    (oC (oS rfl rfl (r_assign (av := dv (.bool false)) (lt_of rfl) ⟨rfl, trivial⟩)) (oZ rfl))))
    (by kernel_rfl) (by kernel_rfl) ?_
  refine nT ?_
  refine T.seq ?_
  by_cases hq1 : a.f_Signer = b.f_Signer
  · refine tR (s1 := ⟨[.tv (.agg [.d (.val (.int .i64 a.f_Signer)), .d (dsl ta false kU8 a.f_Body)]), .tv (.agg [.d (.val (.int .i64 b.f_Signer)), .d (dsl tb false kU8 b.f_Body)]), pv 0 0, pv 1 0, dv (.bool (decide (a.f_Body = b.f_Body)))], [.live (.box 29 [.d (.val (.int .i64 a.f_Signer)), .d (dsl ta false kU8 a.f_Body)]), .live (.box 29 [.d (.val (.int .i64 b.f_Signer)), .d (dsl tb false kU8 b.f_Body)])]⟩) [true, true, true, true, true] [true, true]
      (oC (oS rfl rfl (r_fieldAddr (l := 0) (off := 0) fld_29_0 (lt_of rfl) trivial))
      (oC (oS rfl rfl (r_loadB (l := 0) (off := 0) (T := 29) (cs := [.d (.val (.int .i64 a.f_Signer)), .d (dsl ta false kU8 a.f_Body)]) (c := .d (.val (.int .i64 a.f_Signer))) wide_3 rfl (lt_of rfl) trivial))
      (oC (oS rfl rfl (r_fieldAddr (l := 1) (off := 0) fld_29_0 (lt_of rfl) trivial))
      (oC (oS rfl rfl (r_loadB (l := 1) (off := 0) (T := 29) (cs := [.d (.val (.int .i64 b.f_Signer)), .d (dsl tb false kU8 b.f_Body)]) (c := .d (.val (.int .i64 b.f_Signer))) wide_3 rfl (lt_of rfl) trivial))
      (oC (oS rfl rfl (r_bin (u1 := .int .i64 a.f_Signer) (u2 := .int .i64 b.f_Signer) (v := .bool (decide (a.f_Signer = b.f_Signer))) b_eql (lt_of rfl) trivial))
      (oC (oS rfl rfl (r_move (av := dv (.bool (decide (a.f_Signer = b.f_Signer)))) (lt_of rfl) trivial))
      (oC (oY (b := (decide (a.f_Signer = b.f_Signer))) rfl rfl rfl rfl (lt_of rfl) (decide_eq_true hq1) (r_fieldAddr (l := 0) (off := 0) fld_29_1 (lt_of rfl) trivial))
      (oC (oY (b := (decide (a.f_Signer = b.f_Signer))) rfl rfl rfl rfl (lt_of rfl) (decide_eq_true hq1) (r_loadB (l := 0) (off := 1) (T := 29) (cs := [.d (.val (.int .i64 a.f_Signer)), .d (dsl ta false kU8 a.f_Body)]) (c := .d (dsl ta false kU8 a.f_Body)) wide_27 rfl (lt_of rfl) trivial))
      (oC (oY (b := (decide (a.f_Signer = b.f_Signer))) rfl rfl rfl rfl (lt_of rfl) (decide_eq_true hq1) (r_fieldAddr (l := 1) (off := 0) fld_29_1 (lt_of rfl) trivial))
      (oC (oY (b := (decide (a.f_Signer = b.f_Signer))) rfl rfl rfl rfl (lt_of rfl) (decide_eq_true hq1) (r_loadB (l := 1) (off := 1) (T := 29) (cs := [.d (.val (.int .i64 b.f_Signer)), .d (dsl tb false kU8 b.f_Body)]) (c := .d (dsl tb false kU8 b.f_Body)) wide_27 rfl (lt_of rfl) trivial))
      (oC (oY (b := (decide (a.f_Signer = b.f_Signer))) rfl rfl rfl rfl (lt_of rfl) (decide_eq_true hq1) (r_call (ref01_Same ta false tb false a.f_Body b.f_Body ) Try.func28 rfl (by decide) [] [] (l := [(.tmp 12, slV ta false kU8 a.f_Body), (.tmp 14, slV tb false kU8 b.f_Body)]) [] rfl 0 0 rfl rfl rfl rfl rfl rfl rfl rfl rfl ⟨.inl ⟨rfl, rfl⟩, ⟨.inl ⟨rfl, rfl⟩, trivial⟩⟩ rfl (fun b hb => by cases hb) (.inl rfl) (lt_of rfl) trivial))
      (oC (oS rfl rfl (r_pickT (b := (decide (a.f_Signer = b.f_Signer))) (av := dv (.bool (decide (a.f_Body = b.f_Body)))) (lt_of rfl) trivial (decide_eq_true hq1)))
      (oC (oS rfl rfl (r_assign (av := dv (.bool (decide (a.f_Body = b.f_Body)))) (lt_of rfl) trivial)) (oZ rfl))))))))))))))
      (by kernel_rfl) (by kernel_rfl) ?_
    refine nT ?_
    refine T.ret ?_
    exact tE (.inl rfl) [.t 4 (.one (.d (.val (.bool (decide (a.f_Body = b.f_Body))))))] ⟨⟨rfl, rfl⟩, trivial⟩ [] (by have e1 : ((decide (a = b)) : Bool) = (decide (a.f_Body = b.f_Body)) := (by simp [api_Envelope_iff, *]); have hE := congrArg (fun (q1 : Bool) => (dv (.bool q1) : AV)) e1; exact hE) rfl rfl rfl rfl rfl trivial
  · refine tR (s1 := ⟨[.tv (.agg [.d (.val (.int .i64 a.f_Signer)), .d (dsl ta false kU8 a.f_Body)]), .tv (.agg [.d (.val (.int .i64 b.f_Signer)), .d (dsl tb false kU8 b.f_Body)]), pv 0 0, pv 1 0, dv (.bool false)], [.live (.box 29 [.d (.val (.int .i64 a.f_Signer)), .d (dsl ta false kU8 a.f_Body)]), .live (.box 29 [.d (.val (.int .i64 b.f_Signer)), .d (dsl tb false kU8 b.f_Body)])]⟩) [true, true, true, true, true] [true, true]
      (oC (oS rfl rfl (r_fieldAddr (l := 0) (off := 0) fld_29_0 (lt_of rfl) trivial))
      (oC (oS rfl rfl (r_loadB (l := 0) (off := 0) (T := 29) (cs := [.d (.val (.int .i64 a.f_Signer)), .d (dsl ta false kU8 a.f_Body)]) (c := .d (.val (.int .i64 a.f_Signer))) wide_3 rfl (lt_of rfl) trivial))
      (oC (oS rfl rfl (r_fieldAddr (l := 1) (off := 0) fld_29_0 (lt_of rfl) trivial))
      (oC (oS rfl rfl (r_loadB (l := 1) (off := 0) (T := 29) (cs := [.d (.val (.int .i64 b.f_Signer)), .d (dsl tb false kU8 b.f_Body)]) (c := .d (.val (.int .i64 b.f_Signer))) wide_3 rfl (lt_of rfl) trivial))
      (oC (oS rfl rfl (r_bin (u1 := .int .i64 a.f_Signer) (u2 := .int .i64 b.f_Signer) (v := .bool (decide (a.f_Signer = b.f_Signer))) b_eql (lt_of rfl) trivial))
      (oC (oS rfl rfl (r_move (av := dv (.bool (decide (a.f_Signer = b.f_Signer)))) (lt_of rfl) trivial))
      (oC (oN (b := (decide (a.f_Signer = b.f_Signer))) rfl rfl rfl rfl (lt_of rfl) (decide_eq_false hq1) rfl (lt_of rfl))
      (oC (oN (b := (decide (a.f_Signer = b.f_Signer))) rfl rfl rfl rfl (lt_of rfl) (decide_eq_false hq1) rfl (lt_of rfl))
      (oC (oN (b := (decide (a.f_Signer = b.f_Signer))) rfl rfl rfl rfl (lt_of rfl) (decide_eq_false hq1) rfl (lt_of rfl))
      (oC (oN (b := (decide (a.f_Signer = b.f_Signer))) rfl rfl rfl rfl (lt_of rfl) (decide_eq_false hq1) rfl (lt_of rfl))
      (oC (oN (b := (decide (a.f_Signer = b.f_Signer))) rfl rfl rfl rfl (lt_of rfl) (decide_eq_false hq1) rfl (lt_of rfl))
      (oC (oS rfl rfl (r_pickF (b := (decide (a.f_Signer = b.f_Signer))) (av := dv (.bool false)) (lt_of rfl) ⟨rfl, trivial⟩ (decide_eq_false hq1)))
      (oC (oS rfl rfl (r_assign (av := dv (.bool false)) (lt_of rfl) trivial)) (oZ rfl))))))))))))))
      (by kernel_rfl) (by kernel_rfl) ?_
    refine nT ?_
    refine T.ret ?_
    exact tE (.inl rfl) [.t 4 (.one (.d (.val (.bool false))))] ⟨⟨rfl, rfl⟩, trivial⟩ [] (by have e1 : ((decide (a = b)) : Bool) = false := (by simp [api_Envelope_iff, *]); have hE := congrArg (fun (q1 : Bool) => (dv (.bool q1) : AV)) e1; exact hE) rfl rfl rfl rfl rfl trivial

theorem fld_35_0 : FieldAt Try.prog 35 0 0 := ⟨_, _, _, Try.underlying35, rfl, iat_3, by decide, rfl⟩
theorem fld_35_1 : FieldAt Try.prog 35 1 1 := ⟨_, _, _, Try.underlying35, rfl, iat_3, by decide, rfl⟩
theorem iat_29 : Try.prog.info? 29 = some Try.t29 := by kernel_rfl
theorem fld_35_2 : FieldAt Try.prog 35 2 2 := ⟨_, _, _, Try.underlying35, rfl, iat_29, by decide, rfl⟩
theorem wide_29 : Wide Try.prog 29 (some 2) := ⟨_, _, Try.underlying29, .inl ⟨_, rfl⟩, iat_29, rfl⟩
-- quaestor/quaestorref20.Same
theorem ref20_Same (ta : Bool) (tb : Bool) (a : api_Packet) (b : api_Packet) : Holds Try.prog 13 ⟨[.tv (.agg [.d (.val (.int .i64 a.f_Id)), .d (.val (.int .i64 a.f_To)), .d (.val (.int .i64 a.f_Env.f_Signer)), .d (dsl ta false kU8 a.f_Env.f_Body)]), .tv (.agg [.d (.val (.int .i64 b.f_Id)), .d (.val (.int .i64 b.f_To)), .d (.val (.int .i64 b.f_Env.f_Signer)), .d (dsl tb false kU8 b.f_Env.f_Body)])], [], dv (.bool (decide (a = b))), []⟩ := by
  refine Holds.of Try.func13 rfl (N := 24) Try.ntmps13 rfl fun w0 B0 S0 U0 => ?_
  show T _ (mkBase 24 0 w0 S0 U0 B0) ⟨[.tv (.agg [.d (.val (.int .i64 a.f_Id)), .d (.val (.int .i64 a.f_To)), .d (.val (.int .i64 a.f_Env.f_Signer)), .d (dsl ta false kU8 a.f_Env.f_Body)]), .tv (.agg [.d (.val (.int .i64 b.f_Id)), .d (.val (.int .i64 b.f_To)), .d (.val (.int .i64 b.f_Env.f_Signer)), .d (dsl tb false kU8 b.f_Env.f_Body)])], []⟩ _ _
  refine T.seq ?_
  refine tR (s1 := ⟨[.tv (.agg [.d (.val (.int .i64 a.f_Id)), .d (.val (.int .i64 a.f_To)), .d (.val (.int .i64 a.f_Env.f_Signer)), .d (dsl ta false kU8 a.f_Env.f_Body)]), .tv (.agg [.d (.val (.int .i64 b.f_Id)), .d (.val (.int .i64 b.f_To)), .d (.val (.int .i64 b.f_Env.f_Signer)), .d (dsl tb false kU8 b.f_Env.f_Body)]), pv 0 0, pv 1 0, dv (.bool false)], [.live (.box 35 [.d (.val (.int .i64 a.f_Id)), .d (.val (.int .i64 a.f_To)), .d (.val (.int .i64 a.f_Env.f_Signer)), .d (dsl ta false kU8 a.f_Env.f_Body)]), .live (.box 35 [.d (.val (.int .i64 b.f_Id)), .d (.val (.int .i64 b.f_To)), .d (.val (.int .i64 b.f_Env.f_Signer)), .d (dsl tb false kU8 b.f_Env.f_Body)])]⟩) [true, true, true, true, true] [true, true]
    (oC (oS rfl rfl (r_box (l := 0) (t := .agg [.d (.val (.int .i64 a.f_Id)), .d (.val (.int .i64 a.f_To)), .d (.val (.int .i64 a.f_Env.f_Signer)), .d (dsl ta false kU8 a.f_Env.f_Body)]) rfl (lt_of rfl) trivial))
    (oC (oS rfl rfl (r_box (l := 1) (t := .agg [.d (.val (.int .i64 b.f_Id)), .d (.val (.int .i64 b.f_To)), .d (.val (.int .i64 b.f_Env.f_Signer)), .d (dsl tb false kU8 b.f_Env.f_Body)]) rfl (lt_of rfl) trivial))
    (oC (oS rfl rfl (r_assign (av := dv (.bool false)) (lt_of rfl) ⟨rfl, trivial⟩)) (oZ rfl))))
    (by kernel_rfl) (by kernel_rfl) ?_
  refine nT ?_
  refine T.seq ?_
  by_cases hq1 : a.f_Id = b.f_Id
  · by_cases hq2 : a.f_To = b.f_To
    · refine tR (s1 := ⟨[.tv (.agg [.d (.val (.int .i64 a.f_Id)), .d (.val (.int .i64 a.f_To)), .d (.val (.int .i64 a.f_Env.f_Signer)), .d (dsl ta false kU8 a.f_Env.f_Body)]), .tv (.agg [.d (.val (.int .i64 b.f_Id)), .d (.val (.int .i64 b.f_To)), .d (.val (.int .i64 b.f_Env.f_Signer)), .d (dsl tb false kU8 b.f_Env.f_Body)]), pv 0 0, pv 1 0, dv (.bool (decide (a.f_Env = b.f_Env)))], [.live (.box 35 [.d (.val (.int .i64 a.f_Id)), .d (.val (.int .i64 a.f_To)), .d (.val (.int .i64 a.f_Env.f_Signer)), .d (dsl ta false kU8 a.f_Env.f_Body)]), .live (.box 35 [.d (.val (.int .i64 b.f_Id)), .d (.val (.int .i64 b.f_To)), .d (.val (.int .i64 b.f_Env.f_Signer)), .d (dsl tb false kU8 b.f_Env.f_Body)])]⟩) [true, true, true, true, true] [true, true]
        (oC (oS rfl rfl (r_fieldAddr (l := 0) (off := 0) fld_35_0 (lt_of rfl) trivial))
        (oC (oS rfl rfl (r_loadB (l := 0) (off := 0) (T := 35) (cs := [.d (.val (.int .i64 a.f_Id)), .d (.val (.int .i64 a.f_To)), .d (.val (.int .i64 a.f_Env.f_Signer)), .d (dsl ta false kU8 a.f_Env.f_Body)]) (c := .d (.val (.int .i64 a.f_Id))) wide_3 rfl (lt_of rfl) trivial))
        (oC (oS rfl rfl (r_fieldAddr (l := 1) (off := 0) fld_35_0 (lt_of rfl) trivial))
        (oC (oS rfl rfl (r_loadB (l := 1) (off := 0) (T := 35) (cs := [.d (.val (.int .i64 b.f_Id)), .d (.val (.int .i64 b.f_To)), .d (.val (.int .i64 b.f_Env.f_Signer)), .d (dsl tb false kU8 b.f_Env.f_Body)]) (c := .d (.val (.int .i64 b.f_Id))) wide_3 rfl (lt_of rfl) trivial))
        (oC (oS rfl rfl (r_bin (u1 := .int .i64 a.f_Id) (u2 := .int .i64 b.f_Id) (v := .bool (decide (a.f_Id = b.f_Id))) b_eql (lt_of rfl) trivial))
        (oC (oS rfl rfl (r_move (av := dv (.bool (decide (a.f_Id = b.f_Id)))) (lt_of rfl) trivial))
        (oC (oY (b := (decide (a.f_Id = b.f_Id))) rfl rfl rfl rfl (lt_of rfl) (decide_eq_true hq1) (r_fieldAddr (l := 0) (off := 0) fld_35_1 (lt_of rfl) trivial))
        (oC (oY (b := (decide (a.f_Id = b.f_Id))) rfl rfl rfl rfl (lt_of rfl) (decide_eq_true hq1) (r_loadB (l := 0) (off := 1) (T := 35) (cs := [.d (.val (.int .i64 a.f_Id)), .d (.val (.int .i64 a.f_To)), .d (.val (.int .i64 a.f_Env.f_Signer)), .d (dsl ta false kU8 a.f_Env.f_Body)]) (c := .d (.val (.int .i64 a.f_To))) wide_3 rfl (lt_of rfl) trivial))
        (oC (oY (b := (decide (a.f_Id = b.f_Id))) rfl rfl rfl rfl (lt_of rfl) (decide_eq_true hq1) (r_fieldAddr (l := 1) (off := 0) fld_35_1 (lt_of rfl) trivial))
        (oC (oY (b := (decide (a.f_Id = b.f_Id))) rfl rfl rfl rfl (lt_of rfl) (decide_eq_true hq1) (r_loadB (l := 1) (off := 1) (T := 35) (cs := [.d (.val (.int .i64 b.f_Id)), .d (.val (.int .i64 b.f_To)), .d (.val (.int .i64 b.f_Env.f_Signer)), .d (dsl tb false kU8 b.f_Env.f_Body)]) (c := .d (.val (.int .i64 b.f_To))) wide_3 rfl (lt_of rfl) trivial))
        (oC (oY (b := (decide (a.f_Id = b.f_Id))) rfl rfl rfl rfl (lt_of rfl) (decide_eq_true hq1) (r_bin (u1 := .int .i64 a.f_To) (u2 := .int .i64 b.f_To) (v := .bool (decide (a.f_To = b.f_To))) b_eql (lt_of rfl) trivial))
        (oC (oS rfl rfl (r_pickT (b := (decide (a.f_Id = b.f_Id))) (av := dv (.bool (decide (a.f_To = b.f_To)))) (lt_of rfl) trivial (decide_eq_true hq1)))
        (oC (oS rfl rfl (r_move (av := dv (.bool (decide (a.f_To = b.f_To)))) (lt_of rfl) trivial))
        (oC (oY (b := (decide (a.f_To = b.f_To))) rfl rfl rfl rfl (lt_of rfl) (decide_eq_true hq2) (r_fieldAddr (l := 0) (off := 0) fld_35_2 (lt_of rfl) trivial))
        (oC (oY (b := (decide (a.f_To = b.f_To))) rfl rfl rfl rfl (lt_of rfl) (decide_eq_true hq2) (r_loadBs (l := 0) (off := 2) (T := 35) (cs := [.d (.val (.int .i64 a.f_Id)), .d (.val (.int .i64 a.f_To)), .d (.val (.int .i64 a.f_Env.f_Signer)), .d (dsl ta false kU8 a.f_Env.f_Body)]) (ds := [.d (.val (.int .i64 a.f_Env.f_Signer)), .d (dsl ta false kU8 a.f_Env.f_Body)]) wide_29 rfl (Nat.le_of_ble_eq_true rfl) (lt_of rfl) trivial))
        (oC (oY (b := (decide (a.f_To = b.f_To))) rfl rfl rfl rfl (lt_of rfl) (decide_eq_true hq2) (r_fieldAddr (l := 1) (off := 0) fld_35_2 (lt_of rfl) trivial))
        (oC (oY (b := (decide (a.f_To = b.f_To))) rfl rfl rfl rfl (lt_of rfl) (decide_eq_true hq2) (r_loadBs (l := 1) (off := 2) (T := 35) (cs := [.d (.val (.int .i64 b.f_Id)), .d (.val (.int .i64 b.f_To)), .d (.val (.int .i64 b.f_Env.f_Signer)), .d (dsl tb false kU8 b.f_Env.f_Body)]) (ds := [.d (.val (.int .i64 b.f_Env.f_Signer)), .d (dsl tb false kU8 b.f_Env.f_Body)]) wide_29 rfl (Nat.le_of_ble_eq_true rfl) (lt_of rfl) trivial))
        (oC (oY (b := (decide (a.f_To = b.f_To))) rfl rfl rfl rfl (lt_of rfl) (decide_eq_true hq2) (r_call (ref03_Same ta tb a.f_Env b.f_Env ) Try.func22 rfl (by decide) [] [] (l := [(.tmp 19, .tv (.agg [.d (.val (.int .i64 a.f_Env.f_Signer)), .d (dsl ta false kU8 a.f_Env.f_Body)])), (.tmp 21, .tv (.agg [.d (.val (.int .i64 b.f_Env.f_Signer)), .d (dsl tb false kU8 b.f_Env.f_Body)]))]) [] rfl 0 0 rfl rfl rfl rfl rfl rfl rfl rfl rfl ⟨⟨.inl ⟨rfl, rfl⟩, ⟨.inl ⟨rfl, rfl⟩, trivial⟩⟩, ⟨⟨.inl ⟨rfl, rfl⟩, ⟨.inl ⟨rfl, rfl⟩, trivial⟩⟩, trivial⟩⟩ rfl (fun b hb => by cases hb) (.inl rfl) (lt_of rfl) trivial))
        (oC (oS rfl rfl (r_pickT (b := (decide (a.f_To = b.f_To))) (av := dv (.bool (decide (a.f_Env = b.f_Env)))) (lt_of rfl) trivial (decide_eq_true hq2)))
        (oC (oS rfl rfl (r_assign (av := dv (.bool (decide (a.f_Env = b.f_Env)))) (lt_of rfl) trivial)) (oZ rfl)))))))))))))))))))))
        (by kernel_rfl) (by kernel_rfl) ?_
      refine nT ?_
      refine T.ret ?_
      exact tE (.inl rfl) [.t 4 (.one (.d (.val (.bool (decide (a.f_Env = b.f_Env))))))] ⟨⟨rfl, rfl⟩, trivial⟩ [] (by have e1 : ((decide (a = b)) : Bool) = (decide (a.f_Env = b.f_Env)) := (by simp [api_Packet_iff, *]); have hE := congrArg (fun (q1 : Bool) => (dv (.bool q1) : AV)) e1; exact hE) rfl rfl rfl rfl rfl trivial
    · refine tR (s1 := ⟨[.tv (.agg [.d (.val (.int .i64 a.f_Id)), .d (.val (.int .i64 a.f_To)), .d (.val (.int .i64 a.f_Env.f_Signer)), .d (dsl ta false kU8 a.f_Env.f_Body)]), .tv (.agg [.d (.val (.int .i64 b.f_Id)), .d (.val (.int .i64 b.f_To)), .d (.val (.int .i64 b.f_Env.f_Signer)), .d (dsl tb false kU8 b.f_Env.f_Body)]), pv 0 0, pv 1 0, dv (.bool false)], [.live (.box 35 [.d (.val (.int .i64 a.f_Id)), .d (.val (.int .i64 a.f_To)), .d (.val (.int .i64 a.f_Env.f_Signer)), .d (dsl ta false kU8 a.f_Env.f_Body)]), .live (.box 35 [.d (.val (.int .i64 b.f_Id)), .d (.val (.int .i64 b.f_To)), .d (.val (.int .i64 b.f_Env.f_Signer)), .d (dsl tb false kU8 b.f_Env.f_Body)])]⟩) [true, true, true, true, true] [true, true]
        (oC (oS rfl rfl (r_fieldAddr (l := 0) (off := 0) fld_35_0 (lt_of rfl) trivial))
        (oC (oS rfl rfl (r_loadB (l := 0) (off := 0) (T := 35) (cs := [.d (.val (.int .i64 a.f_Id)), .d (.val (.int .i64 a.f_To)), .d (.val (.int .i64 a.f_Env.f_Signer)), .d (dsl ta false kU8 a.f_Env.f_Body)]) (c := .d (.val (.int .i64 a.f_Id))) wide_3 rfl (lt_of rfl) trivial))
        (oC (oS rfl rfl (r_fieldAddr (l := 1) (off := 0) fld_35_0 (lt_of rfl) trivial))
        (oC (oS rfl rfl (r_loadB (l := 1) (off := 0) (T := 35) (cs := [.d (.val (.int .i64 b.f_Id)), .d (.val (.int .i64 b.f_To)), .d (.val (.int .i64 b.f_Env.f_Signer)), .d (dsl tb false kU8 b.f_Env.f_Body)]) (c := .d (.val (.int .i64 b.f_Id))) wide_3 rfl (lt_of rfl) trivial))
        (oC (oS rfl rfl (r_bin (u1 := .int .i64 a.f_Id) (u2 := .int .i64 b.f_Id) (v := .bool (decide (a.f_Id = b.f_Id))) b_eql (lt_of rfl) trivial))
        (oC (oS rfl rfl (r_move (av := dv (.bool (decide (a.f_Id = b.f_Id)))) (lt_of rfl) trivial))
        (oC (oY (b := (decide (a.f_Id = b.f_Id))) rfl rfl rfl rfl (lt_of rfl) (decide_eq_true hq1) (r_fieldAddr (l := 0) (off := 0) fld_35_1 (lt_of rfl) trivial))
        (oC (oY (b := (decide (a.f_Id = b.f_Id))) rfl rfl rfl rfl (lt_of rfl) (decide_eq_true hq1) (r_loadB (l := 0) (off := 1) (T := 35) (cs := [.d (.val (.int .i64 a.f_Id)), .d (.val (.int .i64 a.f_To)), .d (.val (.int .i64 a.f_Env.f_Signer)), .d (dsl ta false kU8 a.f_Env.f_Body)]) (c := .d (.val (.int .i64 a.f_To))) wide_3 rfl (lt_of rfl) trivial))
        (oC (oY (b := (decide (a.f_Id = b.f_Id))) rfl rfl rfl rfl (lt_of rfl) (decide_eq_true hq1) (r_fieldAddr (l := 1) (off := 0) fld_35_1 (lt_of rfl) trivial))
        (oC (oY (b := (decide (a.f_Id = b.f_Id))) rfl rfl rfl rfl (lt_of rfl) (decide_eq_true hq1) (r_loadB (l := 1) (off := 1) (T := 35) (cs := [.d (.val (.int .i64 b.f_Id)), .d (.val (.int .i64 b.f_To)), .d (.val (.int .i64 b.f_Env.f_Signer)), .d (dsl tb false kU8 b.f_Env.f_Body)]) (c := .d (.val (.int .i64 b.f_To))) wide_3 rfl (lt_of rfl) trivial))
        (oC (oY (b := (decide (a.f_Id = b.f_Id))) rfl rfl rfl rfl (lt_of rfl) (decide_eq_true hq1) (r_bin (u1 := .int .i64 a.f_To) (u2 := .int .i64 b.f_To) (v := .bool (decide (a.f_To = b.f_To))) b_eql (lt_of rfl) trivial))
        (oC (oS rfl rfl (r_pickT (b := (decide (a.f_Id = b.f_Id))) (av := dv (.bool (decide (a.f_To = b.f_To)))) (lt_of rfl) trivial (decide_eq_true hq1)))
        (oC (oS rfl rfl (r_move (av := dv (.bool (decide (a.f_To = b.f_To)))) (lt_of rfl) trivial))
        (oC (oN (b := (decide (a.f_To = b.f_To))) rfl rfl rfl rfl (lt_of rfl) (decide_eq_false hq2) rfl (lt_of rfl))
        (oC (oN (b := (decide (a.f_To = b.f_To))) rfl rfl rfl rfl (lt_of rfl) (decide_eq_false hq2) rfl (lt_of rfl))
        (oC (oN (b := (decide (a.f_To = b.f_To))) rfl rfl rfl rfl (lt_of rfl) (decide_eq_false hq2) rfl (lt_of rfl))
        (oC (oN (b := (decide (a.f_To = b.f_To))) rfl rfl rfl rfl (lt_of rfl) (decide_eq_false hq2) rfl (lt_of rfl))
        (oC (oN (b := (decide (a.f_To = b.f_To))) rfl rfl rfl rfl (lt_of rfl) (decide_eq_false hq2) rfl (lt_of rfl))
        (oC (oS rfl rfl (r_pickF (b := (decide (a.f_To = b.f_To))) (av := dv (.bool false)) (lt_of rfl) ⟨rfl, trivial⟩ (decide_eq_false hq2)))
        (oC (oS rfl rfl (r_assign (av := dv (.bool false)) (lt_of rfl) trivial)) (oZ rfl)))))))))))))))))))))
        (by kernel_rfl) (by kernel_rfl) ?_
      refine nT ?_
      refine T.ret ?_
      exact tE (.inl rfl) [.t 4 (.one (.d (.val (.bool false))))] ⟨⟨rfl, rfl⟩, trivial⟩ [] (by have e1 : ((decide (a = b)) : Bool) = false := (by simp [api_Packet_iff, *]); have hE := congrArg (fun (q1 : Bool) => (dv (.bool q1) : AV)) e1; exact hE) rfl rfl rfl rfl rfl trivial
  · refine tR (s1 := ⟨[.tv (.agg [.d (.val (.int .i64 a.f_Id)), .d (.val (.int .i64 a.f_To)), .d (.val (.int .i64 a.f_Env.f_Signer)), .d (dsl ta false kU8 a.f_Env.f_Body)]), .tv (.agg [.d (.val (.int .i64 b.f_Id)), .d (.val (.int .i64 b.f_To)), .d (.val (.int .i64 b.f_Env.f_Signer)), .d (dsl tb false kU8 b.f_Env.f_Body)]), pv 0 0, pv 1 0, dv (.bool false)], [.live (.box 35 [.d (.val (.int .i64 a.f_Id)), .d (.val (.int .i64 a.f_To)), .d (.val (.int .i64 a.f_Env.f_Signer)), .d (dsl ta false kU8 a.f_Env.f_Body)]), .live (.box 35 [.d (.val (.int .i64 b.f_Id)), .d (.val (.int .i64 b.f_To)), .d (.val (.int .i64 b.f_Env.f_Signer)), .d (dsl tb false kU8 b.f_Env.f_Body)])]⟩) [true, true, true, true, true] [true, true]
      (oC (oS rfl rfl (r_fieldAddr (l := 0) (off := 0) fld_35_0 (lt_of rfl) trivial))
      (oC (oS rfl rfl (r_loadB (l := 0) (off := 0) (T := 35) (cs := [.d (.val (.int .i64 a.f_Id)), .d (.val (.int .i64 a.f_To)), .d (.val (.int .i64 a.f_Env.f_Signer)), .d (dsl ta false kU8 a.f_Env.f_Body)]) (c := .d (.val (.int .i64 a.f_Id))) wide_3 rfl (lt_of rfl) trivial))
      (oC (oS rfl rfl (r_fieldAddr (l := 1) (off := 0) fld_35_0 (lt_of rfl) trivial))
      (oC (oS rfl rfl (r_loadB (l := 1) (off := 0) (T := 35) (cs := [.d (.val (.int .i64 b.f_Id)), .d (.val (.int .i64 b.f_To)), .d (.val (.int .i64 b.f_Env.f_Signer)), .d (dsl tb false kU8 b.f_Env.f_Body)]) (c := .d (.val (.int .i64 b.f_Id))) wide_3 rfl (lt_of rfl) trivial))
      (oC (oS rfl rfl (r_bin (u1 := .int .i64 a.f_Id) (u2 := .int .i64 b.f_Id) (v := .bool (decide (a.f_Id = b.f_Id))) b_eql (lt_of rfl) trivial))
      (oC (oS rfl rfl (r_move (av := dv (.bool (decide (a.f_Id = b.f_Id)))) (lt_of rfl) trivial))
      (oC (oN (b := (decide (a.f_Id = b.f_Id))) rfl rfl rfl rfl (lt_of rfl) (decide_eq_false hq1) rfl (lt_of rfl))
      (oC (oN (b := (decide (a.f_Id = b.f_Id))) rfl rfl rfl rfl (lt_of rfl) (decide_eq_false hq1) rfl (lt_of rfl))
      (oC (oN (b := (decide (a.f_Id = b.f_Id))) rfl rfl rfl rfl (lt_of rfl) (decide_eq_false hq1) rfl (lt_of rfl))
      (oC (oN (b := (decide (a.f_Id = b.f_Id))) rfl rfl rfl rfl (lt_of rfl) (decide_eq_false hq1) rfl (lt_of rfl))
      (oC (oN (b := (decide (a.f_Id = b.f_Id))) rfl rfl rfl rfl (lt_of rfl) (decide_eq_false hq1) rfl (lt_of rfl))
      (oC (oS rfl rfl (r_pickF (b := (decide (a.f_Id = b.f_Id))) (av := dv (.bool false)) (lt_of rfl) ⟨rfl, trivial⟩ (decide_eq_false hq1)))
      (oC (oS rfl rfl (r_move (av := dv (.bool false)) (lt_of rfl) trivial))
      (oC (oN (b := false) rfl rfl rfl rfl (lt_of rfl) rfl rfl (lt_of rfl))
      (oC (oN (b := false) rfl rfl rfl rfl (lt_of rfl) rfl rfl (lt_of rfl))
      (oC (oN (b := false) rfl rfl rfl rfl (lt_of rfl) rfl rfl (lt_of rfl))
      (oC (oN (b := false) rfl rfl rfl rfl (lt_of rfl) rfl rfl (lt_of rfl))
      (oC (oN (b := false) rfl rfl rfl rfl (lt_of rfl) rfl rfl (lt_of rfl))
      (oC (oS rfl rfl (r_pickF (b := false) (av := dv (.bool false)) (lt_of rfl) ⟨rfl, trivial⟩ rfl))
      (oC (oS rfl rfl (r_assign (av := dv (.bool false)) (lt_of rfl) trivial)) (oZ rfl)))))))))))))))))))))
      (by kernel_rfl) (by kernel_rfl) ?_
    refine nT ?_
    refine T.ret ?_
    exact tE (.inl rfl) [.t 4 (.one (.d (.val (.bool false))))] ⟨⟨rfl, rfl⟩, trivial⟩ [] (by have e1 : ((decide (a = b)) : Bool) = false := (by simp [api_Packet_iff, *]); have hE := congrArg (fun (q1 : Bool) => (dv (.bool q1) : AV)) e1; exact hE) rfl rfl rfl rfl rfl trivial
end Go.Proofs.Ytioenfjcbikbcaa.Q
