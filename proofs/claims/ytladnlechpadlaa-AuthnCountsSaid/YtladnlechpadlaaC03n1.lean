import Derived.Test.YtladnlechpadlaaC03n0
namespace Go.Proofs.Ytladnlechpadlaa.Q
open Go Go.RowKit
set_option linter.unusedVariables false
set_option linter.unusedSimpArgs false
set_option maxRecDepth 100000
set_option maxHeartbeats 4000000
theorem iat_32 : Try.prog.info? 32 = some Try.t32 := by kernel_rfl
theorem zero_32 : Zero Try.prog 32 [.int .i64 0, .slice none 0 0] := ⟨_, _, iat_32, rfl, rfl⟩
theorem iat_25 : Try.prog.info? 25 = some Try.t25 := by kernel_rfl
theorem places_32 : Places Try.prog 32 [(0, 1), (1, 1)] := ⟨_, Try.underlying32, ⟨⟨rfl, _, iat_3, rfl⟩, ⟨⟨rfl, _, iat_25, rfl⟩, trivial⟩⟩⟩
theorem cells_32 : Cells Try.prog 32 2 := ⟨_, iat_32, rfl⟩
theorem wide_32 : Wide Try.prog 32 (some 2) := ⟨_, _, Try.underlying32, .inl ⟨_, rfl⟩, iat_32, rfl⟩
theorem iat_61 : Try.prog.info? 61 = some Try.t61 := by kernel_rfl
theorem zero_61 : Zero Try.prog 61 [.int .i64 0, strV []] := ⟨_, _, iat_61, rfl, rfl⟩
theorem iat_9 : Try.prog.info? 9 = some Try.t9 := by kernel_rfl
theorem places_61 : Places Try.prog 61 [(0, 1), (1, 1)] := ⟨_, Try.underlying61, ⟨⟨rfl, _, iat_3, rfl⟩, ⟨⟨rfl, _, iat_9, rfl⟩, trivial⟩⟩⟩
abbrev zeb80_0 (f : Int) (u : Int) (s : Int) (tb : Bool) (nb : Bool) (b : List UInt8) : List AV := [pv 0 0, dv (.int .i64 s), slV tb nb kU8 b, aa, aa, aa, pv 2 0, dv (.int .i64 11), dv (.bool (!(decide (isKnown f u s)))), aa, aa, aa, aa, aa, dv (.bool (decide (((b.length : Nat) : Int) > 16777216)))]
abbrev zeb80_1 : SV := .d (.val (.slice none 0 0))
abbrev zeb80_2 : List SV := [.d (.val (.int .i64 0)), .own 3 kU8.sz 0 0]
-- (*quaestor/authn.Authority).Sign
theorem authn_Sign_o (f : Int) (u : Int) (rows : List (authn_pair × Bool)) (s : Int) (tb : Bool) (nb : Bool) (b : List UInt8) (hf : 0 ≤ f ∧ f ≤ 2) (hu : 0 ≤ u ∧ u ≤ 8) (hs : -9223372036854775808 ≤ s ∧ s ≤ 9223372036854775807) (hb : b.length ≤ 140737488355328) : Holds Try.prog 12 ⟨[pv 0 0, dv (.int .i64 s), slV tb nb kU8 b], [.box 58 [.d (.val (.int .i64 (3 * f + 1))), .d (.val (.int .i64 u)), .mref 1], mpK f_authn_pair kBool rows], .tup [.agg [.d (.val (.int .i64 (signV f u s b).f_Signer)), .own 2 kU8.sz 0 (signV f u s b).f_Body.length], .one (.d (.val (.int .i64 (signE f u s b))))], [.live (.box 58 [.d (.val (.int .i64 (3 * f + 1))), .d (.val (.int .i64 u)), .mref 1]), .live (mpK f_authn_pair kBool (signT f u rows s b)), .live (arrK 5 kU8 (signV f u s b).f_Body)]⟩ := by
 refine Holds.of Try.func12 rfl (N := 31) Try.ntmps12 rfl fun w0 B0 S0 U0 => ?_
 show T _ (mkBase 31 2 w0 S0 U0 B0) ⟨[pv 0 0, dv (.int .i64 s), slV tb nb kU8 b], [.live (.box 58 [.d (.val (.int .i64 (3 * f + 1))), .d (.val (.int .i64 u)), .mref 1]), .live (mpK f_authn_pair kBool rows)]⟩ _ _
 refine T.seq ?_
 refine xR [] (by kernel_rfl) (by kernel_rfl) ?_
 refine nT ?_
 refine T.seq ?_
 refine T.block ?_
 refine T.seq ?_
 refine xR [hR 2 rfl rfl (r_call (authn_Known f u rows s (by assumption) (by assumption) (by assumption)) Try.func31 rfl (by decide) [0, 1] [] (l := [(.tmp 9, pv 0 0), (.tmp 10, dv (.int .i64 s))]) [] rfl 2 2 rfl rfl rfl rfl rfl rfl rfl rfl rfl ⟨.inl ⟨rfl, rfl⟩, ⟨.inl ⟨rfl, rfl⟩, trivial⟩⟩ rfl (fun b hb => by cases hb) (.inl rfl) (lt_of rfl) trivial)] (by kernel_rfl) (by kernel_rfl) ?_
 refine nT ?_
 by_cases hq1 : isKnown f u s
 ·refine T.condF (by kernel_rfl) (congrArg Bool.not (decide_eq_true hq1)) ?_
  refine T.seq ?_
  refine xR [] (by kernel_rfl) (by kernel_rfl) ?_
  refine nT ?_
  by_cases hq2 : ((b.length : Nat) : Int) > 16777216
  ·refine T.condT (by kernel_rfl) (decide_eq_true hq2) ?_
   refine T.seq ?_
   refine xR [] (by kernel_rfl) (by kernel_rfl) ?_
   refine nT ?_
   refine T.ret ?_
   refine rB ?_
   refine rT ?_
   refine Ends.turn (s' := ⟨(zeb80_0 f u s tb nb b), [.live (.box 58 [.d (.val (.int .i64 (3 * f + 1))), .d (.val (.int .i64 u)), .mref 1]), .live (mpK f_authn_pair kBool rows), .live (.box 32 [.d (.val (.int .i64 0)), zeb80_1])]⟩) (fun _ _ hG => Gs.norm (by kernel_rfl) hG) ?_
   refine Ends.turn (s' := ⟨(zeb80_0 f u s tb nb b), [.live (.box 58 [.d (.val (.int .i64 (3 * f + 1))), .d (.val (.int .i64 u)), .mref 1]), .live (mpK f_authn_pair kBool rows), .live (.box 32 zeb80_2), .live (arrK 5 kU8 ([] : List UInt8))]⟩) (fun _ _ hG => Gs.absentB 3 2 1 5 kU8 (Tb := 32) (cs := [.d (.val (.int .i64 0)), zeb80_1]) rfl rfl rfl hG) ?_
   exact tE (.inl rfl) [.c 6 2 32 0 32 [.d (.val (.int .i64 0)), .own 3 kU8.sz 0 0] (.agg zeb80_2), .t 7 (.one (.d (.val (.int .i64 11))))] ⟨⟨rfl, rfl, by kernel_rfl, by kernel_rfl, .inl ⟨2, wide_32, rfl, Nat.le_of_ble_eq_true rfl⟩⟩, ⟨⟨rfl, by kernel_rfl⟩, trivial⟩⟩ [0, 1, 3] (by have e1 : ((signV f u s b).f_Signer : Int) = 0 := (by (simp [signE, signV, signT, z_api_Envelope, *]; done)); have e2 : ((signV f u s b).f_Body.length : Nat) = 0 := (by (simp [signE, signV, signT, z_api_Envelope, *]; done)); have e3 : ((signE f u s b) : Int) = 11 := (by (simp [signE, signV, signT, z_api_Envelope, *]; done)); have hE := congr (congr (congrArg (fun (q1 : Int) (q2 : Nat) (q3 : Int) => (.tup [.agg [.d (.val (.int .i64 q1)), .own 3 kU8.sz 0 q2], .one (.d (.val (.int .i64 q3)))] : AV)) e1) e2) e3; exact hE) rfl rfl rfl rfl rfl ⟨⟨rfl, (by kernel_rfl)⟩, ⟨⟨rfl, (by have e1 : (rows : List (authn_pair × Bool)) = (signT f u rows s b) := (by (simp [signE, signV, signT, z_api_Envelope, *]; done)); have hE := congrArg (fun (q1 : List (authn_pair × Bool)) => (.live (mpK f_authn_pair kBool q1) : HS)) e1; exact Eq.trans (by kernel_rfl) hE)⟩, ⟨⟨rfl, (by have e1 : (([] : List UInt8) : List UInt8) = (signV f u s b).f_Body := (by (simp [signE, signV, signT, z_api_Envelope, *]; done)); have hE := congrArg (fun (q1 : List UInt8) => (.live (arrK 5 kU8 q1) : HS)) e1; exact Eq.trans (by kernel_rfl) hE)⟩, trivial⟩⟩⟩
  ·refine T.condF (by kernel_rfl) (decide_eq_false hq2) ?_
   refine T.skip ?_
   refine nB ?_
   refine nT ?_
   refine T.seq ?_
   refine xD [[], [0], [0, 1], [0, 1, 2], [], [], [5], [4, 5, 6], [0, 1, 2, 3, 4, 5, 6, 7]] [hR 6 rfl rfl (q_strOf () b (ys := (.d (dsl tb nb kU8 b))) (rhs := []) Try.underlying25 Try.underlying5 Try.underlying9 (src_sl tb nb kU8 b) (lt_of rfl) trivial),
     hR 8 rfl rfl (r_mapUpdate 1 rows (authn_pair.mk s b) true (kd := kBool) (ak := .tv (.agg [.d (.val (.int .i64 s)), .d (.val (strV b))])) (tv := .one (.d (.val (.bool true)))) Try.underlying56 mkey_authn_pair ⟨[.int .i64 s, strV b], rfl, rfl⟩ rfl ⟨.inl rfl, trivial⟩ ⟨rfl, trivial⟩)] (by kernel_rfl) (by kernel_rfl) (by kernel_rfl) (by kernel_rfl) (by kernel_rfl) (by kernel_rfl) ?_
   refine nT ?_
   refine T.seq ?_
   refine xR [hR 2 rfl rfl (r_call (clone_u8 tb nb b (by assumption)) Try.func32 rfl (by decide) [3] [] (l := [(.tmp 28, slV tb nb kU8 b)]) [] rfl 0 1 rfl rfl rfl rfl rfl rfl rfl rfl rfl ⟨.inl ⟨rfl, rfl⟩, trivial⟩ rfl (fun b hb => by cases hb) (.inl rfl) (lt_of rfl) trivial)] (by kernel_rfl) (by kernel_rfl) ?_
   refine nT ?_
   refine T.ret ?_
   exact tE (.inl rfl) [.c 6 2 32 0 32 [.d (.val (.int .i64 s)), .own 3 kU8.sz 0 b.length] (.agg [.d (.val (.int .i64 s)), .own 3 kU8.sz 0 b.length]), .t 7 (.one (.d (.val (.int .i64 0))))] ⟨⟨rfl, rfl, by kernel_rfl, by kernel_rfl, .inl ⟨2, wide_32, rfl, Nat.le_of_ble_eq_true rfl⟩⟩, ⟨⟨rfl, by kernel_rfl⟩, trivial⟩⟩ [0, 1, 3] (by have e1 : ((signV f u s b).f_Signer : Int) = s := (by (simp [signE, signV, signT, z_api_Envelope, *]; done)); have e2 : ((signV f u s b).f_Body.length : Nat) = b.length := (by (simp [signE, signV, signT, z_api_Envelope, *]; done)); have e3 : ((signE f u s b) : Int) = 0 := (by (simp [signE, signV, signT, z_api_Envelope, *]; done)); have hE := congr (congr (congrArg (fun (q1 : Int) (q2 : Nat) (q3 : Int) => (.tup [.agg [.d (.val (.int .i64 q1)), .own 3 kU8.sz 0 q2], .one (.d (.val (.int .i64 q3)))] : AV)) e1) e2) e3; exact hE) rfl rfl rfl rfl rfl ⟨⟨rfl, (by kernel_rfl)⟩, ⟨⟨rfl, (by have e1 : ((mput rows (authn_pair.mk s b) true) : List (authn_pair × Bool)) = (signT f u rows s b) := (by (simp [signE, signV, signT, z_api_Envelope, *]; done)); have hE := congrArg (fun (q1 : List (authn_pair × Bool)) => (.live (mpK f_authn_pair kBool q1) : HS)) e1; exact Eq.trans (by kernel_rfl) hE)⟩, ⟨⟨rfl, (by have e1 : (b : List UInt8) = (signV f u s b).f_Body := (by (simp [signE, signV, signT, z_api_Envelope, *]; done)); have hE := congrArg (fun (q1 : List UInt8) => (.live (arrK 5 kU8 q1) : HS)) e1; exact Eq.trans (by kernel_rfl) hE)⟩, trivial⟩⟩⟩
 ·refine T.condT (by kernel_rfl) (congrArg Bool.not (decide_eq_false hq1)) ?_
  refine T.seq ?_
  refine xR [] (by kernel_rfl) (by kernel_rfl) ?_
  refine nT ?_
  refine T.ret ?_
  refine rB ?_
  refine rT ?_
  refine Ends.turn (s' := ⟨[pv 0 0, dv (.int .i64 s), slV tb nb kU8 b, aa, aa, aa, pv 2 0, dv (.int .i64 30), dv (.bool (!(decide (isKnown f u s))))], [.live (.box 58 [.d (.val (.int .i64 (3 * f + 1))), .d (.val (.int .i64 u)), .mref 1]), .live (mpK f_authn_pair kBool rows), .live (.box 32 [.d (.val (.int .i64 0)), zeb80_1])]⟩) (fun _ _ hG => Gs.norm (by kernel_rfl) hG) ?_
  refine Ends.turn (s' := ⟨[pv 0 0, dv (.int .i64 s), slV tb nb kU8 b, aa, aa, aa, pv 2 0, dv (.int .i64 30), dv (.bool (!(decide (isKnown f u s))))], [.live (.box 58 [.d (.val (.int .i64 (3 * f + 1))), .d (.val (.int .i64 u)), .mref 1]), .live (mpK f_authn_pair kBool rows), .live (.box 32 zeb80_2), .live (arrK 5 kU8 ([] : List UInt8))]⟩) (fun _ _ hG => Gs.absentB 3 2 1 5 kU8 (Tb := 32) (cs := [.d (.val (.int .i64 0)), zeb80_1]) rfl rfl rfl hG) ?_
  exact tE (.inl rfl) [.c 6 2 32 0 32 [.d (.val (.int .i64 0)), .own 3 kU8.sz 0 0] (.agg zeb80_2), .t 7 (.one (.d (.val (.int .i64 30))))] ⟨⟨rfl, rfl, by kernel_rfl, by kernel_rfl, .inl ⟨2, wide_32, rfl, Nat.le_of_ble_eq_true rfl⟩⟩, ⟨⟨rfl, by kernel_rfl⟩, trivial⟩⟩ [0, 1, 3] (by have e1 : ((signV f u s b).f_Signer : Int) = 0 := (by (simp [signE, signV, signT, z_api_Envelope, *]; done)); have e2 : ((signV f u s b).f_Body.length : Nat) = 0 := (by (simp [signE, signV, signT, z_api_Envelope, *]; done)); have e3 : ((signE f u s b) : Int) = 30 := (by (simp [signE, signV, signT, z_api_Envelope, *]; done)); have hE := congr (congr (congrArg (fun (q1 : Int) (q2 : Nat) (q3 : Int) => (.tup [.agg [.d (.val (.int .i64 q1)), .own 3 kU8.sz 0 q2], .one (.d (.val (.int .i64 q3)))] : AV)) e1) e2) e3; exact hE) rfl rfl rfl rfl rfl ⟨⟨rfl, (by kernel_rfl)⟩, ⟨⟨rfl, (by have e1 : (rows : List (authn_pair × Bool)) = (signT f u rows s b) := (by (simp [signE, signV, signT, z_api_Envelope, *]; done)); have hE := congrArg (fun (q1 : List (authn_pair × Bool)) => (.live (mpK f_authn_pair kBool q1) : HS)) e1; exact Eq.trans (by kernel_rfl) hE)⟩, ⟨⟨rfl, (by have e1 : (([] : List UInt8) : List UInt8) = (signV f u s b).f_Body := (by (simp [signE, signV, signT, z_api_Envelope, *]; done)); have hE := congrArg (fun (q1 : List UInt8) => (.live (arrK 5 kU8 q1) : HS)) e1; exact Eq.trans (by kernel_rfl) hE)⟩, trivial⟩⟩⟩
end Go.Proofs.Ytladnlechpadlaa.Q
namespace Go.Proofs.Ytladnlechpadlaa.Q
open Go Go.RowKit
set_option linter.unusedVariables false
set_option linter.unusedSimpArgs false
set_option maxRecDepth 100000
set_option maxHeartbeats 4000000
abbrev z9460_0 (f : Int) (u : Int) (s : Int) (tb : Bool) (nb : Bool) (b : List UInt8) : List AV := [pv 0 0, dv (.int .i64 s), slV tb nb kU8 b, aa, aa, aa, pv 2 0, dv (.int .i64 11), dv (.bool (!(decide (isKnown f u s)))), aa, aa, aa, aa, aa, dv (.bool (decide (((b.length : Nat) : Int) > 16777216)))]
abbrev z9460_1 (f : Int) (u : Int) (s : Int) (tb : Bool) (nb : Bool) (b : List UInt8) : List AV := [pv 0 0, dv (.int .i64 s), slV tb nb kU8 b, aa, aa, aa, pv 2 0, dv (.int .i64 0), dv (.bool (!(decide (isKnown f u s)))), aa, aa, aa, aa, aa, dv (.bool (decide (((b.length : Nat) : Int) > 16777216)))]
-- (*quaestor/authn.Authority).Sign
theorem authn_Sign (f : Int) (u : Int) (rows : List (authn_pair × Bool)) (s : Int) (tb : Bool) (nb : Bool) (b : List UInt8) (hf : 0 ≤ f ∧ f ≤ 2) (hu : 0 ≤ u ∧ u ≤ 8) (hs : -9223372036854775808 ≤ s ∧ s ≤ 9223372036854775807) (hb : b.length ≤ 140737488355328) : Holds Try.prog 12 ⟨[pv 0 0, dv (.int .i64 s), slV tb nb kU8 b], [.box 58 [.d (.val (.int .i64 (3 * f + 1))), .d (.val (.int .i64 u)), .mref 1], mpK f_authn_pair kBool rows], .tup [.agg [.d (.val (.int .i64 (signV f u s b).f_Signer)), .d (dsl false false kU8 (signV f u s b).f_Body)], .one (.d (.val (.int .i64 (signE f u s b))))], [.live (.box 58 [.d (.val (.int .i64 (3 * f + 1))), .d (.val (.int .i64 u)), .mref 1]), .live (mpK f_authn_pair kBool (signT f u rows s b))]⟩ := by
 refine Holds.of Try.func12 rfl (N := 31) Try.ntmps12 rfl fun w0 B0 S0 U0 => ?_
 show T _ (mkBase 31 2 w0 S0 U0 B0) ⟨[pv 0 0, dv (.int .i64 s), slV tb nb kU8 b], [.live (.box 58 [.d (.val (.int .i64 (3 * f + 1))), .d (.val (.int .i64 u)), .mref 1]), .live (mpK f_authn_pair kBool rows)]⟩ _ _
 refine T.seq ?_
 refine xR [] (by kernel_rfl) (by kernel_rfl) ?_
 refine nT ?_
 refine T.seq ?_
 refine T.block ?_
 refine T.seq ?_
 refine xR [hR 2 rfl rfl (r_call (authn_Known f u rows s (by assumption) (by assumption) (by assumption)) Try.func31 rfl (by decide) [0, 1] [] (l := [(.tmp 9, pv 0 0), (.tmp 10, dv (.int .i64 s))]) [] rfl 2 2 rfl rfl rfl rfl rfl rfl rfl rfl rfl ⟨.inl ⟨rfl, rfl⟩, ⟨.inl ⟨rfl, rfl⟩, trivial⟩⟩ rfl (fun b hb => by cases hb) (.inl rfl) (lt_of rfl) trivial)] (by kernel_rfl) (by kernel_rfl) ?_
 refine nT ?_
 by_cases hq1 : isKnown f u s
 ·refine T.condF (by kernel_rfl) (congrArg Bool.not (decide_eq_true hq1)) ?_
  refine T.seq ?_
  refine xR [] (by kernel_rfl) (by kernel_rfl) ?_
  refine nT ?_
  by_cases hq2 : ((b.length : Nat) : Int) > 16777216
  ·refine T.condT (by kernel_rfl) (decide_eq_true hq2) ?_
   refine T.seq ?_
   refine xR [] (by kernel_rfl) (by kernel_rfl) ?_
   refine nT ?_
   refine T.ret ?_
   refine rB ?_
   refine rT ?_
   refine Ends.turn (s' := ⟨(z9460_0 f u s tb nb b), [.live (.box 58 [.d (.val (.int .i64 (3 * f + 1))), .d (.val (.int .i64 u)), .mref 1]), .live (mpK f_authn_pair kBool rows), .live (.box 32 [.d (.val (.int .i64 0)), .d (.val (.slice none 0 0))])]⟩) (fun _ _ hG => Gs.norm (by kernel_rfl) hG) ?_
   refine Ends.turn (s' := ⟨(z9460_0 f u s tb nb b), [.live (.box 58 [.d (.val (.int .i64 (3 * f + 1))), .d (.val (.int .i64 u)), .mref 1]), .live (mpK f_authn_pair kBool rows), .live (.box 32 [.d (.val (.int .i64 0)), .d (dsl false false kU8 ([] : List UInt8))])]⟩) (fun _ _ hG => Gs.less (s := ⟨(z9460_0 f u s tb nb b), [.live (.box 58 [.d (.val (.int .i64 (3 * f + 1))), .d (.val (.int .i64 u)), .mref 1]), .live (mpK f_authn_pair kBool rows), .live (.box 32 [.d (.val (.int .i64 0)), .d (.val (.slice none 0 0))])]⟩) ⟨.inl rfl, (k2 (k4 (k8 trivial)))⟩ (k2 ⟨(.inr ⟨rfl, ⟨.inl rfl, ⟨(.inr ⟨rfl, rfl, rfl⟩), trivial⟩⟩⟩), trivial⟩) hG) ?_
   exact tE (.inl rfl) [.c 6 2 32 0 32 [.d (.val (.int .i64 0)), .d (dsl false false kU8 ([] : List UInt8))] (.agg [.d (.val (.int .i64 0)), .d (dsl false false kU8 ([] : List UInt8))]), .t 7 (.one (.d (.val (.int .i64 11))))] ⟨⟨rfl, rfl, by kernel_rfl, by kernel_rfl, .inl ⟨2, wide_32, rfl, Nat.le_of_ble_eq_true rfl⟩⟩, ⟨⟨rfl, by kernel_rfl⟩, trivial⟩⟩ [0, 1] (by have e1 : ((signV f u s b).f_Signer : Int) = 0 := (by (simp [signE, signV, signT, z_api_Envelope, *]; done)); have e2 : ((signV f u s b).f_Body : List UInt8) = ([] : List UInt8) := (by (simp [signE, signV, signT, z_api_Envelope, *]; done)); have e3 : ((signE f u s b) : Int) = 11 := (by (simp [signE, signV, signT, z_api_Envelope, *]; done)); have hE := congr (congr (congrArg (fun (q1 : Int) (q2 : List UInt8) (q3 : Int) => (.tup [.agg [.d (.val (.int .i64 q1)), .d (dsl false false kU8 q2)], .one (.d (.val (.int .i64 q3)))] : AV)) e1) e2) e3; exact hE) rfl rfl rfl rfl rfl ⟨⟨rfl, (by kernel_rfl)⟩, ⟨⟨rfl, (by have e1 : (rows : List (authn_pair × Bool)) = (signT f u rows s b) := (by (simp [signE, signV, signT, z_api_Envelope, *]; done)); have hE := congrArg (fun (q1 : List (authn_pair × Bool)) => (.live (mpK f_authn_pair kBool q1) : HS)) e1; exact Eq.trans (by kernel_rfl) hE)⟩, trivial⟩⟩
  ·refine T.condF (by kernel_rfl) (decide_eq_false hq2) ?_
   refine T.skip ?_
   refine nB ?_
   refine nT ?_
   refine T.seq ?_
   refine xD [[], [0], [0, 1], [0, 1, 2], [], [], [5], [4, 5, 6], [0, 1, 2, 3, 4, 5, 6, 7]] [hR 6 rfl rfl (q_strOf () b (ys := (.d (dsl tb nb kU8 b))) (rhs := []) Try.underlying25 Try.underlying5 Try.underlying9 (src_sl tb nb kU8 b) (lt_of rfl) trivial),
     hR 8 rfl rfl (r_mapUpdate 1 rows (authn_pair.mk s b) true (kd := kBool) (ak := .tv (.agg [.d (.val (.int .i64 s)), .d (.val (strV b))])) (tv := .one (.d (.val (.bool true)))) Try.underlying56 mkey_authn_pair ⟨[.int .i64 s, strV b], rfl, rfl⟩ rfl ⟨.inl rfl, trivial⟩ ⟨rfl, trivial⟩)] (by kernel_rfl) (by kernel_rfl) (by kernel_rfl) (by kernel_rfl) (by kernel_rfl) (by kernel_rfl) ?_
   refine nT ?_
   refine T.seq ?_
   refine xR [hR 2 rfl rfl (r_call (clone_u8 tb nb b (by assumption)) Try.func32 rfl (by decide) [3] [] (l := [(.tmp 28, slV tb nb kU8 b)]) [] rfl 0 1 rfl rfl rfl rfl rfl rfl rfl rfl rfl ⟨.inl ⟨rfl, rfl⟩, trivial⟩ rfl (fun b hb => by cases hb) (.inl rfl) (lt_of rfl) trivial)] (by kernel_rfl) (by kernel_rfl) ?_
   refine nT ?_
   refine T.ret ?_
   refine Ends.turn (s' := ⟨(z9460_1 f u s tb nb b), [.live (.box 58 [.d (.val (.int .i64 (3 * f + 1))), .d (.val (.int .i64 u)), .mref 1]), .live (mpK f_authn_pair kBool (mput rows (authn_pair.mk s b) true)), .live (.box 32 [.d (.val (.int .i64 s)), .own 3 kU8.sz 0 b.length]), .live (arrK 5 kU8 b)]⟩) (fun _ _ hG => Gs.norm (by kernel_rfl) hG) ?_
   refine Ends.turn (s' := ⟨(z9460_1 f u s tb nb b), [.live (.box 58 [.d (.val (.int .i64 (3 * f + 1))), .d (.val (.int .i64 u)), .mref 1]), .live (mpK f_authn_pair kBool (mput rows (authn_pair.mk s b) true)), .live (.box 32 [.d (.val (.int .i64 s)), .d (dsl false false kU8 b)]), .dead]⟩) (fun _ _ hG => Gs.freeze (s := ⟨(z9460_1 f u s tb nb b), [.live (.box 58 [.d (.val (.int .i64 (3 * f + 1))), .d (.val (.int .i64 u)), .mref 1]), .live (mpK f_authn_pair kBool (mput rows (authn_pair.mk s b) true)), .live (.box 32 [.d (.val (.int .i64 s)), .own 3 kU8.sz 0 b.length]), .live (arrK 5 kU8 b)]⟩) 3 (el := elOf kU8 b) (sz := kU8.sz) (n := b.length) rfl ⟨.inl rfl, (k2 (k4 (k8 trivial)))⟩ ⟨(.inr ⟨by decide, .inl rfl⟩), ⟨(.inr ⟨by decide, .inl rfl⟩), ⟨(.inr ⟨by decide, .inr ⟨rfl, ⟨.inl rfl, ⟨(.inr ⟨rfl, rfl, rfl, (fun h => by cases h), rfl, rfl, Nat.le_of_eq (Nat.zero_add _), fun i j _ => by rw [Nat.zero_add]⟩), trivial⟩⟩⟩⟩), ⟨(.inl ⟨rfl, rfl⟩), trivial⟩⟩⟩⟩ hG) ?_
   exact tE (.inl rfl) [.c 6 2 32 0 32 [.d (.val (.int .i64 s)), .d (dsl false false kU8 b)] (.agg [.d (.val (.int .i64 s)), .d (dsl false false kU8 b)]), .t 7 (.one (.d (.val (.int .i64 0))))] ⟨⟨rfl, rfl, by kernel_rfl, by kernel_rfl, .inl ⟨2, wide_32, rfl, Nat.le_of_ble_eq_true rfl⟩⟩, ⟨⟨rfl, by kernel_rfl⟩, trivial⟩⟩ [0, 1] (by have e1 : ((signV f u s b).f_Signer : Int) = s := (by (simp [signE, signV, signT, z_api_Envelope, *]; done)); have e2 : ((signV f u s b).f_Body : List UInt8) = b := (by (simp [signE, signV, signT, z_api_Envelope, *]; done)); have e3 : ((signE f u s b) : Int) = 0 := (by (simp [signE, signV, signT, z_api_Envelope, *]; done)); have hE := congr (congr (congrArg (fun (q1 : Int) (q2 : List UInt8) (q3 : Int) => (.tup [.agg [.d (.val (.int .i64 q1)), .d (dsl false false kU8 q2)], .one (.d (.val (.int .i64 q3)))] : AV)) e1) e2) e3; exact hE) rfl rfl rfl rfl rfl ⟨⟨rfl, (by kernel_rfl)⟩, ⟨⟨rfl, (by have e1 : ((mput rows (authn_pair.mk s b) true) : List (authn_pair × Bool)) = (signT f u rows s b) := (by (simp [signE, signV, signT, z_api_Envelope, *]; done)); have hE := congrArg (fun (q1 : List (authn_pair × Bool)) => (.live (mpK f_authn_pair kBool q1) : HS)) e1; exact Eq.trans (by kernel_rfl) hE)⟩, trivial⟩⟩
 ·refine T.condT (by kernel_rfl) (congrArg Bool.not (decide_eq_false hq1)) ?_
  refine T.seq ?_
  refine xR [] (by kernel_rfl) (by kernel_rfl) ?_
  refine nT ?_
  refine T.ret ?_
  refine rB ?_
  refine rT ?_
  refine Ends.turn (s' := ⟨[pv 0 0, dv (.int .i64 s), slV tb nb kU8 b, aa, aa, aa, pv 2 0, dv (.int .i64 30), dv (.bool (!(decide (isKnown f u s))))], [.live (.box 58 [.d (.val (.int .i64 (3 * f + 1))), .d (.val (.int .i64 u)), .mref 1]), .live (mpK f_authn_pair kBool rows), .live (.box 32 [.d (.val (.int .i64 0)), .d (.val (.slice none 0 0))])]⟩) (fun _ _ hG => Gs.norm (by kernel_rfl) hG) ?_
  refine Ends.turn (s' := ⟨[pv 0 0, dv (.int .i64 s), slV tb nb kU8 b, aa, aa, aa, pv 2 0, dv (.int .i64 30), dv (.bool (!(decide (isKnown f u s))))], [.live (.box 58 [.d (.val (.int .i64 (3 * f + 1))), .d (.val (.int .i64 u)), .mref 1]), .live (mpK f_authn_pair kBool rows), .live (.box 32 [.d (.val (.int .i64 0)), .d (dsl false false kU8 ([] : List UInt8))])]⟩) (fun _ _ hG => Gs.less (s := ⟨[pv 0 0, dv (.int .i64 s), slV tb nb kU8 b, aa, aa, aa, pv 2 0, dv (.int .i64 30), dv (.bool (!(decide (isKnown f u s))))], [.live (.box 58 [.d (.val (.int .i64 (3 * f + 1))), .d (.val (.int .i64 u)), .mref 1]), .live (mpK f_authn_pair kBool rows), .live (.box 32 [.d (.val (.int .i64 0)), .d (.val (.slice none 0 0))])]⟩) ⟨.inl rfl, (k8 trivial)⟩ (k2 ⟨(.inr ⟨rfl, ⟨.inl rfl, ⟨(.inr ⟨rfl, rfl, rfl⟩), trivial⟩⟩⟩), trivial⟩) hG) ?_
  exact tE (.inl rfl) [.c 6 2 32 0 32 [.d (.val (.int .i64 0)), .d (dsl false false kU8 ([] : List UInt8))] (.agg [.d (.val (.int .i64 0)), .d (dsl false false kU8 ([] : List UInt8))]), .t 7 (.one (.d (.val (.int .i64 30))))] ⟨⟨rfl, rfl, by kernel_rfl, by kernel_rfl, .inl ⟨2, wide_32, rfl, Nat.le_of_ble_eq_true rfl⟩⟩, ⟨⟨rfl, by kernel_rfl⟩, trivial⟩⟩ [0, 1] (by have e1 : ((signV f u s b).f_Signer : Int) = 0 := (by (simp [signE, signV, signT, z_api_Envelope, *]; done)); have e2 : ((signV f u s b).f_Body : List UInt8) = ([] : List UInt8) := (by (simp [signE, signV, signT, z_api_Envelope, *]; done)); have e3 : ((signE f u s b) : Int) = 30 := (by (simp [signE, signV, signT, z_api_Envelope, *]; done)); have hE := congr (congr (congrArg (fun (q1 : Int) (q2 : List UInt8) (q3 : Int) => (.tup [.agg [.d (.val (.int .i64 q1)), .d (dsl false false kU8 q2)], .one (.d (.val (.int .i64 q3)))] : AV)) e1) e2) e3; exact hE) rfl rfl rfl rfl rfl ⟨⟨rfl, (by kernel_rfl)⟩, ⟨⟨rfl, (by have e1 : (rows : List (authn_pair × Bool)) = (signT f u rows s b) := (by (simp [signE, signV, signT, z_api_Envelope, *]; done)); have hE := congrArg (fun (q1 : List (authn_pair × Bool)) => (.live (mpK f_authn_pair kBool q1) : HS)) e1; exact Eq.trans (by kernel_rfl) hE)⟩, trivial⟩⟩
end Go.Proofs.Ytladnlechpadlaa.Q
namespace Go.Proofs.Ytladnlechpadlaa.Q
open Go Go.RowKit
set_option linter.unusedVariables false
set_option linter.unusedSimpArgs false
set_option maxRecDepth 100000
set_option maxHeartbeats 4000000
theorem fld_32_0 : FieldAt Try.prog 32 0 0 := ⟨_, _, _, Try.underlying32, rfl, iat_3, by decide, rfl⟩
theorem fld_32_1 : FieldAt Try.prog 32 1 1 := ⟨_, _, _, Try.underlying32, rfl, iat_25, by decide, rfl⟩
theorem wide_25 : Wide Try.prog 25 none := ⟨_, Try.underlying25, (fun _ h => by cases h), (fun _ _ h => by cases h)⟩
theorem iat_4 : Try.prog.info? 4 = some Try.t4 := by kernel_rfl
theorem zerom_4 : ZeroM Try.prog 4 [.bool false] := ⟨_, _, iat_4, rfl, rfl, fun _ => rfl⟩
-- (*quaestor/authn.Authority).Check
theorem authn_Check (f : Int) (u : Int) (rows : List (authn_pair × Bool)) (te : Bool) (e : api_Envelope) (hf : 0 ≤ f ∧ f ≤ 2) (hu : 0 ≤ u ∧ u ≤ 8) (hs : -9223372036854775808 ≤ e.f_Signer ∧ e.f_Signer ≤ 9223372036854775807) : Holds Try.prog 14 ⟨[pv 0 0, .tv (.agg [.d (.val (.int .i64 e.f_Signer)), .d (dsl te false kU8 e.f_Body)])], [.box 58 [.d (.val (.int .i64 (3 * f + 1))), .d (.val (.int .i64 u)), .mref 1], mpK f_authn_pair kBool rows], dv (.int .i64 (checkE f u rows e)), [.live (.box 58 [.d (.val (.int .i64 (3 * f + 1))), .d (.val (.int .i64 u)), .mref 1]), .live (mpK f_authn_pair kBool rows)]⟩ := by
 refine Holds.of Try.func14 rfl (N := 28) Try.ntmps14 rfl fun w0 B0 S0 U0 => ?_
 show T _ (mkBase 28 2 w0 S0 U0 B0) ⟨[pv 0 0, .tv (.agg [.d (.val (.int .i64 e.f_Signer)), .d (dsl te false kU8 e.f_Body)])], [.live (.box 58 [.d (.val (.int .i64 (3 * f + 1))), .d (.val (.int .i64 u)), .mref 1]), .live (mpK f_authn_pair kBool rows)]⟩ _ _
 refine T.seq ?_
 refine xR [] (by kernel_rfl) (by kernel_rfl) ?_
 refine nT ?_
 refine T.seq ?_
 refine T.seq ?_
 refine xR [hR 3 rfl rfl (r_call (authn_Known f u rows e.f_Signer (by assumption) (by assumption) (by assumption)) Try.func31 rfl (by decide) [0, 1] [] (l := [(.tmp 7, pv 0 0), (.tmp 9, dv (.int .i64 e.f_Signer))]) [] rfl 2 2 rfl rfl rfl rfl rfl rfl rfl rfl rfl ⟨.inl ⟨rfl, rfl⟩, ⟨.inl ⟨rfl, rfl⟩, trivial⟩⟩ rfl (fun b hb => by cases hb) (.inl rfl) (lt_of rfl) trivial)] (by kernel_rfl) (by kernel_rfl) ?_
 refine nT ?_
 by_cases hq1 : isKnown f u e.f_Signer
 ·refine T.condF (by kernel_rfl) (congrArg Bool.not (decide_eq_true hq1)) ?_
  refine T.skip ?_
  refine nT ?_
  refine T.seq ?_
  refine T.seq ?_
  refine xD [[], [0], [0, 1], [0, 1, 2], [], [4], [], [6], [6, 7], [4, 5, 6, 7, 8], [0, 1, 2, 3, 4, 5, 6, 7, 8, 9], [0, 1, 2, 3, 4, 5, 6, 7, 8, 9, 10], [0, 1, 2, 3, 4, 5, 6, 7, 8, 9, 10, 11], [0, 1, 2, 3, 4, 5, 6, 7, 8, 9, 10, 11], [0, 1, 2, 3, 4, 5, 6, 7, 8, 9, 10, 11, 12], [0, 1, 2, 3, 4, 5, 6, 7, 8, 9, 10, 11, 12, 13, 14]] [hR 8 rfl rfl (q_strOf () e.f_Body (ys := (.d (dsl te false kU8 e.f_Body))) (rhs := []) Try.underlying25 Try.underlying5 Try.underlying9 (src_sl te false kU8 e.f_Body) (lt_of rfl) trivial),
    hR 10 rfl rfl (r_lookup2 1 rows (authn_pair.mk e.f_Signer e.f_Body) (.one (.d (.val (.bool (mget rows (authn_pair.mk e.f_Signer e.f_Body) false))))) (ak := .tv (.agg [.d (.val (.int .i64 e.f_Signer)), .d (.val (strV e.f_Body))])) (kd := kBool) Try.underlying56 mkey_authn_pair ⟨[.int .i64 e.f_Signer, strV e.f_Body], rfl, rfl⟩ zerom_4 ⟨.inl rfl, trivial⟩ rfl (lt_of rfl) trivial)] (by kernel_rfl) (by kernel_rfl) (by kernel_rfl) (by kernel_rfl) (by kernel_rfl) (by kernel_rfl) ?_
  refine nT ?_
  refine T.seq ?_
  refine xR [] (by kernel_rfl) (by kernel_rfl) ?_
  refine nT ?_
  by_cases hq2 : (mhas rows (authn_pair.mk e.f_Signer e.f_Body)) = true
  ·refine T.condF (by kernel_rfl) (congrArg Bool.not hq2) ?_
   refine T.skip ?_
   refine nT ?_
   refine T.seq ?_
   refine xR [] (by kernel_rfl) (by kernel_rfl) ?_
   refine nT ?_
   refine T.ret ?_
   exact tE (.inl rfl) [.t 4 (.one (.d (.val (.int .i64 0))))] ⟨⟨rfl, by kernel_rfl⟩, trivial⟩ [0, 1] (by have e1 : ((checkE f u rows e) : Int) = 0 := (by (simp [checkE, *]; done)); have hE := congrArg (fun (q1 : Int) => (dv (.int .i64 q1) : AV)) e1; exact hE) rfl rfl rfl rfl rfl ⟨⟨rfl, (by kernel_rfl)⟩, ⟨⟨rfl, (by kernel_rfl)⟩, trivial⟩⟩
  ·replace hq2 := Bool.eq_false_iff.2 hq2
   refine T.condT (by kernel_rfl) (congrArg Bool.not hq2) ?_
   refine T.seq ?_
   refine xR [] (by kernel_rfl) (by kernel_rfl) ?_
   refine nT ?_
   refine T.ret ?_
   refine rT ?_
   exact tE (.inl rfl) [.t 4 (.one (.d (.val (.int .i64 31))))] ⟨⟨rfl, by kernel_rfl⟩, trivial⟩ [0, 1] (by have e1 : ((checkE f u rows e) : Int) = 31 := (by (simp [checkE, *]; done)); have hE := congrArg (fun (q1 : Int) => (dv (.int .i64 q1) : AV)) e1; exact hE) rfl rfl rfl rfl rfl ⟨⟨rfl, (by kernel_rfl)⟩, ⟨⟨rfl, (by kernel_rfl)⟩, trivial⟩⟩
 ·refine T.condT (by kernel_rfl) (congrArg Bool.not (decide_eq_false hq1)) ?_
  refine T.seq ?_
  refine xR [] (by kernel_rfl) (by kernel_rfl) ?_
  refine nT ?_
  refine T.ret ?_
  refine rT ?_
  exact tE (.inl rfl) [.t 4 (.one (.d (.val (.int .i64 30))))] ⟨⟨rfl, by kernel_rfl⟩, trivial⟩ [0, 1] (by have e1 : ((checkE f u rows e) : Int) = 30 := (by (simp [checkE, *]; done)); have hE := congrArg (fun (q1 : Int) => (dv (.int .i64 q1) : AV)) e1; exact hE) rfl rfl rfl rfl rfl ⟨⟨rfl, (by kernel_rfl)⟩, ⟨⟨rfl, (by kernel_rfl)⟩, trivial⟩⟩
end Go.Proofs.Ytladnlechpadlaa.Q
namespace Go.Proofs.Ytladnlechpadlaa.Q
open Go Go.RowKit
set_option linter.unusedVariables false
set_option linter.unusedSimpArgs false
set_option maxRecDepth 100000
set_option maxHeartbeats 4000000
-- quaestor/quaestorref03.Same
theorem ref03_Same (ta : Bool) (tb : Bool) (a : api_Envelope) (b : api_Envelope) : Holds Try.prog 21 ⟨[.tv (.agg [.d (.val (.int .i64 a.f_Signer)), .d (dsl ta false kU8 a.f_Body)]), .tv (.agg [.d (.val (.int .i64 b.f_Signer)), .d (dsl tb false kU8 b.f_Body)])], [], dv (.bool (decide (a = b))), []⟩ := by
 refine Holds.of Try.func21 rfl (N := 17) Try.ntmps21 rfl fun w0 B0 S0 U0 => ?_
 show T _ (mkBase 17 0 w0 S0 U0 B0) ⟨[.tv (.agg [.d (.val (.int .i64 a.f_Signer)), .d (dsl ta false kU8 a.f_Body)]), .tv (.agg [.d (.val (.int .i64 b.f_Signer)), .d (dsl tb false kU8 b.f_Body)])], []⟩ _ _
 refine T.seq ?_
 refine xR [] (by kernel_rfl) (by kernel_rfl) ?_
 refine nT ?_
 refine T.seq ?_
 by_cases hq1 : a.f_Signer = b.f_Signer
 ·refine xR [hY 6 (decide_eq_true hq1),
    hY 7 (decide_eq_true hq1),
    hY 8 (decide_eq_true hq1),
    hY 9 (decide_eq_true hq1),
    hS 10 (oY rfl rfl rfl rfl (lt_of rfl) (decide_eq_true hq1) (r_call (ref01_Same ta false tb false a.f_Body b.f_Body ) Try.func13 rfl (by decide) [] [] (l := [(.tmp 12, slV ta false kU8 a.f_Body), (.tmp 14, slV tb false kU8 b.f_Body)]) [] rfl 0 0 rfl rfl rfl rfl rfl rfl rfl rfl rfl ⟨.inl ⟨rfl, rfl⟩, ⟨.inl ⟨rfl, rfl⟩, trivial⟩⟩ rfl (fun b hb => by cases hb) (.inl rfl) (lt_of rfl) (by exact trivial))),
    hP 11 (decide_eq_true hq1)] (by kernel_rfl) (by kernel_rfl) ?_
  refine nT ?_
  refine T.ret ?_
  exact tE (.inl rfl) [.t 4 (.one (.d (.val (.bool (decide (a.f_Body = b.f_Body))))))] ⟨⟨rfl, by kernel_rfl⟩, trivial⟩ [] (by have e1 : ((decide (a = b)) : Bool) = (decide (a.f_Body = b.f_Body)) := (by simp [api_Envelope_iff, *]); have hE := congrArg (fun (q1 : Bool) => (dv (.bool q1) : AV)) e1; exact hE) rfl rfl rfl rfl rfl trivial
 ·refine xR [hN 6 true (decide_eq_false hq1),
    hN 7 true (decide_eq_false hq1),
    hN 8 true (decide_eq_false hq1),
    hN 9 true (decide_eq_false hq1),
    hN 10 true (decide_eq_false hq1),
    hP 11 (decide_eq_false hq1)] (by kernel_rfl) (by kernel_rfl) ?_
  refine nT ?_
  refine T.ret ?_
  exact tE (.inl rfl) [.t 4 (.one (.d (.val (.bool false))))] ⟨⟨rfl, by kernel_rfl⟩, trivial⟩ [] (by have e1 : ((decide (a = b)) : Bool) = false := (by simp [api_Envelope_iff, *]); have hE := congrArg (fun (q1 : Bool) => (dv (.bool q1) : AV)) e1; exact hE) rfl rfl rfl rfl rfl trivial
end Go.Proofs.Ytladnlechpadlaa.Q
namespace Go.Proofs.Ytladnlechpadlaa.Q
open Go Go.RowKit
set_option linter.unusedVariables false
set_option linter.unusedSimpArgs false
set_option maxRecDepth 100000
set_option maxHeartbeats 4000000
theorem iat_48 : Try.prog.info? 48 = some Try.t48 := by kernel_rfl
theorem zero_48 : Zero Try.prog 48 [.bool false, .int .i64 0, .int .i64 0, .slice none 0 0] := ⟨_, _, iat_48, rfl, rfl⟩
theorem iat_46 : Try.prog.info? 46 = some Try.t46 := by kernel_rfl
theorem places_48 : Places Try.prog 48 [(0, 1), (1, 1), (2, 1), (3, 1)] := ⟨_, Try.underlying48, ⟨⟨rfl, _, iat_4, rfl⟩, ⟨⟨rfl, _, iat_3, rfl⟩, ⟨⟨rfl, _, iat_3, rfl⟩, ⟨⟨rfl, _, iat_46, rfl⟩, trivial⟩⟩⟩⟩⟩
-- quaestor/quaestorref03.New
theorem ref03_New (f : Int) (u : Int) : Holds Try.prog 16 ⟨[dv (.int .i64 f), dv (.int .i64 u)], [], pv 0 0, [.live (.box 48 [.d (.val (.bool true)), .d (.val (.int .i64 (fOf f))), .d (.val (.int .i64 (cOf u))), .own 1 (k_api_Envelope false).sz 0 ([] : List api_Envelope).length]), .live (arrK 32 (k_api_Envelope false) ([] : List api_Envelope))]⟩ := by
 refine Holds.of Try.func16 rfl (N := 13) Try.ntmps16 rfl fun w0 B0 S0 U0 => ?_
 show T _ (mkBase 13 0 w0 S0 U0 B0) ⟨[dv (.int .i64 f), dv (.int .i64 u)], []⟩ _ _
 refine T.seq ?_
 refine xR [] (by kernel_rfl) (by kernel_rfl) ?_
 refine nT ?_
 refine T.seq ?_
 refine xR [hR 1 rfl rfl (r_min (k := .i64) (a := f) (b := 2) (lt_of rfl) ⟨rfl, trivial⟩),
   hR 2 rfl rfl (r_max (k := .i64) (a := 0) (b := min f 2) (lt_of rfl) ⟨rfl, trivial⟩),
   hR 4 rfl rfl (r_min (k := .i64) (a := u) (b := 8) (lt_of rfl) ⟨rfl, trivial⟩),
   hR 5 rfl rfl (r_max (k := .i64) (a := 0) (b := min u 8) (lt_of rfl) ⟨rfl, trivial⟩)] (by kernel_rfl) (by kernel_rfl) ?_
 refine nT ?_
 refine T.ret ?_
 refine Ends.turn (s' := ⟨[dv (.int .i64 f), dv (.int .i64 u), aa, aa, pv 0 0], [.live (.box 48 [.d (.val (.bool true)), .d (.val (.int .i64 (max 0 (min f 2)))), .d (.val (.int .i64 (max 0 (min u 8)))), .d (.val (.slice none 0 0))])]⟩) (fun _ _ hG => Gs.norm (by kernel_rfl) hG) ?_
 refine Ends.turn (s' := ⟨[dv (.int .i64 f), dv (.int .i64 u), aa, aa, pv 0 0], [.live (.box 48 [.d (.val (.bool true)), .d (.val (.int .i64 (max 0 (min f 2)))), .d (.val (.int .i64 (max 0 (min u 8)))), .own 1 (k_api_Envelope false).sz 0 0]), .live (arrK 32 (k_api_Envelope false) ([] : List api_Envelope))]⟩) (fun _ _ hG => Gs.absentB 1 0 3 32 (k_api_Envelope false) (Tb := 48) (cs := [.d (.val (.bool true)), .d (.val (.int .i64 (max 0 (min f 2)))), .d (.val (.int .i64 (max 0 (min u 8)))), .d (.val (.slice none 0 0))]) rfl rfl rfl hG) ?_
 exact tE (.inl rfl) [.t 4 (.one (.ptr 0 0))] ⟨⟨rfl, by kernel_rfl⟩, trivial⟩ [0, 1] rfl rfl rfl rfl rfl rfl ⟨⟨rfl, (by have e1 : (max 0 (min f 2) : Int) = (fOf f) := (by (simp only [fOf, cOf]; omega)); have e2 : (max 0 (min u 8) : Int) = (cOf u) := (by (simp only [fOf, cOf]; omega)); have e3 : (0 : Nat) = ([] : List api_Envelope).length := (by rfl); have hE := congr (congr (congrArg (fun (q1 : Int) (q2 : Int) (q3 : Nat) => (.live (.box 48 [.d (.val (.bool true)), .d (.val (.int .i64 q1)), .d (.val (.int .i64 q2)), .own 1 (k_api_Envelope false).sz 0 q3]) : HS)) e1) e2) e3; exact Eq.trans (by kernel_rfl) hE)⟩, ⟨⟨rfl, (by kernel_rfl)⟩, trivial⟩⟩
end Go.Proofs.Ytladnlechpadlaa.Q
namespace Go.Proofs.Ytladnlechpadlaa.Q
open Go Go.RowKit
set_option linter.unusedVariables false
set_option linter.unusedSimpArgs false
set_option maxRecDepth 100000
set_option maxHeartbeats 4000000
theorem fld_48_0 : FieldAt Try.prog 48 0 0 := ⟨_, _, _, Try.underlying48, rfl, iat_4, by decide, rfl⟩
theorem wide_4 : Wide Try.prog 4 none := ⟨_, Try.underlying4, (fun _ h => by cases h), (fun _ _ h => by cases h)⟩
theorem fld_48_1 : FieldAt Try.prog 48 1 1 := ⟨_, _, _, Try.underlying48, rfl, iat_3, by decide, rfl⟩
-- (*quaestor/quaestorref03.Authority).N
theorem ref03_N (f : Int) (u : Int) (l : List api_Envelope) (hf : 0 ≤ f ∧ f ≤ 2) (hu : 0 ≤ u ∧ u ≤ 8) : Holds Try.prog 34 ⟨[pv 0 0], [.box 48 [.d (.val (.bool true)), .d (.val (.int .i64 f)), .d (.val (.int .i64 u)), .own 1 (k_api_Envelope false).sz 0 l.length], arrK 32 (k_api_Envelope false) l], dv (.int .i64 (3 * f + 1)), [.live (.box 48 [.d (.val (.bool true)), .d (.val (.int .i64 f)), .d (.val (.int .i64 u)), .own 1 (k_api_Envelope false).sz 0 l.length]), .live (arrK 32 (k_api_Envelope false) l)]⟩ := by
 refine Holds.of Try.func34 rfl (N := 14) Try.ntmps34 rfl fun w0 B0 S0 U0 => ?_
 show T _ (mkBase 14 2 w0 S0 U0 B0) ⟨[pv 0 0], [.live (.box 48 [.d (.val (.bool true)), .d (.val (.int .i64 f)), .d (.val (.int .i64 u)), .own 1 (k_api_Envelope false).sz 0 l.length]), .live (arrK 32 (k_api_Envelope false) l)]⟩ _ _
 refine T.seq ?_
 refine xR [] (by kernel_rfl) (by kernel_rfl) ?_
 refine nT ?_
 refine T.seq ?_
 refine T.seq ?_
 refine xR [] (by kernel_rfl) (by kernel_rfl) ?_
 refine nT ?_
 refine T.condF (b := (!true)) (by kernel_rfl) rfl ?_
 refine T.skip ?_
 refine nT ?_
 refine T.seq ?_
 refine xR [hR 4 rfl rfl (r_bin (u1 := .int .i64 3) (u2 := .int .i64 f) (v := .int .i64 (3 * f)) (b_mul (by rw [IntKind.wrap_i64]; omega)) (lt_of rfl) ⟨rfl, trivial⟩),
   hR 5 rfl rfl (r_bin (u1 := .int .i64 (3 * f)) (u2 := .int .i64 1) (v := .int .i64 ((3 * f) + 1)) (b_add (by rw [IntKind.wrap_i64]; omega)) (lt_of rfl) ⟨rfl, trivial⟩)] (by kernel_rfl) (by kernel_rfl) ?_
 refine nT ?_
 refine T.ret ?_
 exact tE (.inl rfl) [.t 2 (.one (.d (.val (.int .i64 ((3 * f) + 1)))))] ⟨⟨rfl, by kernel_rfl⟩, trivial⟩ [0, 1] (by have e1 : (3 * f + 1 : Int) = (3 * f) + 1 := (by rfl); have hE := congrArg (fun (q1 : Int) => (dv (.int .i64 q1) : AV)) e1; exact hE) rfl rfl rfl rfl rfl ⟨⟨rfl, (by kernel_rfl)⟩, ⟨⟨rfl, (by kernel_rfl)⟩, trivial⟩⟩
end Go.Proofs.Ytladnlechpadlaa.Q
namespace Go.Proofs.Ytladnlechpadlaa.Q
open Go Go.RowKit
set_option linter.unusedVariables false
set_option linter.unusedSimpArgs false
set_option maxRecDepth 100000
set_option maxHeartbeats 4000000
-- (*quaestor/quaestorref03.Authority).Quorum
theorem ref03_Quorum (f : Int) (u : Int) (l : List api_Envelope) (hf : 0 ≤ f ∧ f ≤ 2) (hu : 0 ≤ u ∧ u ≤ 8) : Holds Try.prog 36 ⟨[pv 0 0], [.box 48 [.d (.val (.bool true)), .d (.val (.int .i64 f)), .d (.val (.int .i64 u)), .own 1 (k_api_Envelope false).sz 0 l.length], arrK 32 (k_api_Envelope false) l], dv (.int .i64 (2 * f + 1)), [.live (.box 48 [.d (.val (.bool true)), .d (.val (.int .i64 f)), .d (.val (.int .i64 u)), .own 1 (k_api_Envelope false).sz 0 l.length]), .live (arrK 32 (k_api_Envelope false) l)]⟩ := by
 refine Holds.of Try.func36 rfl (N := 14) Try.ntmps36 rfl fun w0 B0 S0 U0 => ?_
 show T _ (mkBase 14 2 w0 S0 U0 B0) ⟨[pv 0 0], [.live (.box 48 [.d (.val (.bool true)), .d (.val (.int .i64 f)), .d (.val (.int .i64 u)), .own 1 (k_api_Envelope false).sz 0 l.length]), .live (arrK 32 (k_api_Envelope false) l)]⟩ _ _
 refine T.seq ?_
 refine xR [] (by kernel_rfl) (by kernel_rfl) ?_
 refine nT ?_
 refine T.seq ?_
 refine T.seq ?_
 refine xR [] (by kernel_rfl) (by kernel_rfl) ?_
 refine nT ?_
 refine T.condF (b := (!true)) (by kernel_rfl) rfl ?_
 refine T.skip ?_
 refine nT ?_
 refine T.seq ?_
 refine xR [hR 4 rfl rfl (r_bin (u1 := .int .i64 2) (u2 := .int .i64 f) (v := .int .i64 (2 * f)) (b_mul (by rw [IntKind.wrap_i64]; omega)) (lt_of rfl) ⟨rfl, trivial⟩),
   hR 5 rfl rfl (r_bin (u1 := .int .i64 (2 * f)) (u2 := .int .i64 1) (v := .int .i64 ((2 * f) + 1)) (b_add (by rw [IntKind.wrap_i64]; omega)) (lt_of rfl) ⟨rfl, trivial⟩)] (by kernel_rfl) (by kernel_rfl) ?_
 refine nT ?_
 refine T.ret ?_
 exact tE (.inl rfl) [.t 2 (.one (.d (.val (.int .i64 ((2 * f) + 1)))))] ⟨⟨rfl, by kernel_rfl⟩, trivial⟩ [0, 1] (by have e1 : (2 * f + 1 : Int) = (2 * f) + 1 := (by rfl); have hE := congrArg (fun (q1 : Int) => (dv (.int .i64 q1) : AV)) e1; exact hE) rfl rfl rfl rfl rfl ⟨⟨rfl, (by kernel_rfl)⟩, ⟨⟨rfl, (by kernel_rfl)⟩, trivial⟩⟩
end Go.Proofs.Ytladnlechpadlaa.Q
namespace Go.Proofs.Ytladnlechpadlaa.Q
open Go Go.RowKit
set_option linter.unusedVariables false
set_option linter.unusedSimpArgs false
set_option maxRecDepth 100000
set_option maxHeartbeats 4000000
-- (*quaestor/quaestorref03.Authority).Weak
theorem ref03_Weak (f : Int) (u : Int) (l : List api_Envelope) (hf : 0 ≤ f ∧ f ≤ 2) (hu : 0 ≤ u ∧ u ≤ 8) : Holds Try.prog 37 ⟨[pv 0 0], [.box 48 [.d (.val (.bool true)), .d (.val (.int .i64 f)), .d (.val (.int .i64 u)), .own 1 (k_api_Envelope false).sz 0 l.length], arrK 32 (k_api_Envelope false) l], dv (.int .i64 (f + 1)), [.live (.box 48 [.d (.val (.bool true)), .d (.val (.int .i64 f)), .d (.val (.int .i64 u)), .own 1 (k_api_Envelope false).sz 0 l.length]), .live (arrK 32 (k_api_Envelope false) l)]⟩ := by
 refine Holds.of Try.func37 rfl (N := 13) Try.ntmps37 rfl fun w0 B0 S0 U0 => ?_
 show T _ (mkBase 13 2 w0 S0 U0 B0) ⟨[pv 0 0], [.live (.box 48 [.d (.val (.bool true)), .d (.val (.int .i64 f)), .d (.val (.int .i64 u)), .own 1 (k_api_Envelope false).sz 0 l.length]), .live (arrK 32 (k_api_Envelope false) l)]⟩ _ _
 refine T.seq ?_
 refine xR [] (by kernel_rfl) (by kernel_rfl) ?_
 refine nT ?_
 refine T.seq ?_
 refine T.seq ?_
 refine xR [] (by kernel_rfl) (by kernel_rfl) ?_
 refine nT ?_
 refine T.condF (b := (!true)) (by kernel_rfl) rfl ?_
 refine T.skip ?_
 refine nT ?_
 refine T.seq ?_
 refine xR [hR 4 rfl rfl (r_bin (u1 := .int .i64 f) (u2 := .int .i64 1) (v := .int .i64 (f + 1)) (b_add (by rw [IntKind.wrap_i64]; omega)) (lt_of rfl) ⟨rfl, trivial⟩)] (by kernel_rfl) (by kernel_rfl) ?_
 refine nT ?_
 refine T.ret ?_
 exact tE (.inl rfl) [.t 2 (.one (.d (.val (.int .i64 (f + 1)))))] ⟨⟨rfl, by kernel_rfl⟩, trivial⟩ [0, 1] rfl rfl rfl rfl rfl rfl ⟨⟨rfl, (by kernel_rfl)⟩, ⟨⟨rfl, (by kernel_rfl)⟩, trivial⟩⟩
end Go.Proofs.Ytladnlechpadlaa.Q
namespace Go.Proofs.Ytladnlechpadlaa.Q
open Go Go.RowKit
set_option linter.unusedVariables false
set_option linter.unusedSimpArgs false
set_option maxRecDepth 100000
set_option maxHeartbeats 4000000
-- (*quaestor/quaestorref03.Authority).Primary
theorem ref03_Primary (f : Int) (u : Int) (l : List api_Envelope) (s : Int) (hf : 0 ≤ f ∧ f ≤ 2) (hu : 0 ≤ u ∧ u ≤ 8) : Holds Try.prog 38 ⟨[pv 0 0, dv (.int .i64 s)], [.box 48 [.d (.val (.bool true)), .d (.val (.int .i64 f)), .d (.val (.int .i64 u)), .own 1 (k_api_Envelope false).sz 0 l.length], arrK 32 (k_api_Envelope false) l], dv (.int .i64 (primaryA f s)), [.live (.box 48 [.d (.val (.bool true)), .d (.val (.int .i64 f)), .d (.val (.int .i64 u)), .own 1 (k_api_Envelope false).sz 0 l.length]), .live (arrK 32 (k_api_Envelope false) l)]⟩ := by
 refine Holds.of Try.func38 rfl (N := 18) Try.ntmps38 rfl fun w0 B0 S0 U0 => ?_
 show T _ (mkBase 18 2 w0 S0 U0 B0) ⟨[pv 0 0, dv (.int .i64 s)], [.live (.box 48 [.d (.val (.bool true)), .d (.val (.int .i64 f)), .d (.val (.int .i64 u)), .own 1 (k_api_Envelope false).sz 0 l.length]), .live (arrK 32 (k_api_Envelope false) l)]⟩ _ _
 refine T.seq ?_
 refine xR [] (by kernel_rfl) (by kernel_rfl) ?_
 refine nT ?_
 refine T.seq ?_
 refine T.seq ?_
 refine xR [hY 6 (b := false) (w := false) rfl,
   hY 7 (b := false) (w := false) rfl,
   hP 8 (b := false) (w := false) rfl] (by kernel_rfl) (by kernel_rfl) ?_
 refine nT ?_
 by_cases hq1 : s < 0
 ·refine T.condT (by kernel_rfl) (decide_eq_true hq1) ?_
  refine T.seq ?_
  refine xR [] (by kernel_rfl) (by kernel_rfl) ?_
  refine nT ?_
  refine T.ret ?_
  refine rT ?_
  exact tE (.inl rfl) [.t 4 (.one (.d (.val (.int .i64 0))))] ⟨⟨rfl, by kernel_rfl⟩, trivial⟩ [0, 1] (by have e1 : ((primaryA f s) : Int) = 0 := (by (simp [isClient, isReplica, isKnown, primaryA, orgA, *]; done)); have hE := congrArg (fun (q1 : Int) => (dv (.int .i64 q1) : AV)) e1; exact hE) rfl rfl rfl rfl rfl ⟨⟨rfl, (by kernel_rfl)⟩, ⟨⟨rfl, (by kernel_rfl)⟩, trivial⟩⟩
 ·refine T.condF (by kernel_rfl) (decide_eq_false hq1) ?_
  refine T.skip ?_
  refine nT ?_
  refine T.seq ?_
  refine xR [hR 2 rfl rfl (r_call (ref03_N f u l (by assumption) (by assumption)) Try.func34 rfl (by decide) [0, 1] [] (l := [(.tmp 15, pv 0 0)]) [] rfl 2 2 rfl rfl rfl rfl rfl rfl rfl rfl rfl ⟨.inl ⟨rfl, rfl⟩, trivial⟩ rfl (fun b hb => by cases hb) (.inl rfl) (lt_of rfl) trivial),
    hR 3 rfl rfl (r_bin (u1 := .int .i64 s) (u2 := .int .i64 (3 * f + 1)) (v := .int .i64 (s % (3 * f + 1))) (b_remP (by omega) (by omega)) (lt_of rfl) trivial)] (by kernel_rfl) (by kernel_rfl) ?_
  refine nT ?_
  refine T.ret ?_
  exact tE (.inl rfl) [.t 4 (.one (.d (.val (.int .i64 (s % (3 * f + 1))))))] ⟨⟨rfl, by kernel_rfl⟩, trivial⟩ [0, 1] (by have e1 : ((primaryA f s) : Int) = s % (3 * f + 1) := (by (simp [isClient, isReplica, isKnown, primaryA, orgA, *]; done)); have hE := congrArg (fun (q1 : Int) => (dv (.int .i64 q1) : AV)) e1; exact hE) rfl rfl rfl rfl rfl ⟨⟨rfl, (by kernel_rfl)⟩, ⟨⟨rfl, (by kernel_rfl)⟩, trivial⟩⟩
end Go.Proofs.Ytladnlechpadlaa.Q
namespace Go.Proofs.Ytladnlechpadlaa.Q
open Go Go.RowKit
set_option linter.unusedVariables false
set_option linter.unusedSimpArgs false
set_option maxRecDepth 100000
set_option maxHeartbeats 4000000
theorem fld_48_2 : FieldAt Try.prog 48 2 2 := ⟨_, _, _, Try.underlying48, rfl, iat_3, by decide, rfl⟩
-- (*quaestor/quaestorref03.Authority).Client
theorem ref03_Client (f : Int) (u : Int) (l : List api_Envelope) (s : Int) (hf : 0 ≤ f ∧ f ≤ 2) (hu : 0 ≤ u ∧ u ≤ 8) (hs : -9223372036854775808 ≤ s ∧ s ≤ 9223372036854775807) : Holds Try.prog 51 ⟨[pv 0 0, dv (.int .i64 s)], [.box 48 [.d (.val (.bool true)), .d (.val (.int .i64 f)), .d (.val (.int .i64 u)), .own 1 (k_api_Envelope false).sz 0 l.length], arrK 32 (k_api_Envelope false) l], dv (.bool (decide (isClient u s))), [.live (.box 48 [.d (.val (.bool true)), .d (.val (.int .i64 f)), .d (.val (.int .i64 u)), .own 1 (k_api_Envelope false).sz 0 l.length]), .live (arrK 32 (k_api_Envelope false) l)]⟩ := by
 refine Holds.of Try.func51 rfl (N := 16) Try.ntmps51 rfl fun w0 B0 S0 U0 => ?_
 show T _ (mkBase 16 2 w0 S0 U0 B0) ⟨[pv 0 0, dv (.int .i64 s)], [.live (.box 48 [.d (.val (.bool true)), .d (.val (.int .i64 f)), .d (.val (.int .i64 u)), .own 1 (k_api_Envelope false).sz 0 l.length]), .live (arrK 32 (k_api_Envelope false) l)]⟩ _ _
 refine T.seq ?_
 refine xR [] (by kernel_rfl) (by kernel_rfl) ?_
 refine nT ?_
 refine T.seq ?_
 by_cases hq1 : s ≥ 1000
 ·refine xR [hY 3 (decide_eq_true hq1),
    hS 4 (oY rfl rfl rfl rfl (lt_of rfl) (decide_eq_true hq1) (r_bin (u1 := .int .i64 s) (u2 := .int .i64 1000) (v := .int .i64 (s - 1000)) (b_sub (by rw [IntKind.wrap_i64]; omega)) (lt_of rfl) ⟨rfl, trivial⟩)),
    hY 5 (decide_eq_true hq1),
    hY 6 (decide_eq_true hq1),
    hY 7 (decide_eq_true hq1),
    hY 8 (decide_eq_true hq1),
    hY 9 (decide_eq_true hq1),
    hP 10 (decide_eq_true hq1)] (by kernel_rfl) (by kernel_rfl) ?_
  refine nT ?_
  refine T.ret ?_
  exact tE (.inl rfl) [.t 4 (.one (.d (.val (.bool (decide ((s - 1000) < u))))))] ⟨⟨rfl, by kernel_rfl⟩, trivial⟩ [0, 1] (by have e1 : ((decide (isClient u s)) : Bool) = (decide ((s - 1000) < u)) := (by (simp [isClient, isReplica, isKnown, primaryA, orgA, *]; done)); have hE := congrArg (fun (q1 : Bool) => (dv (.bool q1) : AV)) e1; exact hE) rfl rfl rfl rfl rfl ⟨⟨rfl, (by kernel_rfl)⟩, ⟨⟨rfl, (by kernel_rfl)⟩, trivial⟩⟩
 ·refine xR [hN 3 true (decide_eq_false hq1),
    hN 4 true (decide_eq_false hq1),
    hN 5 true (decide_eq_false hq1),
    hN 6 true (decide_eq_false hq1),
    hN 7 true (decide_eq_false hq1),
    hN 8 true (decide_eq_false hq1),
    hN 9 true (decide_eq_false hq1),
    hP 10 (decide_eq_false hq1)] (by kernel_rfl) (by kernel_rfl) ?_
  refine nT ?_
  refine T.ret ?_
  exact tE (.inl rfl) [.t 4 (.one (.d (.val (.bool false))))] ⟨⟨rfl, by kernel_rfl⟩, trivial⟩ [0, 1] (by have e1 : ((decide (isClient u s)) : Bool) = false := (by (simp [isClient, isReplica, isKnown, primaryA, orgA, *]; done)); have hE := congrArg (fun (q1 : Bool) => (dv (.bool q1) : AV)) e1; exact hE) rfl rfl rfl rfl rfl ⟨⟨rfl, (by kernel_rfl)⟩, ⟨⟨rfl, (by kernel_rfl)⟩, trivial⟩⟩
end Go.Proofs.Ytladnlechpadlaa.Q
namespace Go.Proofs.Ytladnlechpadlaa.Q
open Go Go.RowKit
set_option linter.unusedVariables false
set_option linter.unusedSimpArgs false
set_option maxRecDepth 100000
set_option maxHeartbeats 4000000
-- (*quaestor/quaestorref03.Authority).Replica
theorem ref03_Replica (f : Int) (u : Int) (l : List api_Envelope) (s : Int) (hf : 0 ≤ f ∧ f ≤ 2) (hu : 0 ≤ u ∧ u ≤ 8) : Holds Try.prog 42 ⟨[pv 0 0, dv (.int .i64 s)], [.box 48 [.d (.val (.bool true)), .d (.val (.int .i64 f)), .d (.val (.int .i64 u)), .own 1 (k_api_Envelope false).sz 0 l.length], arrK 32 (k_api_Envelope false) l], dv (.bool (decide (isReplica f s))), [.live (.box 48 [.d (.val (.bool true)), .d (.val (.int .i64 f)), .d (.val (.int .i64 u)), .own 1 (k_api_Envelope false).sz 0 l.length]), .live (arrK 32 (k_api_Envelope false) l)]⟩ := by
 refine Holds.of Try.func42 rfl (N := 13) Try.ntmps42 rfl fun w0 B0 S0 U0 => ?_
 show T _ (mkBase 13 2 w0 S0 U0 B0) ⟨[pv 0 0, dv (.int .i64 s)], [.live (.box 48 [.d (.val (.bool true)), .d (.val (.int .i64 f)), .d (.val (.int .i64 u)), .own 1 (k_api_Envelope false).sz 0 l.length]), .live (arrK 32 (k_api_Envelope false) l)]⟩ _ _
 refine T.seq ?_
 refine xR [] (by kernel_rfl) (by kernel_rfl) ?_
 refine nT ?_
 refine T.seq ?_
 by_cases hq1 : s ≥ 0
 ·refine xR [hY 3 (decide_eq_true hq1),
    hY 4 (decide_eq_true hq1),
    hS 5 (oY rfl rfl rfl rfl (lt_of rfl) (decide_eq_true hq1) (r_call (ref03_N f u l (by assumption) (by assumption)) Try.func34 rfl (by decide) [0, 1] [] (l := [(.tmp 9, pv 0 0)]) [] rfl 2 2 rfl rfl rfl rfl rfl rfl rfl rfl rfl ⟨.inl ⟨rfl, rfl⟩, trivial⟩ rfl (fun b hb => by cases hb) (.inl rfl) (lt_of rfl) (by exact trivial))),
    hY 6 (decide_eq_true hq1),
    hP 7 (decide_eq_true hq1)] (by kernel_rfl) (by kernel_rfl) ?_
  refine nT ?_
  refine T.ret ?_
  exact tE (.inl rfl) [.t 4 (.one (.d (.val (.bool (decide (s < (3 * f + 1)))))))] ⟨⟨rfl, by kernel_rfl⟩, trivial⟩ [0, 1] (by have e1 : ((decide (isReplica f s)) : Bool) = (decide (s < (3 * f + 1))) := (by (simp [isClient, isReplica, isKnown, primaryA, orgA, *]; done)); have hE := congrArg (fun (q1 : Bool) => (dv (.bool q1) : AV)) e1; exact hE) rfl rfl rfl rfl rfl ⟨⟨rfl, (by kernel_rfl)⟩, ⟨⟨rfl, (by kernel_rfl)⟩, trivial⟩⟩
 ·refine xR [hN 3 true (decide_eq_false hq1),
    hN 4 true (decide_eq_false hq1),
    hN 5 true (decide_eq_false hq1),
    hN 6 true (decide_eq_false hq1),
    hP 7 (decide_eq_false hq1)] (by kernel_rfl) (by kernel_rfl) ?_
  refine nT ?_
  refine T.ret ?_
  exact tE (.inl rfl) [.t 4 (.one (.d (.val (.bool false))))] ⟨⟨rfl, by kernel_rfl⟩, trivial⟩ [0, 1] (by have e1 : ((decide (isReplica f s)) : Bool) = false := (by (simp [isClient, isReplica, isKnown, primaryA, orgA, *]; done)); have hE := congrArg (fun (q1 : Bool) => (dv (.bool q1) : AV)) e1; exact hE) rfl rfl rfl rfl rfl ⟨⟨rfl, (by kernel_rfl)⟩, ⟨⟨rfl, (by kernel_rfl)⟩, trivial⟩⟩
end Go.Proofs.Ytladnlechpadlaa.Q
namespace Go.Proofs.Ytladnlechpadlaa.Q
open Go Go.RowKit
set_option linter.unusedVariables false
set_option linter.unusedSimpArgs false
set_option maxRecDepth 100000
set_option maxHeartbeats 4000000
-- (*quaestor/quaestorref03.Authority).Known
theorem ref03_Known (f : Int) (u : Int) (l : List api_Envelope) (s : Int) (hf : 0 ≤ f ∧ f ≤ 2) (hu : 0 ≤ u ∧ u ≤ 8) (hs : -9223372036854775808 ≤ s ∧ s ≤ 9223372036854775807) : Holds Try.prog 40 ⟨[pv 0 0, dv (.int .i64 s)], [.box 48 [.d (.val (.bool true)), .d (.val (.int .i64 f)), .d (.val (.int .i64 u)), .own 1 (k_api_Envelope false).sz 0 l.length], arrK 32 (k_api_Envelope false) l], dv (.bool (decide (isKnown f u s))), [.live (.box 48 [.d (.val (.bool true)), .d (.val (.int .i64 f)), .d (.val (.int .i64 u)), .own 1 (k_api_Envelope false).sz 0 l.length]), .live (arrK 32 (k_api_Envelope false) l)]⟩ := by
 refine Holds.of Try.func40 rfl (N := 13) Try.ntmps40 rfl fun w0 B0 S0 U0 => ?_
 show T _ (mkBase 13 2 w0 S0 U0 B0) ⟨[pv 0 0, dv (.int .i64 s)], [.live (.box 48 [.d (.val (.bool true)), .d (.val (.int .i64 f)), .d (.val (.int .i64 u)), .own 1 (k_api_Envelope false).sz 0 l.length]), .live (arrK 32 (k_api_Envelope false) l)]⟩ _ _
 refine T.seq ?_
 refine xR [] (by kernel_rfl) (by kernel_rfl) ?_
 refine nT ?_
 refine T.seq ?_
 by_cases hq1 : isReplica f s
 ·refine xR [hR 2 rfl rfl (r_call (ref03_Replica f u l s (by assumption) (by assumption)) Try.func42 rfl (by decide) [0, 1] [] (l := [(.tmp 5, pv 0 0), (.tmp 6, dv (.int .i64 s))]) [] rfl 2 2 rfl rfl rfl rfl rfl rfl rfl rfl rfl ⟨.inl ⟨rfl, rfl⟩, ⟨.inl ⟨rfl, rfl⟩, trivial⟩⟩ rfl (fun b hb => by cases hb) (.inl rfl) (lt_of rfl) trivial),
    hN 4 false (decide_eq_true hq1),
    hN 5 false (decide_eq_true hq1),
    hN 6 false (decide_eq_true hq1),
    hP 7 (decide_eq_true hq1)] (by kernel_rfl) (by kernel_rfl) ?_
  refine nT ?_
  refine T.ret ?_
  exact tE (.inl rfl) [.t 4 (.one (.d (.val (.bool true))))] ⟨⟨rfl, by kernel_rfl⟩, trivial⟩ [0, 1] (by have e1 : ((decide (isKnown f u s)) : Bool) = true := (by (simp [isKnown, orgA, *]; done)); have hE := congrArg (fun (q1 : Bool) => (dv (.bool q1) : AV)) e1; exact hE) rfl rfl rfl rfl rfl ⟨⟨rfl, (by kernel_rfl)⟩, ⟨⟨rfl, (by kernel_rfl)⟩, trivial⟩⟩
 ·refine xR [hR 2 rfl rfl (r_call (ref03_Replica f u l s (by assumption) (by assumption)) Try.func42 rfl (by decide) [0, 1] [] (l := [(.tmp 5, pv 0 0), (.tmp 6, dv (.int .i64 s))]) [] rfl 2 2 rfl rfl rfl rfl rfl rfl rfl rfl rfl ⟨.inl ⟨rfl, rfl⟩, ⟨.inl ⟨rfl, rfl⟩, trivial⟩⟩ rfl (fun b hb => by cases hb) (.inl rfl) (lt_of rfl) trivial),
    hY 4 (decide_eq_false hq1),
    hY 5 (decide_eq_false hq1),
    hS 6 (oY rfl rfl rfl rfl (lt_of rfl) (decide_eq_false hq1) (r_call (ref03_Client f u l s (by assumption) (by assumption) (by assumption)) Try.func51 rfl (by decide) [0, 1] [] (l := [(.tmp 9, pv 0 0), (.tmp 10, dv (.int .i64 s))]) [] rfl 2 2 rfl rfl rfl rfl rfl rfl rfl rfl rfl ⟨.inl ⟨rfl, rfl⟩, ⟨.inl ⟨rfl, rfl⟩, trivial⟩⟩ rfl (fun b hb => by cases hb) (.inl rfl) (lt_of rfl) (by exact trivial))),
    hP 7 (decide_eq_false hq1)] (by kernel_rfl) (by kernel_rfl) ?_
  refine nT ?_
  refine T.ret ?_
  exact tE (.inl rfl) [.t 4 (.one (.d (.val (.bool (decide (isClient u s))))))] ⟨⟨rfl, by kernel_rfl⟩, trivial⟩ [0, 1] (by have e1 : ((decide (isKnown f u s)) : Bool) = (decide (isClient u s)) := (by (simp [isKnown, orgA, *]; done)); have hE := congrArg (fun (q1 : Bool) => (dv (.bool q1) : AV)) e1; exact hE) rfl rfl rfl rfl rfl ⟨⟨rfl, (by kernel_rfl)⟩, ⟨⟨rfl, (by kernel_rfl)⟩, trivial⟩⟩
end Go.Proofs.Ytladnlechpadlaa.Q
namespace Go.Proofs.Ytladnlechpadlaa.Q
open Go Go.RowKit
set_option linter.unusedVariables false
set_option linter.unusedSimpArgs false
set_option maxRecDepth 100000
set_option maxHeartbeats 4000000
-- (*quaestor/quaestorref03.Authority).Org
theorem ref03_Org (f : Int) (u : Int) (l : List api_Envelope) (s : Int) (hf : 0 ≤ f ∧ f ≤ 2) (hu : 0 ≤ u ∧ u ≤ 8) (hs : -9223372036854775808 ≤ s ∧ s ≤ 9223372036854775807) : Holds Try.prog 39 ⟨[pv 0 0, dv (.int .i64 s)], [.box 48 [.d (.val (.bool true)), .d (.val (.int .i64 f)), .d (.val (.int .i64 u)), .own 1 (k_api_Envelope false).sz 0 l.length], arrK 32 (k_api_Envelope false) l], dv (.int .i64 (orgA u s)), [.live (.box 48 [.d (.val (.bool true)), .d (.val (.int .i64 f)), .d (.val (.int .i64 u)), .own 1 (k_api_Envelope false).sz 0 l.length]), .live (arrK 32 (k_api_Envelope false) l)]⟩ := by
 refine Holds.of Try.func39 rfl (N := 12) Try.ntmps39 rfl fun w0 B0 S0 U0 => ?_
 show T _ (mkBase 12 2 w0 S0 U0 B0) ⟨[pv 0 0, dv (.int .i64 s)], [.live (.box 48 [.d (.val (.bool true)), .d (.val (.int .i64 f)), .d (.val (.int .i64 u)), .own 1 (k_api_Envelope false).sz 0 l.length]), .live (arrK 32 (k_api_Envelope false) l)]⟩ _ _
 refine T.seq ?_
 refine xR [] (by kernel_rfl) (by kernel_rfl) ?_
 refine nT ?_
 refine T.seq ?_
 refine T.seq ?_
 refine xR [hR 2 rfl rfl (r_call (ref03_Client f u l s (by first | assumption | omega | (unfold maxLen; omega) | (simp [maxLen, -List.getD_eq_getElem?_getD] <;> omega) | decide) (by first | assumption | omega | (unfold maxLen; omega) | (simp [maxLen, -List.getD_eq_getElem?_getD] <;> omega) | decide) (by first | assumption | omega | (unfold maxLen; omega) | (simp [maxLen, -List.getD_eq_getElem?_getD] <;> omega) | decide)) Try.func51 rfl (by decide) [0, 1] [] (l := [(.tmp 5, pv 0 0), (.tmp 6, dv (.int .i64 s))]) [] rfl 2 2 rfl rfl rfl rfl rfl rfl rfl rfl rfl ⟨.inl ⟨rfl, rfl⟩, ⟨.inl ⟨rfl, rfl⟩, trivial⟩⟩ rfl (fun b hb => by cases hb) (.inl rfl) (lt_of rfl) trivial)] (by kernel_rfl) (by kernel_rfl) ?_
 refine nT ?_
 by_cases hq1 : isClient u s
 ·have hcl : 1000 ≤ s := by have h' := hq1; simp only [isClient] at h'; omega
  refine T.condF (by kernel_rfl) (congrArg Bool.not (decide_eq_true hq1)) ?_
  refine T.skip ?_
  refine nT ?_
  refine T.seq ?_
  refine xR [hR 1 rfl rfl (r_bin (u1 := .int .i64 s) (u2 := .int .i64 1000) (v := .int .i64 (s - 1000)) (b_sub (by rw [IntKind.wrap_i64]; omega)) (lt_of rfl) ⟨rfl, trivial⟩),
    hR 2 rfl rfl (r_bin (u1 := .int .i64 (s - 1000)) (u2 := .int .i64 4) (v := .int .i64 ((s - 1000) % 4)) (b_remP (by first | assumption | omega | (unfold maxLen; omega) | (simp [maxLen, -List.getD_eq_getElem?_getD] <;> omega) | decide) (by first | assumption | omega | (unfold maxLen; omega) | (simp [maxLen, -List.getD_eq_getElem?_getD] <;> omega) | decide)) (lt_of rfl) ⟨rfl, trivial⟩)] (by kernel_rfl) (by kernel_rfl) ?_
  refine nT ?_
  refine T.ret ?_
  exact tE (.inl rfl) [.t 4 (.one (.d (.val (.int .i64 ((s - 1000) % 4)))))] ⟨⟨rfl, by kernel_rfl⟩, trivial⟩ [0, 1] (by have e1 : ((orgA u s) : Int) = (s - 1000) % 4 := (by first | rfl | omega | (simp [isKnown, orgA, *]; done) | (simp [isClient, isReplica, isKnown, primaryA, orgA, *]; done) | (simp only [primaryA, orgA]; first | rw [if_pos (by omega)] | rw [if_neg (by omega)])); have hE := congrArg (fun (q1 : Int) => (dv (.int .i64 q1) : AV)) e1; exact hE) rfl rfl rfl rfl rfl ⟨⟨rfl, (by kernel_rfl)⟩, ⟨⟨rfl, (by kernel_rfl)⟩, trivial⟩⟩
 ·refine T.condT (by kernel_rfl) (congrArg Bool.not (decide_eq_false hq1)) ?_
  refine T.seq ?_
  refine xR [] (by kernel_rfl) (by kernel_rfl) ?_
  refine nT ?_
  refine T.ret ?_
  refine rT ?_
  exact tE (.inl rfl) [.t 4 (.one (.d (.val (.int .i64 (-1)))))] ⟨⟨rfl, by kernel_rfl⟩, trivial⟩ [0, 1] (by have e1 : ((orgA u s) : Int) = (-1) := (by first | rfl | omega | (simp [isKnown, orgA, *]; done) | (simp [isClient, isReplica, isKnown, primaryA, orgA, *]; done) | (simp only [primaryA, orgA]; first | rw [if_pos (by omega)] | rw [if_neg (by omega)])); have hE := congrArg (fun (q1 : Int) => (dv (.int .i64 q1) : AV)) e1; exact hE) rfl rfl rfl rfl rfl ⟨⟨rfl, (by kernel_rfl)⟩, ⟨⟨rfl, (by kernel_rfl)⟩, trivial⟩⟩
end Go.Proofs.Ytladnlechpadlaa.Q
