import Derived.Test.YtalapplihdmenaaGreatC13n5
namespace Go.Proofs.YtalapplihdmenaaGreat.Q
open Go Go.RowKit
set_option linter.unusedVariables false
set_option linter.unusedSimpArgs false
set_option maxRecDepth 100000
set_option maxHeartbeats 4000000
theorem iat_144 : Tryz.prog.info? 144 = some Tryz.t144 := by kernel_rfl
theorem wide_144 : Wide Tryz.prog 144 (some 4) := ⟨_, _, Tryz.underlying144, .inl ⟨_, rfl⟩, iat_144, rfl⟩
abbrev Z20 : TV := .one (dB true)
abbrev Z21 : TV := .agg [dI 11, dI 0, dI 1, dI 7]
theorem msg_shapeOf (k : Int) : Holds Tryz.prog 93 ⟨[vI k], [], .tup [.agg [dI (shapeM k).f_has, dI (shapeM k).f_minView, dI (shapeM k).f_minSeq, dI (shapeM k).f_batch], .one (dB (decide (okK k)))], []⟩ := by
 refine Holds.of Tryz.func93 rfl (N := 54) Tryz.ntmps93 rfl fun w0 B0 S0 U0 => ?_
 show T _ (mkBase 54 0 w0 S0 U0 B0) ⟨[vI k], []⟩ _ _
 refine sR [] ?_
 refine sR [] ?_
 refine T.seq ?_
 refine sR [] ?_
 refine T.block ?_
 refine T.seq ?_
 refine T.block ?_
 refine T.seq ?_
 refine T.block ?_
 refine T.seq ?_
 refine T.block ?_
 refine T.seq ?_
 refine T.block ?_
 refine T.seq ?_
 refine T.block ?_
 refine T.seq ?_
 refine T.block ?_
 refine T.seq ?_
 refine T.block ?_
 refine T.seq ?_
 refine T.block ?_
 refine T.seq ?_
 refine T.block ?_
 refine T.seq ?_
 refine T.block ?_
 refine T.seq ?_
 refine T.block ?_
 refine T.seq (T.seq ?_)
 refine sR [] ?_
 by_cases hq1 : k = 1
 ·refine cT (dT hq1) ?_
  refine T.exit ?_
  refine xT ?_
  refine xT ?_
  refine xH ?_
  refine nT ?_
  refine sR [] ?_
  refine T.exit ?_
  refine xM rfl ?_
  refine xT ?_
  refine xM rfl ?_
  refine xT ?_
  refine xM rfl ?_
  refine xT ?_
  refine xM rfl ?_
  refine xT ?_
  refine xM rfl ?_
  refine xT ?_
  refine xM rfl ?_
  refine xT ?_
  refine xM rfl ?_
  refine xT ?_
  refine xM rfl ?_
  refine xT ?_
  refine xM rfl ?_
  refine xT ?_
  refine xM rfl ?_
  refine xT ?_
  refine xH ?_
  refine nT ?_
  refine sR [] ?_
  refine T.ret ?_
  exact eX [.c 2 0 144 0 144 [dI 20, dI 0, dI 1, dI 7] (.agg [dI 20, dI 0, dI 1, dI 7]), .t 3 (Z20)] ⟨⟨rfl, rfl, by kernel_rfl, by kernel_rfl, .inl ⟨4, wide_144, rfl, Nat.le_of_ble_eq_true rfl⟩⟩, ⟨⟨rfl, by kernel_rfl⟩, trivial⟩⟩ [] (gc2 (show (shapeM k) = ⟨20, 0, 1, 7⟩ from (by (simp [shapeM, okK, *]; done))) (show ((decide (okK k)) : Bool) = true from (by (simp [shapeM, okK, *]; done))) (fun qq0 (q5 : Bool) => (.tup [.agg [dI (qq0.f_has), dI (qq0.f_minView), dI (qq0.f_minSeq), dI (qq0.f_batch)], .one (dB q5)] : AV))) trivial
 refine cF (dF hq1) ?_
 refine T.skip (nT (T.seq ?_))
 refine sR [] ?_
 by_cases hq2 : k = 2
 ·refine cT (dT hq2) ?_
  refine T.exit ?_
  refine xT ?_
  refine xT ?_
  refine xM rfl ?_
  refine xT ?_
  refine xH ?_
  refine nT ?_
  refine sR [hR 2 rfl rfl (r_bin (u1 := .int .i64 0) (u2 := .int .i64 64) (v := .int .i64 64) (b_orI (by decide +kernel)) (lt_of rfl) ⟨rfl, trivial⟩)] ?_
  refine xK [] ?_
  refine nB ?_
  refine nT ?_
  refine xK [hR 2 rfl rfl (r_bin (u1 := .int .i64 64) (u2 := .int .i64 1) (v := .int .i64 65) (b_orI (by decide +kernel)) (lt_of rfl) ⟨rfl, trivial⟩)] ?_
  refine nB ?_
  refine nT ?_
  refine sR [hR 2 rfl rfl (r_bin (u1 := .int .i64 65) (u2 := .int .i64 10) (v := .int .i64 75) (b_orI (by decide +kernel)) (lt_of rfl) ⟨rfl, trivial⟩)] ?_
  refine T.exit ?_
  refine xM rfl ?_
  refine xT ?_
  refine xM rfl ?_
  refine xT ?_
  refine xM rfl ?_
  refine xT ?_
  refine xM rfl ?_
  refine xT ?_
  refine xM rfl ?_
  refine xT ?_
  refine xM rfl ?_
  refine xT ?_
  refine xM rfl ?_
  refine xT ?_
  refine xH ?_
  refine nT ?_
  refine sR [] ?_
  refine T.ret ?_
  exact eX [.c 2 0 144 0 144 [dI 75, dI 0, dI 1, dI 4] (.agg [dI 75, dI 0, dI 1, dI 4]), .t 3 (Z20)] ⟨⟨rfl, rfl, by kernel_rfl, by kernel_rfl, .inl ⟨4, wide_144, rfl, Nat.le_of_ble_eq_true rfl⟩⟩, ⟨⟨rfl, by kernel_rfl⟩, trivial⟩⟩ [] (gc2 (show (shapeM k) = ⟨75, 0, 1, 4⟩ from (by (simp [shapeM, okK, *]; done))) (show ((decide (okK k)) : Bool) = true from (by (simp [shapeM, okK, *]; done))) (fun qq0 (q5 : Bool) => (.tup [.agg [dI (qq0.f_has), dI (qq0.f_minView), dI (qq0.f_minSeq), dI (qq0.f_batch)], .one (dB q5)] : AV))) trivial
 refine cF (dF hq2) ?_
 refine T.skip (nT (T.seq (T.seq ?_)))
 refine sR [] ?_
 by_cases hq3 : k = 3
 ·refine cT (dT hq3) ?_
  refine T.skip (nT ?_)
  refine cT (dT hq3) ?_
  refine T.exit ?_
  refine xT ?_
  refine xT ?_
  refine xM rfl ?_
  refine xT ?_
  refine xM rfl ?_
  refine xT ?_
  refine xH ?_
  refine nT ?_
  refine xK [hR 2 rfl rfl (r_bin (u1 := .int .i64 0) (u2 := .int .i64 1) (v := .int .i64 1) (b_orI (by decide +kernel)) (lt_of rfl) ⟨rfl, trivial⟩)] ?_
  refine nB ?_
  refine nT ?_
  refine sR [hR 2 rfl rfl (r_bin (u1 := .int .i64 1) (u2 := .int .i64 10) (v := .int .i64 11) (b_orI (by decide +kernel)) (lt_of rfl) ⟨rfl, trivial⟩)] ?_
  refine T.exit ?_
  refine xM rfl ?_
  refine xT ?_
  refine xM rfl ?_
  refine xT ?_
  refine xM rfl ?_
  refine xT ?_
  refine xM rfl ?_
  refine xT ?_
  refine xM rfl ?_
  refine xT ?_
  refine xM rfl ?_
  refine xT ?_
  refine xM rfl ?_
  refine xT ?_
  refine xH ?_
  refine nT ?_
  refine sR [] ?_
  refine T.ret ?_
  exact eX [.c 2 0 144 0 144 [dI 11, dI 0, dI 1, dI 7] (Z21), .t 3 (Z20)] ⟨⟨rfl, rfl, by kernel_rfl, by kernel_rfl, .inl ⟨4, wide_144, rfl, Nat.le_of_ble_eq_true rfl⟩⟩, ⟨⟨rfl, by kernel_rfl⟩, trivial⟩⟩ [] (gc2 (show (shapeM k) = ⟨11, 0, 1, 7⟩ from (by (simp [shapeM, okK, *]; done))) (show ((decide (okK k)) : Bool) = true from (by (simp [shapeM, okK, *]; done))) (fun qq0 (q5 : Bool) => (.tup [.agg [dI (qq0.f_has), dI (qq0.f_minView), dI (qq0.f_minSeq), dI (qq0.f_batch)], .one (dB q5)] : AV))) trivial
 refine cF (dF hq3) ?_
 refine xK [] ?_
 refine nT ?_
 by_cases hq4 : k = 4
 ·refine cT (dT hq4) ?_
  refine T.exit ?_
  refine xT ?_
  refine xT ?_
  refine xM rfl ?_
  refine xT ?_
  refine xM rfl ?_
  refine xT ?_
  refine xH ?_
  refine nT ?_
  refine xK [hR 2 rfl rfl (r_bin (u1 := .int .i64 0) (u2 := .int .i64 1) (v := .int .i64 1) (b_orI (by decide +kernel)) (lt_of rfl) ⟨rfl, trivial⟩)] ?_
  refine nB ?_
  refine nT ?_
  refine sR [hR 2 rfl rfl (r_bin (u1 := .int .i64 1) (u2 := .int .i64 10) (v := .int .i64 11) (b_orI (by decide +kernel)) (lt_of rfl) ⟨rfl, trivial⟩)] ?_
  refine T.exit ?_
  refine xM rfl ?_
  refine xT ?_
  refine xM rfl ?_
  refine xT ?_
  refine xM rfl ?_
  refine xT ?_
  refine xM rfl ?_
  refine xT ?_
  refine xM rfl ?_
  refine xT ?_
  refine xM rfl ?_
  refine xT ?_
  refine xM rfl ?_
  refine xT ?_
  refine xH ?_
  refine nT ?_
  refine sR [] ?_
  refine T.ret ?_
  exact eX [.c 2 0 144 0 144 [dI 11, dI 0, dI 1, dI 7] (Z21), .t 3 (Z20)] ⟨⟨rfl, rfl, by kernel_rfl, by kernel_rfl, .inl ⟨4, wide_144, rfl, Nat.le_of_ble_eq_true rfl⟩⟩, ⟨⟨rfl, by kernel_rfl⟩, trivial⟩⟩ [] (gc2 (show (shapeM k) = ⟨11, 0, 1, 7⟩ from (by (simp [shapeM, okK, *]; done))) (show ((decide (okK k)) : Bool) = true from (by (simp [shapeM, okK, *]; done))) (fun qq0 (q5 : Bool) => (.tup [.agg [dI (qq0.f_has), dI (qq0.f_minView), dI (qq0.f_minSeq), dI (qq0.f_batch)], .one (dB q5)] : AV))) trivial
 refine cF (dF hq4) ?_
 refine T.skip (nT (T.seq ?_))
 refine sR [] ?_
 by_cases hq5 : k = 5
 ·refine cT (dT hq5) ?_
  refine T.exit ?_
  refine xT ?_
  refine xT ?_
  refine xM rfl ?_
  refine xT ?_
  refine xM rfl ?_
  refine xT ?_
  refine xM rfl ?_
  refine xT ?_
  refine xH ?_
  refine nT ?_
  refine sR [hR 2 rfl rfl (r_bin (u1 := .int .i64 0) (u2 := .int .i64 10) (v := .int .i64 10) (b_orI (by decide +kernel)) (lt_of rfl) ⟨rfl, trivial⟩)] ?_
  refine T.exit ?_
  refine xM rfl ?_
  refine xT ?_
  refine xM rfl ?_
  refine xT ?_
  refine xM rfl ?_
  refine xT ?_
  refine xM rfl ?_
  refine xT ?_
  refine xM rfl ?_
  refine xT ?_
  refine xM rfl ?_
  refine xT ?_
  refine xM rfl ?_
  refine xT ?_
  refine xH ?_
  refine nT ?_
  refine sR [] ?_
  refine T.ret ?_
  exact eX [.c 2 0 144 0 144 [dI 10, dI 0, dI 1, dI 7] (.agg [dI 10, dI 0, dI 1, dI 7]), .t 3 (Z20)] ⟨⟨rfl, rfl, by kernel_rfl, by kernel_rfl, .inl ⟨4, wide_144, rfl, Nat.le_of_ble_eq_true rfl⟩⟩, ⟨⟨rfl, by kernel_rfl⟩, trivial⟩⟩ [] (gc2 (show (shapeM k) = ⟨10, 0, 1, 7⟩ from (by (simp [shapeM, okK, *]; done))) (show ((decide (okK k)) : Bool) = true from (by (simp [shapeM, okK, *]; done))) (fun qq0 (q5 : Bool) => (.tup [.agg [dI (qq0.f_has), dI (qq0.f_minView), dI (qq0.f_minSeq), dI (qq0.f_batch)], .one (dB q5)] : AV))) trivial
 refine cF (dF hq5) ?_
 refine T.skip (nT (T.seq ?_))
 refine sR [] ?_
 by_cases hq6 : k = 6
 ·refine cT (dT hq6) ?_
  refine T.exit ?_
  refine xT ?_
  refine xT ?_
  refine xM rfl ?_
  refine xT ?_
  refine xM rfl ?_
  refine xT ?_
  refine xM rfl ?_
  refine xT ?_
  refine xM rfl ?_
  refine xT ?_
  refine xH ?_
  refine nT ?_
  refine sR [] ?_
  refine T.exit ?_
  refine xM rfl ?_
  refine xT ?_
  refine xM rfl ?_
  refine xT ?_
  refine xM rfl ?_
  refine xT ?_
  refine xM rfl ?_
  refine xT ?_
  refine xM rfl ?_
  refine xT ?_
  refine xM rfl ?_
  refine xT ?_
  refine xH ?_
  refine nT ?_
  refine sR [] ?_
  refine T.ret ?_
  exact eX [.c 2 0 144 0 144 [dI 323, dI 1, dI 0, dI 7] (.agg [dI 323, dI 1, dI 0, dI 7]), .t 3 (Z20)] ⟨⟨rfl, rfl, by kernel_rfl, by kernel_rfl, .inl ⟨4, wide_144, rfl, Nat.le_of_ble_eq_true rfl⟩⟩, ⟨⟨rfl, by kernel_rfl⟩, trivial⟩⟩ [] (gc2 (show (shapeM k) = ⟨323, 1, 0, 7⟩ from (by (simp [shapeM, okK, *]; done))) (show ((decide (okK k)) : Bool) = true from (by (simp [shapeM, okK, *]; done))) (fun qq0 (q5 : Bool) => (.tup [.agg [dI (qq0.f_has), dI (qq0.f_minView), dI (qq0.f_minSeq), dI (qq0.f_batch)], .one (dB q5)] : AV))) trivial
 refine cF (dF hq6) ?_
 refine T.skip (nT (T.seq ?_))
 refine sR [] ?_
 by_cases hq7 : k = 7
 ·refine cT (dT hq7) ?_
  refine T.exit ?_
  refine xT ?_
  refine xT ?_
  refine xM rfl ?_
  refine xT ?_
  refine xM rfl ?_
  refine xT ?_
  refine xM rfl ?_
  refine xT ?_
  refine xM rfl ?_
  refine xT ?_
  refine xM rfl ?_
  refine xT ?_
  refine xH ?_
  refine nT ?_
  refine sR [] ?_
  refine T.exit ?_
  refine xM rfl ?_
  refine xT ?_
  refine xM rfl ?_
  refine xT ?_
  refine xM rfl ?_
  refine xT ?_
  refine xM rfl ?_
  refine xT ?_
  refine xM rfl ?_
  refine xT ?_
  refine xH ?_
  refine nT ?_
  refine sR [] ?_
  refine T.ret ?_
  exact eX [.c 2 0 144 0 144 [dI 193, dI 1, dI 1, dI 7] (.agg [dI 193, dI 1, dI 1, dI 7]), .t 3 (Z20)] ⟨⟨rfl, rfl, by kernel_rfl, by kernel_rfl, .inl ⟨4, wide_144, rfl, Nat.le_of_ble_eq_true rfl⟩⟩, ⟨⟨rfl, by kernel_rfl⟩, trivial⟩⟩ [] (gc2 (show (shapeM k) = ⟨193, 1, 1, 7⟩ from (by (simp [shapeM, okK, *]; done))) (show ((decide (okK k)) : Bool) = true from (by (simp [shapeM, okK, *]; done))) (fun qq0 (q5 : Bool) => (.tup [.agg [dI (qq0.f_has), dI (qq0.f_minView), dI (qq0.f_minSeq), dI (qq0.f_batch)], .one (dB q5)] : AV))) trivial
 refine cF (dF hq7) ?_
 refine T.skip (nT (T.seq ?_))
 refine sR [] ?_
 by_cases hq8 : k = 8
 ·refine cT (dT hq8) ?_
  refine T.exit ?_
  refine xT ?_
  refine xT ?_
  refine xM rfl ?_
  refine xT ?_
  refine xM rfl ?_
  refine xT ?_
  refine xM rfl ?_
  refine xT ?_
  refine xM rfl ?_
  refine xT ?_
  refine xM rfl ?_
  refine xT ?_
  refine xM rfl ?_
  refine xT ?_
  refine xH ?_
  refine nT ?_
  refine sR [] ?_
  refine T.exit ?_
  refine xM rfl ?_
  refine xT ?_
  refine xM rfl ?_
  refine xT ?_
  refine xM rfl ?_
  refine xT ?_
  refine xM rfl ?_
  refine xT ?_
  refine xH ?_
  refine nT ?_
  refine sR [] ?_
  refine T.ret ?_
  exact eX [.c 2 0 144 0 144 [dI 37, dI 0, dI 1, dI 7] (.agg [dI 37, dI 0, dI 1, dI 7]), .t 3 (Z20)] ⟨⟨rfl, rfl, by kernel_rfl, by kernel_rfl, .inl ⟨4, wide_144, rfl, Nat.le_of_ble_eq_true rfl⟩⟩, ⟨⟨rfl, by kernel_rfl⟩, trivial⟩⟩ [] (gc2 (show (shapeM k) = ⟨37, 0, 1, 7⟩ from (by (simp [shapeM, okK, *]; done))) (show ((decide (okK k)) : Bool) = true from (by (simp [shapeM, okK, *]; done))) (fun qq0 (q5 : Bool) => (.tup [.agg [dI (qq0.f_has), dI (qq0.f_minView), dI (qq0.f_minSeq), dI (qq0.f_batch)], .one (dB q5)] : AV))) trivial
 refine cF (dF hq8) ?_
 refine T.skip (nT (T.seq ?_))
 refine sR [] ?_
 by_cases hq9 : k = 9
 ·refine cT (dT hq9) ?_
  refine T.exit ?_
  refine xT ?_
  refine xT ?_
  refine xM rfl ?_
  refine xT ?_
  refine xM rfl ?_
  refine xT ?_
  refine xM rfl ?_
  refine xT ?_
  refine xM rfl ?_
  refine xT ?_
  refine xM rfl ?_
  refine xT ?_
  refine xM rfl ?_
  refine xT ?_
  refine xM rfl ?_
  refine xT ?_
  refine xH ?_
  refine nT ?_
  refine sR [] ?_
  refine T.exit ?_
  refine xM rfl ?_
  refine xT ?_
  refine xM rfl ?_
  refine xT ?_
  refine xM rfl ?_
  refine xT ?_
  refine xH ?_
  refine nT ?_
  refine sR [] ?_
  refine T.ret ?_
  exact eX [.c 2 0 144 0 144 [dI 2, dI 0, dI 0, dI 7] (.agg [dI 2, dI 0, dI 0, dI 7]), .t 3 (Z20)] ⟨⟨rfl, rfl, by kernel_rfl, by kernel_rfl, .inl ⟨4, wide_144, rfl, Nat.le_of_ble_eq_true rfl⟩⟩, ⟨⟨rfl, by kernel_rfl⟩, trivial⟩⟩ [] (gc2 (show (shapeM k) = ⟨2, 0, 0, 7⟩ from (by (simp [shapeM, okK, *]; done))) (show ((decide (okK k)) : Bool) = true from (by (simp [shapeM, okK, *]; done))) (fun qq0 (q5 : Bool) => (.tup [.agg [dI (qq0.f_has), dI (qq0.f_minView), dI (qq0.f_minSeq), dI (qq0.f_batch)], .one (dB q5)] : AV))) trivial
 refine cF (dF hq9) ?_
 refine T.skip (nT (T.seq ?_))
 refine sR [] ?_
 by_cases hq10 : k = 10
 ·refine cT (dT hq10) ?_
  refine T.exit ?_
  refine xT ?_
  refine xT ?_
  refine xM rfl ?_
  refine xT ?_
  refine xM rfl ?_
  refine xT ?_
  refine xM rfl ?_
  refine xT ?_
  refine xM rfl ?_
  refine xT ?_
  refine xM rfl ?_
  refine xT ?_
  refine xM rfl ?_
  refine xT ?_
  refine xM rfl ?_
  refine xT ?_
  refine xM rfl ?_
  refine xT ?_
  refine xH ?_
  refine nT ?_
  refine sR [] ?_
  refine T.exit ?_
  refine xM rfl ?_
  refine xT ?_
  refine xM rfl ?_
  refine xT ?_
  refine xH ?_
  refine nT ?_
  refine sR [] ?_
  refine T.ret ?_
  exact eX [.c 2 0 144 0 144 [dI 256, dI 0, dI 1, dI 7] (.agg [dI 256, dI 0, dI 1, dI 7]), .t 3 (Z20)] ⟨⟨rfl, rfl, by kernel_rfl, by kernel_rfl, .inl ⟨4, wide_144, rfl, Nat.le_of_ble_eq_true rfl⟩⟩, ⟨⟨rfl, by kernel_rfl⟩, trivial⟩⟩ [] (gc2 (show (shapeM k) = ⟨256, 0, 1, 7⟩ from (by (simp [shapeM, okK, *]; done))) (show ((decide (okK k)) : Bool) = true from (by (simp [shapeM, okK, *]; done))) (fun qq0 (q5 : Bool) => (.tup [.agg [dI (qq0.f_has), dI (qq0.f_minView), dI (qq0.f_minSeq), dI (qq0.f_batch)], .one (dB q5)] : AV))) trivial
 refine cF (dF hq10) ?_
 refine T.skip (nT ?_)
 refine sR [] ?_
 by_cases hq11 : k = 11
 ·refine cT (dT hq11) ?_
  refine T.exit ?_
  refine xT ?_
  refine xM rfl ?_
  refine xT ?_
  refine xM rfl ?_
  refine xT ?_
  refine xM rfl ?_
  refine xT ?_
  refine xM rfl ?_
  refine xT ?_
  refine xM rfl ?_
  refine xT ?_
  refine xM rfl ?_
  refine xT ?_
  refine xM rfl ?_
  refine xT ?_
  refine xM rfl ?_
  refine xT ?_
  refine xM rfl ?_
  refine xT ?_
  refine xH ?_
  refine nT ?_
  refine sR [] ?_
  refine T.exit ?_
  refine xM rfl ?_
  refine xT ?_
  refine xH ?_
  refine nT ?_
  refine sR [] ?_
  refine T.ret ?_
  exact eX [.c 2 0 144 0 144 [dI 82, dI 0, dI 1, dI 7] (.agg [dI 82, dI 0, dI 1, dI 7]), .t 3 (Z20)] ⟨⟨rfl, rfl, by kernel_rfl, by kernel_rfl, .inl ⟨4, wide_144, rfl, Nat.le_of_ble_eq_true rfl⟩⟩, ⟨⟨rfl, by kernel_rfl⟩, trivial⟩⟩ [] (gc2 (show (shapeM k) = ⟨82, 0, 1, 7⟩ from (by (simp [shapeM, okK, *]; done))) (show ((decide (okK k)) : Bool) = true from (by (simp [shapeM, okK, *]; done))) (fun qq0 (q5 : Bool) => (.tup [.agg [dI (qq0.f_has), dI (qq0.f_minView), dI (qq0.f_minSeq), dI (qq0.f_batch)], .one (dB q5)] : AV))) trivial
 refine cF (dF hq11) ?_
 refine T.skip (nT ?_)
 refine T.exit ?_
 refine xM rfl ?_
 refine xT ?_
 refine xM rfl ?_
 refine xT ?_
 refine xM rfl ?_
 refine xT ?_
 refine xM rfl ?_
 refine xT ?_
 refine xM rfl ?_
 refine xT ?_
 refine xM rfl ?_
 refine xT ?_
 refine xM rfl ?_
 refine xT ?_
 refine xM rfl ?_
 refine xT ?_
 refine xM rfl ?_
 refine xT ?_
 refine xM rfl ?_
 refine xT ?_
 refine xH ?_
 refine nT (T.seq ?_)
 refine sR [] ?_
 refine T.ret (rT (rB (rT ?_)))
 exact eX [.c 2 0 144 0 144 [dI 0, dI 0, dI 1, dI 7] (.agg [dI 0, dI 0, dI 1, dI 7]), .t 3 (.one (dB false))] ⟨⟨rfl, rfl, by kernel_rfl, by kernel_rfl, .inl ⟨4, wide_144, rfl, Nat.le_of_ble_eq_true rfl⟩⟩, ⟨⟨rfl, by kernel_rfl⟩, trivial⟩⟩ [] (gc2 (show (shapeM k) = ⟨0, 0, 1, 7⟩ from (by (simp [shapeM, okK, *]; done))) (by exact dF (by unfold okK; omega)) (fun qq0 (q5 : Bool) => (.tup [.agg [dI (qq0.f_has), dI (qq0.f_minView), dI (qq0.f_minSeq), dI (qq0.f_batch)], .one (dB q5)] : AV))) trivial
theorem msg_in (s : message_shape) (f : Int) (n : Int) (lo : Int) (hi : Int) : Holds Tryz.prog 117 ⟨[.tv (.agg [dI s.f_has, dI s.f_minView, dI s.f_minSeq, dI s.f_batch]), vI f, vI n, vI lo, vI hi], [], vB (decide (inM s f n lo hi)), []⟩ := by
 refine Holds.of Tryz.func117 rfl (N := 24) Tryz.ntmps117 rfl fun w0 B0 S0 U0 => ?_
 show T _ (mkBase 24 0 w0 S0 U0 B0) ⟨[.tv (.agg [dI s.f_has, dI s.f_minView, dI s.f_minSeq, dI s.f_batch]), vI f, vI n, vI lo, vI hi], []⟩ _ _
 refine sR [] ?_
 refine T.seq ?_
 refine sR [hR 3 rfl rfl (r_bin (u1 := .int .i64 s.f_has) (u2 := .int .i64 f) (v := .int .i64 (andI s.f_has f)) (b_andI rfl) (lt_of rfl) trivial)] ?_
 by_cases hq1 : (andI s.f_has f) = 0
 ·refine cT (dT hq1) ?_
  refine xK [] ?_
  refine nT ?_
  by_cases hq2 : 0 ≤ n
  ·refine sR [hY 4 (dT hq2),
     hY 5 (dT hq2),
     hY 6 (dT hq2),
     hP 7 (dT hq2)] ?_
   refine T.ret ?_
   exact eRt 10 (.one (dB (decide (n ≤ 0)))) [] (by have e1 : ((decide (inM s f n lo hi)) : Bool) = (decide (n ≤ 0)) := (by (simp [inM, *]; done)); have hE := cB e1; exact hE) trivial
  refine sR [hN 4 true (dF hq2),
    hN 5 true (dF hq2),
    hN 6 true (dF hq2),
    hP 7 (dF hq2)] ?_
  refine T.ret ?_
  exact eRt 10 (.one (dB false)) [] (by have e1 : ((decide (inM s f n lo hi)) : Bool) = false := (by (simp [inM, *]; done)); have hE := cB e1; exact hE) trivial
 refine cF (dF hq1) ?_
 refine T.skip (nT ?_)
 by_cases hq3 : lo ≤ n
 ·refine sR [hY 4 (dT hq3),
    hY 5 (dT hq3),
    hY 6 (dT hq3),
    hP 7 (dT hq3)] ?_
  refine T.ret ?_
  exact eRt 10 (.one (dB (decide (n ≤ hi)))) [] (by have e1 : ((decide (inM s f n lo hi)) : Bool) = (decide (n ≤ hi)) := (by (simp [inM, *]; done)); have hE := cB e1; exact hE) trivial
 refine sR [hN 4 true (dF hq3),
   hN 5 true (dF hq3),
   hN 6 true (dF hq3),
   hP 7 (dF hq3)] ?_
 refine T.ret ?_
 exact eRt 10 (.one (dB false)) [] (by have e1 : ((decide (inM s f n lo hi)) : Bool) = false := (by (simp [inM, *]; done)); have hE := cB e1; exact hE) trivial
theorem msg_Check1 (tc : Bool) (c : aC) : Holds Tryz.prog 119 ⟨[.tv (.agg [dI c.f_Pre.f_Signer, .d (dsl tc false kU8 c.f_Pre.f_Body), .d (dsl tc false (kE tc) c.f_Votes)])], [], vB (decide (((c.f_Votes.length : Nat) : Int) > 7)), []⟩ := by
 refine Holds.of Tryz.func119 rfl (N := 7) Tryz.ntmps119 rfl fun w0 B0 S0 U0 => ?_
 show T _ (mkBase 7 0 w0 S0 U0 B0) ⟨[.tv (.agg [dI c.f_Pre.f_Signer, .d (dsl tc false kU8 c.f_Pre.f_Body), .d (dsl tc false (kE tc) c.f_Votes)])], []⟩ _ _
 refine sR [] ?_
 refine sR [] ?_
 refine T.ret ?_
 exact eRt 2 (.one (dB (decide (((c.f_Votes.length : Nat) : Int) > 7)))) [] rfl trivial
theorem iat_38 : Tryz.prog.info? 38 = some Tryz.t38 := by kernel_rfl
theorem wide_38 : Wide Tryz.prog 38 (some 3) := ⟨_, _, Tryz.underlying38, .inl ⟨_, rfl⟩, iat_38, rfl⟩
abbrev Z22 : AV := dv (.func (.func 119) #[] #[])
abbrev Z23 (l : List aC) : AV := vI ((l.length : Nat) : Int)
theorem idx_Cert (tl : Bool) (nl : Bool) (sl_ : Bool) (l : List aC) (hl : l.length ≤ 9223372036854775807) : Holds Tryz.prog 129 ⟨[slV tl nl (kC sl_) l, dv (.func (.func 119) #[] #[])], [], vI (idxV l), []⟩ := by
 refine Holds.of Tryz.func129 rfl (N := 19) Tryz.ntmps129 rfl fun w0 B0 S0 U0 => ?_
 show T _ (mkBase 19 0 w0 S0 U0 B0) ⟨[slV tl nl (kC sl_) l, Z22], []⟩ _ _
 refine sR [] ?_
 refine T.seq ?_
 refine sR [] ?_
 refine T.block ?_
 refine T.loop (ι := Nat) (fun (k : Nat) => ⟨[slV tl nl (kC sl_) l, Z22, aa, aa, vI 0, aa, aa, (Z23 l), vI ((k : Nat) : Int)], []⟩) (fun (k : Nat) => (k ≤ l.length) ∧ (∀ j, j < k → (l.getD j zC).f_Votes.length ≤ 7)) (fun (k : Nat) => l.length - k) (0) ⟨(Nat.zero_le _), (fun j hj => absurd hj (Nat.not_lt_zero _))⟩ (fun _ _ hG => Gs.iI [] (bm 9 403) rfl rfl hG) ?_
 rintro k ⟨hk, hb⟩
 show T _ _ ⟨[slV tl nl (kC sl_) l, Z22, aa, aa, vI 0, aa, aa, (Z23 l), vI ((k : Nat) : Int)], []⟩ _ _
 replace hk : k ≤ l.length := hk
 replace hb : ∀ j, j < k → (l.getD j zC).f_Votes.length ≤ 7 := hb
 refine sR [] ?_
 refine T.seq ?_
 by_cases hq1 : ((k : Nat) : Int) < ((l.length : Nat) : Int)
 ·refine cT (dT hq1) ?_
  refine T.skip (nT (T.seq ?_))
  refine T.block ?_
  refine sR [] ?_
  refine sR [hR 3 rfl rfl (q_index tl nl (kC sl_) l k (k := .i64) (i := ((k : Nat) : Int)) Tryz.underlying44 iat_38 rfl rfl (by omega) (lt_of rfl) trivial),
    hR 5 rfl rfl (r_callV (fs := #[]) (cs := #[]) (msg_Check1 sl_ (l.getD k zC) ) Tryz.func119 rfl (by decide) [] [] (l := [(.tmp 15, .tv (.agg [dI (l.getD k zC).f_Pre.f_Signer, .d (dsl sl_ false kU8 (l.getD k zC).f_Pre.f_Body), .d (dsl sl_ false (kE sl_) (l.getD k zC).f_Votes)]))]) [] rfl 0 0 rfl rfl rfl rfl rfl rfl rfl rfl rfl rfl rfl ⟨⟨.inl ⟨rfl, rfl⟩, ⟨.inl ⟨rfl, rfl⟩, ⟨.inl ⟨rfl, rfl⟩, trivial⟩⟩⟩, trivial⟩ rfl (fun b hb => by cases hb) (.inl rfl) (lt_of rfl) trivial)] ?_
  by_cases hq2 : (((l.getD k zC).f_Votes.length : Nat) : Int) > 7
  ·refine cT (dT hq2) ?_
   refine sR [] ?_
   refine T.ret (rB (rT (rT (rB (rT ?_)))))
   exact eRt 4 (.one (dI ((k : Nat) : Int))) [] (cI (by exact idx_at hb (by omega) (by omega))) trivial
  refine cF (dF hq2) ?_
  refine T.skip ?_
  refine nB ?_
  refine nT ?_
  refine xK [hR 0 rfl rfl (r_bin (u1 := .int .i64 ((k : Nat) : Int)) (u2 := .int .i64 1) (v := .int .i64 ((k + 1 : Nat) : Int)) (b_add (by rw [IntKind.wrap_i64]; omega)) (lt_of rfl) ⟨rfl, trivial⟩)] ?_
  refine nL (k + 1) ⟨(show (k + 1) ≤ l.length from (by omega)), (show ∀ j, j < (k + 1) → (l.getD j zC).f_Votes.length ≤ 7 from (all_succ hb (by omega)))⟩ (show (l.length - (k + 1) : Nat) < l.length - k from (by omega)) (fun _ _ hG => Gs.iI [] (bm 9 403) rfl rfl hG)
 refine cF (dF hq1) ?_
 refine T.exit ?_
 refine xT ?_
 refine xT ?_
 refine xH ?_
 refine nT ?_
 refine sR [] ?_
 refine T.ret ?_
 exact eRt 4 (.one (dI (-1))) [] (cI (by exact idx_no hb (by omega))) trivial
theorem has_Cert (tl : Bool) (nl : Bool) (sl_ : Bool) (l : List aC) (hl : l.length ≤ 9223372036854775807) : Holds Tryz.prog 118 ⟨[slV tl nl (kC sl_) l, dv (.func (.func 119) #[] #[])], [], vB (decide (¬ fewV l)), []⟩ := by
 refine Holds.of Tryz.func118 rfl (N := 9) Tryz.ntmps118 rfl fun w0 B0 S0 U0 => ?_
 show T _ (mkBase 9 0 w0 S0 U0 B0) ⟨[slV tl nl (kC sl_) l, dv (.func (.func 119) #[] #[])], []⟩ _ _
 refine sR [] ?_
 refine sR [hR 2 rfl rfl (rCa (idx_Cert tl nl sl_ l ‹_›) Tryz.func129 [] [(.tmp 5, slV tl nl (kC sl_) l), (.tmp 6, dv (.func (.func 119) #[] #[]))] 0 0)] ?_
 refine T.ret ?_
 exact eRt 4 (.one (dB (decide ((idxV l) ≥ 0)))) [] (by have e1 : ((decide (¬ fewV l)) : Bool) = (decide ((idxV l) ≥ 0)) := (by (rw [decide_eq_decide]; exact (idx_few _).symm)); have hE := cB e1; exact hE) trivial
end Go.Proofs.YtalapplihdmenaaGreat.Q
