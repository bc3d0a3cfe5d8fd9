import Derived.Test.YtioenfjcbikbcaaC20n4
namespace Go.Proofs.Ytioenfjcbikbcaa.Q
open Go Go.RowKit
set_option linter.unusedVariables false
set_option linter.unusedSimpArgs false
set_option maxRecDepth 100000
set_option maxHeartbeats 4000000
-- (*quaestor/net.Net).Send
theorem nil_Send (te : Bool) (to : Int) (e : api_Envelope) : Holds Try.prog 11 ⟨[dv (.pointer none), dv (.int .i64 to), .tv (.agg [.d (.val (.int .i64 e.f_Signer)), .d (dsl te false kU8 e.f_Body)])], [], dv (.int .i64 1), []⟩ := by
  refine Holds.of Try.func11 rfl (N := 41) Try.ntmps11 rfl fun w0 B0 S0 U0 => ?_
  show T _ (mkBase 41 0 w0 S0 U0 B0) ⟨[dv (.pointer none), dv (.int .i64 to), .tv (.agg [.d (.val (.int .i64 e.f_Signer)), .d (dsl te false kU8 e.f_Body)])], []⟩ _ _
  refine T.seq ?_
  refine tR (s1 := ⟨[dv (.pointer none), dv (.int .i64 to), .tv (.agg [.d (.val (.int .i64 e.f_Signer)), .d (dsl te false kU8 e.f_Body)]), AV.any, AV.any, pv 0 0, dv (.int .i64 0)], [.live (.box 29 [.d (.val (.int .i64 e.f_Signer)), .d (dsl te false kU8 e.f_Body)])]⟩) [true, true, true, false, false, true, true] [true]
    (oC (oS rfl rfl (r_box (l := 0) (t := .agg [.d (.val (.int .i64 e.f_Signer)), .d (dsl te false kU8 e.f_Body)]) rfl (lt_of rfl) trivial))
    (oC (oS rfl rfl (r_assign (av := dv (.int .i64 0)) (lt_of rfl) ⟨rfl, trivial⟩)) (oZ rfl)))
    (by kernel_rfl) (by kernel_rfl) ?_
  refine nT ?_
  refine T.seq ?_
  refine T.block ?_
  refine T.seq ?_
  refine tR (s1 := ⟨[dv (.pointer none), dv (.int .i64 to), .tv (.agg [.d (.val (.int .i64 e.f_Signer)), .d (dsl te false kU8 e.f_Body)]), AV.any, AV.any, pv 0 0, dv (.int .i64 0), dv (.bool true)], [.live (.box 29 [.d (.val (.int .i64 e.f_Signer)), .d (dsl te false kU8 e.f_Body)])]⟩) [true, true, true, false, false, true, true, true] [true]
    (oC (oS rfl rfl (r_move (av := dv (.pointer none)) (lt_of rfl) trivial))
    (oC (oS rfl rfl (r_bin (u1 := .pointer none) (u2 := .pointer none) (v := .bool true) (b_eqlNilP Try.underlying24) (lt_of rfl) ⟨rfl, trivial⟩))
    (oC (oS rfl rfl (r_assign (av := dv (.bool true)) (lt_of rfl) trivial)) (oZ rfl))))
    (by kernel_rfl) (by kernel_rfl) ?_
  refine nT ?_
  refine T.condT (b := true) rfl rfl ?_
  refine T.seq ?_
  refine tR (s1 := ⟨[dv (.pointer none), dv (.int .i64 to), .tv (.agg [.d (.val (.int .i64 e.f_Signer)), .d (dsl te false kU8 e.f_Body)]), AV.any, AV.any, pv 0 0, dv (.int .i64 1), dv (.bool true)], [.live (.box 29 [.d (.val (.int .i64 e.f_Signer)), .d (dsl te false kU8 e.f_Body)])]⟩) [true, true, true, false, false, true, true, true] [true]
    (oC (oS rfl rfl (r_assign (av := dv (.int .i64 1)) (lt_of rfl) ⟨rfl, trivial⟩)) (oZ rfl))
    (by kernel_rfl) (by kernel_rfl) ?_
  refine nT ?_
  refine T.ret ?_
  refine rB ?_
  refine rT ?_
  exact tE (.inl rfl) [.t 6 (.one (.d (.val (.int .i64 1))))] ⟨⟨rfl, rfl⟩, trivial⟩ [] rfl rfl rfl rfl rfl rfl trivial

-- (*quaestor/net.Net).Len
theorem nil_Len : Holds Try.prog 16 ⟨[dv (.pointer none)], [], dv (.int .i64 0), []⟩ := by
  refine Holds.of Try.func16 rfl (N := 10) Try.ntmps16 rfl fun w0 B0 S0 U0 => ?_
  show T _ (mkBase 10 0 w0 S0 U0 B0) ⟨[dv (.pointer none)], []⟩ _ _
  refine T.seq ?_
  refine tR (s1 := ⟨[dv (.pointer none), AV.any, dv (.int .i64 0)], []⟩) [true, false, true] []
    (oC (oS rfl rfl (r_assign (av := dv (.int .i64 0)) (lt_of rfl) ⟨rfl, trivial⟩)) (oZ rfl))
    (by kernel_rfl) (by kernel_rfl) ?_
  refine nT ?_
  refine T.seq ?_
  refine T.seq ?_
  refine tR (s1 := ⟨[dv (.pointer none), AV.any, dv (.int .i64 0), AV.any, dv (.bool true)], []⟩) [true, false, true, false, true] []
    (oC (oS rfl rfl (r_move (av := dv (.pointer none)) (lt_of rfl) trivial))
    (oC (oS rfl rfl (r_bin (u1 := .pointer none) (u2 := .pointer none) (v := .bool true) (b_eqlNilP Try.underlying24) (lt_of rfl) ⟨rfl, trivial⟩)) (oZ rfl)))
    (by kernel_rfl) (by kernel_rfl) ?_
  refine nT ?_
  refine T.condT (b := true) rfl rfl ?_
  refine T.seq ?_
  refine tR (s1 := ⟨[dv (.pointer none), AV.any, dv (.int .i64 0), AV.any, dv (.bool true)], []⟩) [true, false, true, false, true] []
    (oC (oS rfl rfl (r_assign (av := dv (.int .i64 0)) (lt_of rfl) ⟨rfl, trivial⟩)) (oZ rfl))
    (by kernel_rfl) (by kernel_rfl) ?_
  refine nT ?_
  refine T.ret ?_
  refine rT ?_
  exact tE (.inl rfl) [.t 2 (.one (.d (.val (.int .i64 0))))] ⟨⟨rfl, rfl⟩, trivial⟩ [] rfl rfl rfl rfl rfl rfl trivial

-- (*quaestor/net.Net).At
theorem nil_At (i : Int) : Holds Try.prog 14 ⟨[dv (.pointer none), dv (.int .i64 i)], [], .tup [.agg [.d (.val (.int .i64 z_api_Packet.f_Id)), .d (.val (.int .i64 z_api_Packet.f_To)), .d (.val (.int .i64 z_api_Packet.f_Env.f_Signer)), .d (dsl false false kU8 z_api_Packet.f_Env.f_Body)], .one (.d (.val (.int .i64 2)))], []⟩ := by
  refine Holds.of Try.func14 rfl (N := 23) Try.ntmps14 rfl fun w0 B0 S0 U0 => ?_
  show T _ (mkBase 23 0 w0 S0 U0 B0) ⟨[dv (.pointer none), dv (.int .i64 i)], []⟩ _ _
  refine T.seq ?_
  refine tR (s1 := ⟨[dv (.pointer none), dv (.int .i64 i), AV.any, AV.any, pv 0 0, dv (.int .i64 0)], [.live (.box 35 [.d (.val (.int .i64 0)), .d (.val (.int .i64 0)), .d (.val (.int .i64 0)), .d (.val (.slice none 0 0))])]⟩) [true, true, false, false, true, true] [true]
    (oC (oS rfl rfl (r_alloc (l := 0) zero_35 (lt_of rfl)))
    (oC (oS rfl rfl (r_assign (av := dv (.int .i64 0)) (lt_of rfl) ⟨rfl, trivial⟩)) (oZ rfl)))
    (by kernel_rfl) (by kernel_rfl) ?_
  refine nT ?_
  refine T.seq ?_
  refine T.seq ?_
  by_cases hq1 : i < 0
  · refine tR (s1 := ⟨[dv (.pointer none), dv (.int .i64 i), AV.any, AV.any, pv 0 0, dv (.int .i64 0), AV.any, AV.any, AV.any, AV.any, AV.any, AV.any, AV.any, dv (.bool true)], [.live (.box 35 [.d (.val (.int .i64 0)), .d (.val (.int .i64 0)), .d (.val (.int .i64 0)), .d (.val (.slice none 0 0))])]⟩) [true, true, false, false, true, true, false, false, false, false, false, false, false, true] [true]
      (oC (oS rfl rfl (r_move (av := dv (.int .i64 i)) (lt_of rfl) trivial))
      (oC (oS rfl rfl (r_bin (u1 := .int .i64 i) (u2 := .int .i64 0) (v := .bool (decide (i < 0))) b_lss (lt_of rfl) ⟨rfl, trivial⟩))
      (oC (oS rfl rfl (r_move (av := dv (.bool (decide (i < 0)))) (lt_of rfl) trivial))
      (oC (oN (b := (decide (i < 0))) rfl rfl rfl rfl (lt_of rfl) (decide_eq_true hq1) rfl (lt_of rfl))
      (oC (oN (b := (decide (i < 0))) rfl rfl rfl rfl (lt_of rfl) (decide_eq_true hq1) rfl (lt_of rfl))
      (oC (oN (b := (decide (i < 0))) rfl rfl rfl rfl (lt_of rfl) (decide_eq_true hq1) rfl (lt_of rfl))
      (oC (oN (b := (decide (i < 0))) rfl rfl rfl rfl (lt_of rfl) (decide_eq_true hq1) rfl (lt_of rfl))
      (oC (oS rfl rfl (r_pickT (b := (decide (i < 0))) (av := dv (.bool true)) (lt_of rfl) ⟨rfl, trivial⟩ (decide_eq_true hq1))) (oZ rfl)))))))))
      (by kernel_rfl) (by kernel_rfl) ?_
    refine nT ?_
    refine T.condT (b := true) rfl rfl ?_
    refine T.seq ?_
    refine tR (s1 := ⟨[dv (.pointer none), dv (.int .i64 i), AV.any, AV.any, pv 0 0, dv (.int .i64 2), AV.any, AV.any, AV.any, AV.any, AV.any, AV.any, AV.any, dv (.bool true)], [.live (.box 35 [.d (.val (.int .i64 0)), .d (.val (.int .i64 0)), .d (.val (.int .i64 0)), .d (.val (.slice none 0 0))])]⟩) [true, true, false, false, true, true, false, false, false, false, false, false, false, true] [true]
      (oC (oS rfl rfl (r_build (ps := []) (cs := [.d (.val (.int .i64 0)), .d (.val (.int .i64 0)), .d (.val (.int .i64 0)), .d (.val (.slice none 0 0))]) zero_35 places_35 rfl part_ok rfl (lt_of rfl) trivial))
      (oC (oS rfl rfl (r_store (l := 0) (off := 0) (n := 4) (T := 35) (cs := [.d (.val (.int .i64 0)), .d (.val (.int .i64 0)), .d (.val (.int .i64 0)), .d (.val (.slice none 0 0))]) (cs' := [.d (.val (.int .i64 0)), .d (.val (.int .i64 0)), .d (.val (.int .i64 0)), .d (.val (.slice none 0 0))]) (tv := .agg [.d (.val (.int .i64 0)), .d (.val (.int .i64 0)), .d (.val (.int .i64 0)), .d (.val (.slice none 0 0))]) cells_35 rfl (Nat.le_of_ble_eq_true rfl) rfl rfl trivial))
      (oC (oS rfl rfl (r_assign (av := dv (.int .i64 2)) (lt_of rfl) ⟨rfl, trivial⟩)) (oZ rfl))))
      (by kernel_rfl) (by kernel_rfl) ?_
    refine nT ?_
    refine T.ret ?_
    refine rT ?_
    refine Ends.turn (s' := ⟨[dv (.pointer none), dv (.int .i64 i), AV.any, AV.any, pv 0 0, dv (.int .i64 2), AV.any, AV.any, AV.any, AV.any, AV.any, AV.any, AV.any, dv (.bool true)], [.live (.box 35 [.d (.val (.int .i64 0)), .d (.val (.int .i64 0)), .d (.val (.int .i64 0)), .d (dsl false false kU8 ([] : List UInt8))])]⟩) (fun _ _ hG => Gs.less (s := ⟨[dv (.pointer none), dv (.int .i64 i), AV.any, AV.any, pv 0 0, dv (.int .i64 2), AV.any, AV.any, AV.any, AV.any, AV.any, AV.any, AV.any, dv (.bool true)], [.live (.box 35 [.d (.val (.int .i64 0)), .d (.val (.int .i64 0)), .d (.val (.int .i64 0)), .d (.val (.slice none 0 0))])]⟩) ⟨(.inl rfl), ⟨(.inl rfl), ⟨(.inl rfl), ⟨(.inl rfl), ⟨(.inl rfl), ⟨(.inl rfl), ⟨(.inl rfl), ⟨(.inl rfl), ⟨(.inl rfl), ⟨(.inl rfl), ⟨(.inl rfl), ⟨(.inl rfl), ⟨(.inl rfl), ⟨(.inl rfl), trivial⟩⟩⟩⟩⟩⟩⟩⟩⟩⟩⟩⟩⟩⟩ ⟨(.inr ⟨rfl, ⟨(.inl rfl), ⟨(.inl rfl), ⟨(.inl rfl), ⟨(.inr ⟨rfl, rfl, rfl⟩), trivial⟩⟩⟩⟩⟩), trivial⟩ hG) ?_
    exact tE (.inl rfl) [.c 4 0 35 0 35 [.d (.val (.int .i64 0)), .d (.val (.int .i64 0)), .d (.val (.int .i64 0)), .d (dsl false false kU8 ([] : List UInt8))] (.agg [.d (.val (.int .i64 0)), .d (.val (.int .i64 0)), .d (.val (.int .i64 0)), .d (dsl false false kU8 ([] : List UInt8))]), .t 5 (.one (.d (.val (.int .i64 2))))] ⟨⟨rfl, rfl, rfl, rfl, .inl ⟨4, wide_35, rfl, Nat.le_of_ble_eq_true rfl⟩⟩, ⟨⟨rfl, rfl⟩, trivial⟩⟩ [] (by have e1 : (z_api_Packet.f_Id : Int) = 0 := (by rfl); have e2 : (z_api_Packet.f_To : Int) = 0 := (by rfl); have e3 : (z_api_Packet.f_Env.f_Signer : Int) = 0 := (by rfl); have e4 : (z_api_Packet.f_Env.f_Body : List UInt8) = ([] : List UInt8) := (by rfl); have hE := congr (congr (congr (congrArg (fun (q1 : Int) (q2 : Int) (q3 : Int) (q4 : List UInt8) => (.tup [.agg [.d (.val (.int .i64 q1)), .d (.val (.int .i64 q2)), .d (.val (.int .i64 q3)), .d (dsl false false kU8 q4)], .one (.d (.val (.int .i64 2)))] : AV)) e1) e2) e3) e4; exact hE) rfl rfl rfl rfl rfl trivial
  · refine tR (s1 := ⟨[dv (.pointer none), dv (.int .i64 i), AV.any, AV.any, pv 0 0, dv (.int .i64 0), AV.any, AV.any, AV.any, AV.any, AV.any, AV.any, AV.any, dv (.bool (decide (i ≥ 0)))], [.live (.box 35 [.d (.val (.int .i64 0)), .d (.val (.int .i64 0)), .d (.val (.int .i64 0)), .d (.val (.slice none 0 0))])]⟩) [true, true, false, false, true, true, false, false, false, false, false, false, false, true] [true]
      (oC (oS rfl rfl (r_move (av := dv (.int .i64 i)) (lt_of rfl) trivial))
      (oC (oS rfl rfl (r_bin (u1 := .int .i64 i) (u2 := .int .i64 0) (v := .bool (decide (i < 0))) b_lss (lt_of rfl) ⟨rfl, trivial⟩))
      (oC (oS rfl rfl (r_move (av := dv (.bool (decide (i < 0)))) (lt_of rfl) trivial))
      (oC (oY (b := (decide (i < 0))) rfl rfl rfl rfl (lt_of rfl) (decide_eq_false hq1) (r_move (av := dv (.int .i64 i)) (lt_of rfl) trivial))
      (oC (oY (b := (decide (i < 0))) rfl rfl rfl rfl (lt_of rfl) (decide_eq_false hq1) (r_move (av := dv (.pointer none)) (lt_of rfl) trivial))
      (oC (oY (b := (decide (i < 0))) rfl rfl rfl rfl (lt_of rfl) (decide_eq_false hq1) (r_call (nil_Len  ) Try.func16 rfl (by decide) [] [] (l := [(.tmp 10, dv (.pointer none))]) [] rfl 0 0 rfl rfl rfl rfl rfl rfl rfl rfl rfl ⟨.inl ⟨rfl, rfl⟩, trivial⟩ rfl (fun b hb => by cases hb) (.inl rfl) (lt_of rfl) trivial))
      (oC (oY (b := (decide (i < 0))) rfl rfl rfl rfl (lt_of rfl) (decide_eq_false hq1) (r_bin (u1 := .int .i64 i) (u2 := .int .i64 0) (v := .bool (decide (i ≥ 0))) b_geq (lt_of rfl) trivial))
      (oC (oS rfl rfl (r_pickF (b := (decide (i < 0))) (av := dv (.bool (decide (i ≥ 0)))) (lt_of rfl) trivial (decide_eq_false hq1))) (oZ rfl)))))))))
      (by kernel_rfl) (by kernel_rfl) ?_
    refine nT ?_
    by_cases hq2 : i ≥ 0
    · refine T.condT (b := (decide (i ≥ 0))) rfl (decide_eq_true hq2) ?_
      refine T.seq ?_
      refine tR (s1 := ⟨[dv (.pointer none), dv (.int .i64 i), AV.any, AV.any, pv 0 0, dv (.int .i64 2), AV.any, AV.any, AV.any, AV.any, AV.any, AV.any, AV.any, dv (.bool (decide (i ≥ 0)))], [.live (.box 35 [.d (.val (.int .i64 0)), .d (.val (.int .i64 0)), .d (.val (.int .i64 0)), .d (.val (.slice none 0 0))])]⟩) [true, true, false, false, true, true, false, false, false, false, false, false, false, true] [true]
        (oC (oS rfl rfl (r_build (ps := []) (cs := [.d (.val (.int .i64 0)), .d (.val (.int .i64 0)), .d (.val (.int .i64 0)), .d (.val (.slice none 0 0))]) zero_35 places_35 rfl part_ok rfl (lt_of rfl) trivial))
        (oC (oS rfl rfl (r_store (l := 0) (off := 0) (n := 4) (T := 35) (cs := [.d (.val (.int .i64 0)), .d (.val (.int .i64 0)), .d (.val (.int .i64 0)), .d (.val (.slice none 0 0))]) (cs' := [.d (.val (.int .i64 0)), .d (.val (.int .i64 0)), .d (.val (.int .i64 0)), .d (.val (.slice none 0 0))]) (tv := .agg [.d (.val (.int .i64 0)), .d (.val (.int .i64 0)), .d (.val (.int .i64 0)), .d (.val (.slice none 0 0))]) cells_35 rfl (Nat.le_of_ble_eq_true rfl) rfl rfl trivial))
        (oC (oS rfl rfl (r_assign (av := dv (.int .i64 2)) (lt_of rfl) ⟨rfl, trivial⟩)) (oZ rfl))))
        (by kernel_rfl) (by kernel_rfl) ?_
      refine nT ?_
      refine T.ret ?_
      refine rT ?_
      refine Ends.turn (s' := ⟨[dv (.pointer none), dv (.int .i64 i), AV.any, AV.any, pv 0 0, dv (.int .i64 2), AV.any, AV.any, AV.any, AV.any, AV.any, AV.any, AV.any, dv (.bool (decide (i ≥ 0)))], [.live (.box 35 [.d (.val (.int .i64 0)), .d (.val (.int .i64 0)), .d (.val (.int .i64 0)), .d (dsl false false kU8 ([] : List UInt8))])]⟩) (fun _ _ hG => Gs.less (s := ⟨[dv (.pointer none), dv (.int .i64 i), AV.any, AV.any, pv 0 0, dv (.int .i64 2), AV.any, AV.any, AV.any, AV.any, AV.any, AV.any, AV.any, dv (.bool (decide (i ≥ 0)))], [.live (.box 35 [.d (.val (.int .i64 0)), .d (.val (.int .i64 0)), .d (.val (.int .i64 0)), .d (.val (.slice none 0 0))])]⟩) ⟨(.inl rfl), ⟨(.inl rfl), ⟨(.inl rfl), ⟨(.inl rfl), ⟨(.inl rfl), ⟨(.inl rfl), ⟨(.inl rfl), ⟨(.inl rfl), ⟨(.inl rfl), ⟨(.inl rfl), ⟨(.inl rfl), ⟨(.inl rfl), ⟨(.inl rfl), ⟨(.inl rfl), trivial⟩⟩⟩⟩⟩⟩⟩⟩⟩⟩⟩⟩⟩⟩ ⟨(.inr ⟨rfl, ⟨(.inl rfl), ⟨(.inl rfl), ⟨(.inl rfl), ⟨(.inr ⟨rfl, rfl, rfl⟩), trivial⟩⟩⟩⟩⟩), trivial⟩ hG) ?_
      exact tE (.inl rfl) [.c 4 0 35 0 35 [.d (.val (.int .i64 0)), .d (.val (.int .i64 0)), .d (.val (.int .i64 0)), .d (dsl false false kU8 ([] : List UInt8))] (.agg [.d (.val (.int .i64 0)), .d (.val (.int .i64 0)), .d (.val (.int .i64 0)), .d (dsl false false kU8 ([] : List UInt8))]), .t 5 (.one (.d (.val (.int .i64 2))))] ⟨⟨rfl, rfl, rfl, rfl, .inl ⟨4, wide_35, rfl, Nat.le_of_ble_eq_true rfl⟩⟩, ⟨⟨rfl, rfl⟩, trivial⟩⟩ [] (by have e1 : (z_api_Packet.f_Id : Int) = 0 := (by rfl); have e2 : (z_api_Packet.f_To : Int) = 0 := (by rfl); have e3 : (z_api_Packet.f_Env.f_Signer : Int) = 0 := (by rfl); have e4 : (z_api_Packet.f_Env.f_Body : List UInt8) = ([] : List UInt8) := (by rfl); have hE := congr (congr (congr (congrArg (fun (q1 : Int) (q2 : Int) (q3 : Int) (q4 : List UInt8) => (.tup [.agg [.d (.val (.int .i64 q1)), .d (.val (.int .i64 q2)), .d (.val (.int .i64 q3)), .d (dsl false false kU8 q4)], .one (.d (.val (.int .i64 2)))] : AV)) e1) e2) e3) e4; exact hE) rfl rfl rfl rfl rfl trivial
    · exact absurd (by omega : i ≥ 0) hq2

-- (*quaestor/net.Net).Take
theorem nil_Take (i : Int) : Holds Try.prog 12 ⟨[dv (.pointer none), dv (.int .i64 i)], [], .tup [.agg [.d (.val (.int .i64 z_api_Packet.f_Id)), .d (.val (.int .i64 z_api_Packet.f_To)), .d (.val (.int .i64 z_api_Packet.f_Env.f_Signer)), .d (dsl false false kU8 z_api_Packet.f_Env.f_Body)], .one (.d (.val (.int .i64 2)))], []⟩ := by
  refine Holds.of Try.func12 rfl (N := 56) Try.ntmps12 rfl fun w0 B0 S0 U0 => ?_
  show T _ (mkBase 56 0 w0 S0 U0 B0) ⟨[dv (.pointer none), dv (.int .i64 i)], []⟩ _ _
  refine T.seq ?_
  refine tR (s1 := ⟨[dv (.pointer none), dv (.int .i64 i), AV.any, AV.any, pv 0 0, dv (.int .i64 0)], [.live (.box 35 [.d (.val (.int .i64 0)), .d (.val (.int .i64 0)), .d (.val (.int .i64 0)), .d (.val (.slice none 0 0))])]⟩) [true, true, false, false, true, true] [true]
    (oC (oS rfl rfl (r_alloc (l := 0) zero_35 (lt_of rfl)))
    (oC (oS rfl rfl (r_assign (av := dv (.int .i64 0)) (lt_of rfl) ⟨rfl, trivial⟩)) (oZ rfl)))
    (by kernel_rfl) (by kernel_rfl) ?_
  refine nT ?_
  refine T.seq ?_
  refine tR (s1 := ⟨[dv (.pointer none), dv (.int .i64 i), AV.any, AV.any, pv 0 0, dv (.int .i64 0), pv 1 0, dv (.int .i64 2)], [.live (.box 35 [.d (.val (.int .i64 0)), .d (.val (.int .i64 0)), .d (.val (.int .i64 0)), .d (.val (.slice none 0 0))]), .live (.box 35 [.d (.val (.int .i64 z_api_Packet.f_Id)), .d (.val (.int .i64 z_api_Packet.f_To)), .d (.val (.int .i64 z_api_Packet.f_Env.f_Signer)), .d (dsl false false kU8 z_api_Packet.f_Env.f_Body)])]⟩) [true, true, false, false, true, true, true, true] [true, true]
    (oC (oS rfl rfl (r_move (av := dv (.pointer none)) (lt_of rfl) trivial))
    (oC (oS rfl rfl (r_move (av := dv (.int .i64 i)) (lt_of rfl) trivial))
    (oC (oS rfl rfl (r_call (nil_At i ) Try.func14 rfl (by decide) [] [] (l := [(.tmp 10, dv (.pointer none)), (.tmp 11, dv (.int .i64 i))]) [] rfl 0 0 rfl rfl rfl rfl rfl rfl rfl rfl rfl ⟨.inl ⟨rfl, rfl⟩, ⟨.inl ⟨rfl, rfl⟩, trivial⟩⟩ rfl (fun b hb => by cases hb) (.inl rfl) (lt_of rfl) trivial))
    (oC (oS rfl rfl (r_move (av := .tup [.agg [.d (.val (.int .i64 z_api_Packet.f_Id)), .d (.val (.int .i64 z_api_Packet.f_To)), .d (.val (.int .i64 z_api_Packet.f_Env.f_Signer)), .d (dsl false false kU8 z_api_Packet.f_Env.f_Body)], .one (.d (.val (.int .i64 2)))]) (lt_of rfl) trivial))
    (oC (oS rfl rfl (r_extract (l := [.agg [.d (.val (.int .i64 z_api_Packet.f_Id)), .d (.val (.int .i64 z_api_Packet.f_To)), .d (.val (.int .i64 z_api_Packet.f_Env.f_Signer)), .d (dsl false false kU8 z_api_Packet.f_Env.f_Body)], .one (.d (.val (.int .i64 2)))]) (tv := .agg [.d (.val (.int .i64 z_api_Packet.f_Id)), .d (.val (.int .i64 z_api_Packet.f_To)), .d (.val (.int .i64 z_api_Packet.f_Env.f_Signer)), .d (dsl false false kU8 z_api_Packet.f_Env.f_Body)]) rfl (lt_of rfl) trivial))
    (oC (oS rfl rfl (r_extract (l := [.agg [.d (.val (.int .i64 z_api_Packet.f_Id)), .d (.val (.int .i64 z_api_Packet.f_To)), .d (.val (.int .i64 z_api_Packet.f_Env.f_Signer)), .d (dsl false false kU8 z_api_Packet.f_Env.f_Body)], .one (.d (.val (.int .i64 2)))]) (tv := .one (.d (.val (.int .i64 2)))) rfl (lt_of rfl) trivial))
    (oC (oS rfl rfl (r_alloc (l := 1) zero_35 (lt_of rfl)))
    (oC (oS rfl rfl (r_store (l := 1) (off := 0) (n := 4) (T := 35) (cs := [.d (.val (.int .i64 0)), .d (.val (.int .i64 0)), .d (.val (.int .i64 0)), .d (.val (.slice none 0 0))]) (cs' := [.d (.val (.int .i64 z_api_Packet.f_Id)), .d (.val (.int .i64 z_api_Packet.f_To)), .d (.val (.int .i64 z_api_Packet.f_Env.f_Signer)), .d (dsl false false kU8 z_api_Packet.f_Env.f_Body)]) (tv := .agg [.d (.val (.int .i64 z_api_Packet.f_Id)), .d (.val (.int .i64 z_api_Packet.f_To)), .d (.val (.int .i64 z_api_Packet.f_Env.f_Signer)), .d (dsl false false kU8 z_api_Packet.f_Env.f_Body)]) cells_35 rfl (Nat.le_of_ble_eq_true rfl) rfl rfl trivial))
    (oC (oS rfl rfl (r_assign (av := dv (.int .i64 2)) (lt_of rfl) trivial)) (oZ rfl))))))))))
    (by kernel_rfl) (by kernel_rfl) ?_
  refine nT ?_
  refine T.seq ?_
  refine T.seq ?_
  refine tR (s1 := ⟨[dv (.pointer none), dv (.int .i64 i), AV.any, AV.any, pv 0 0, dv (.int .i64 0), pv 1 0, dv (.int .i64 2), AV.any, AV.any, AV.any, AV.any, AV.any, AV.any, AV.any, AV.any, dv (.bool true)], [.live (.box 35 [.d (.val (.int .i64 0)), .d (.val (.int .i64 0)), .d (.val (.int .i64 0)), .d (.val (.slice none 0 0))]), .live (.box 35 [.d (.val (.int .i64 z_api_Packet.f_Id)), .d (.val (.int .i64 z_api_Packet.f_To)), .d (.val (.int .i64 z_api_Packet.f_Env.f_Signer)), .d (dsl false false kU8 z_api_Packet.f_Env.f_Body)])]⟩) [true, true, false, false, true, true, true, true, false, false, false, false, false, false, false, false, true] [true, true]
    (oC (oS rfl rfl (r_move (av := dv (.int .i64 2)) (lt_of rfl) trivial))
    (oC (oS rfl rfl (r_bin (u1 := .int .i64 2) (u2 := .int .i64 0) (v := .bool true) b_neq (lt_of rfl) ⟨rfl, trivial⟩)) (oZ rfl)))
    (by kernel_rfl) (by kernel_rfl) ?_
  refine nT ?_
  refine T.condT (b := true) rfl rfl ?_
  refine T.seq ?_
  refine tR (s1 := ⟨[dv (.pointer none), dv (.int .i64 i), AV.any, AV.any, pv 0 0, dv (.int .i64 2), pv 1 0, dv (.int .i64 2), AV.any, AV.any, AV.any, AV.any, AV.any, AV.any, AV.any, AV.any, dv (.bool true)], [.live (.box 35 [.d (.val (.int .i64 z_api_Packet.f_Id)), .d (.val (.int .i64 z_api_Packet.f_To)), .d (.val (.int .i64 z_api_Packet.f_Env.f_Signer)), .d (dsl false false kU8 z_api_Packet.f_Env.f_Body)]), .live (.box 35 [.d (.val (.int .i64 z_api_Packet.f_Id)), .d (.val (.int .i64 z_api_Packet.f_To)), .d (.val (.int .i64 z_api_Packet.f_Env.f_Signer)), .d (dsl false false kU8 z_api_Packet.f_Env.f_Body)])]⟩) [true, true, false, false, true, true, true, true, false, false, false, false, false, false, false, false, true] [true, true]
    (oC (oS rfl rfl (r_loadBs (l := 1) (off := 0) (T := 35) (cs := [.d (.val (.int .i64 z_api_Packet.f_Id)), .d (.val (.int .i64 z_api_Packet.f_To)), .d (.val (.int .i64 z_api_Packet.f_Env.f_Signer)), .d (dsl false false kU8 z_api_Packet.f_Env.f_Body)]) (ds := [.d (.val (.int .i64 z_api_Packet.f_Id)), .d (.val (.int .i64 z_api_Packet.f_To)), .d (.val (.int .i64 z_api_Packet.f_Env.f_Signer)), .d (dsl false false kU8 z_api_Packet.f_Env.f_Body)]) wide_35 rfl (Nat.le_of_ble_eq_true rfl) (lt_of rfl) trivial))
    (oC (oS rfl rfl (r_move (av := dv (.int .i64 2)) (lt_of rfl) trivial))
    (oC (oS rfl rfl (r_store (l := 0) (off := 0) (n := 4) (T := 35) (cs := [.d (.val (.int .i64 0)), .d (.val (.int .i64 0)), .d (.val (.int .i64 0)), .d (.val (.slice none 0 0))]) (cs' := [.d (.val (.int .i64 z_api_Packet.f_Id)), .d (.val (.int .i64 z_api_Packet.f_To)), .d (.val (.int .i64 z_api_Packet.f_Env.f_Signer)), .d (dsl false false kU8 z_api_Packet.f_Env.f_Body)]) (tv := .agg [.d (.val (.int .i64 z_api_Packet.f_Id)), .d (.val (.int .i64 z_api_Packet.f_To)), .d (.val (.int .i64 z_api_Packet.f_Env.f_Signer)), .d (dsl false false kU8 z_api_Packet.f_Env.f_Body)]) cells_35 rfl (Nat.le_of_ble_eq_true rfl) rfl rfl trivial))
    (oC (oS rfl rfl (r_assign (av := dv (.int .i64 2)) (lt_of rfl) trivial)) (oZ rfl)))))
    (by kernel_rfl) (by kernel_rfl) ?_
  refine nT ?_
  refine T.ret ?_
  refine rT ?_
  exact tE (.inl rfl) [.c 4 0 35 0 35 [.d (.val (.int .i64 z_api_Packet.f_Id)), .d (.val (.int .i64 z_api_Packet.f_To)), .d (.val (.int .i64 z_api_Packet.f_Env.f_Signer)), .d (dsl false false kU8 z_api_Packet.f_Env.f_Body)] (.agg [.d (.val (.int .i64 z_api_Packet.f_Id)), .d (.val (.int .i64 z_api_Packet.f_To)), .d (.val (.int .i64 z_api_Packet.f_Env.f_Signer)), .d (dsl false false kU8 z_api_Packet.f_Env.f_Body)]), .t 5 (.one (.d (.val (.int .i64 2))))] ⟨⟨rfl, rfl, rfl, rfl, .inl ⟨4, wide_35, rfl, Nat.le_of_ble_eq_true rfl⟩⟩, ⟨⟨rfl, rfl⟩, trivial⟩⟩ [] rfl rfl rfl rfl rfl rfl trivial
end Go.Proofs.Ytioenfjcbikbcaa.Q
