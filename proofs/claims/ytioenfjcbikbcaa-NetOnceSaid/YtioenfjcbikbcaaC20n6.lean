import Derived.Test.YtioenfjcbikbcaaC20n5
namespace Go.Proofs.Ytioenfjcbikbcaa.Q
open Go Go.RowKit
set_option linter.unusedVariables false
set_option linter.unusedSimpArgs false
set_option maxRecDepth 100000
set_option maxHeartbeats 4000000
-- (*quaestor/net.Net).Twice
theorem nil_Twice (i : Int) : Holds Try.prog 15 ⟨[dv (.pointer none), dv (.int .i64 i)], [], dv (.int .i64 1), []⟩ := by
  refine Holds.of Try.func15 rfl (N := 24) Try.ntmps15 rfl fun w0 B0 S0 U0 => ?_
  show T _ (mkBase 24 0 w0 S0 U0 B0) ⟨[dv (.pointer none), dv (.int .i64 i)], []⟩ _ _
  refine T.seq ?_
  refine tR (s1 := ⟨[dv (.pointer none), dv (.int .i64 i), AV.any, AV.any, dv (.int .i64 0)], []⟩) [true, true, false, false, true] []
    (oC (oS rfl rfl (r_assign (av := dv (.int .i64 0)) (lt_of rfl) ⟨rfl, trivial⟩)) (oZ rfl))
    (by kernel_rfl) (by kernel_rfl) ?_
  refine nT ?_
  refine T.seq ?_
  refine T.seq ?_
  refine tR (s1 := ⟨[dv (.pointer none), dv (.int .i64 i), AV.any, AV.any, dv (.int .i64 0), AV.any, AV.any, AV.any, dv (.bool true)], []⟩) [true, true, false, false, true, false, false, false, true] []
    (oC (oS rfl rfl (r_move (av := dv (.pointer none)) (lt_of rfl) trivial))
    (oC (oS rfl rfl (r_bin (u1 := .pointer none) (u2 := .pointer none) (v := .bool true) (b_eqlNilP Try.underlying24) (lt_of rfl) ⟨rfl, trivial⟩)) (oZ rfl)))
    (by kernel_rfl) (by kernel_rfl) ?_
  refine nT ?_
  refine T.condT (b := true) rfl rfl ?_
  refine T.seq ?_
  refine tR (s1 := ⟨[dv (.pointer none), dv (.int .i64 i), AV.any, AV.any, dv (.int .i64 1), AV.any, AV.any, AV.any, dv (.bool true)], []⟩) [true, true, false, false, true, false, false, false, true] []
    (oC (oS rfl rfl (r_assign (av := dv (.int .i64 1)) (lt_of rfl) ⟨rfl, trivial⟩)) (oZ rfl))
    (by kernel_rfl) (by kernel_rfl) ?_
  refine nT ?_
  refine T.ret ?_
  refine rT ?_
  exact tE (.inl rfl) [.t 4 (.one (.d (.val (.int .i64 1))))] ⟨⟨rfl, rfl⟩, trivial⟩ [] rfl rfl rfl rfl rfl rfl trivial

-- (*quaestor/net.Net).All
theorem nil_All : Holds Try.prog 20 ⟨[dv (.pointer none)], [], slV false false (k_api_Packet false) ([] : List api_Packet), []⟩ := by
  refine Holds.of Try.func20 rfl (N := 23) Try.ntmps20 rfl fun w0 B0 S0 U0 => ?_
  show T _ (mkBase 23 0 w0 S0 U0 B0) ⟨[dv (.pointer none)], []⟩ _ _
  refine T.seq ?_
  refine tR (s1 := ⟨[dv (.pointer none), AV.any, dv (.slice none 0 0)], []⟩) [true, false, true] []
    (oC (oS rfl rfl (r_assign (av := dv (.slice none 0 0)) (lt_of rfl) ⟨rfl, trivial⟩)) (oZ rfl))
    (by kernel_rfl) (by kernel_rfl) ?_
  refine nT ?_
  refine T.seq ?_
  refine tR (s1 := ⟨[dv (.pointer none), AV.any, dv (.slice none 0 0), dv (.slice none 0 0)], []⟩) [true, false, true, true] []
    (oC (oS rfl rfl (r_assign (av := dv (.slice none 0 0)) (lt_of rfl) ⟨rfl, trivial⟩)) (oZ rfl))
    (by kernel_rfl) (by kernel_rfl) ?_
  refine nT ?_
  refine T.seq ?_
  refine T.seq ?_
  refine tR (s1 := ⟨[dv (.pointer none), AV.any, dv (.slice none 0 0), dv (.slice none 0 0), AV.any, AV.any, dv (.int .i64 0), dv (.int .i64 0)], []⟩) [true, false, true, true, false, false, true, true] []
    (oC (oS rfl rfl (r_move (av := dv (.pointer none)) (lt_of rfl) trivial))
    (oC (oS rfl rfl (r_call (nil_Len  ) Try.func16 rfl (by decide) [] [] (l := [(.tmp 5, dv (.pointer none))]) [] rfl 0 0 rfl rfl rfl rfl rfl rfl rfl rfl rfl ⟨.inl ⟨rfl, rfl⟩, trivial⟩ rfl (fun b hb => by cases hb) (.inl rfl) (lt_of rfl) trivial))
    (oC (oS rfl rfl (r_move (av := dv (.int .i64 0)) (lt_of rfl) ⟨rfl, trivial⟩)) (oZ rfl))))
    (by kernel_rfl) (by kernel_rfl) ?_
  refine nT ?_
  refine T.block ?_
  refine T.loop (ι := Unit) (fun (x_ : Unit) => ⟨[dv (.pointer none), AV.any, dv (.slice none 0 0), dv (.slice none 0 0), AV.any, AV.any, dv (.int .i64 0), dv (.int .i64 0)], []⟩) (fun (x_ : Unit) => True) (fun (x_ : Unit) => 0) (()) trivial (fun _ _ hG => Gs.into2 (s := ⟨[dv (.pointer none), AV.any, dv (.slice none 0 0), dv (.slice none 0 0), AV.any, AV.any, dv (.int .i64 0), dv (.int .i64 0)], []⟩) (s' := ⟨[dv (.pointer none), AV.any, dv (.slice none 0 0), dv (.slice none 0 0), AV.any, AV.any, dv (.int .i64 0), dv (.int .i64 0)], []⟩) [] [true, false, true, true, false, false, true, true] (t1 := [dv (.pointer none), AV.any, dv (.slice none 0 0), dv (.slice none 0 0), AV.any, AV.any, dv (.int .i64 0), dv (.int .i64 0)]) (t2 := [dv (.pointer none), AV.any, dv (.slice none 0 0), dv (.slice none 0 0), AV.any, AV.any, dv (.int .i64 0), dv (.int .i64 0)]) (h1 := []) (h2 := []) rfl rfl (by kernel_rfl) (by kernel_rfl) (by kernel_rfl) (by kernel_rfl) (by kernel_rfl) (by kernel_rfl) (by kernel_rfl) (by kernel_rfl) (by kernel_rfl) (by kernel_rfl) (by kernel_rfl) hG) ?_
  rintro _ _
  show T _ _ ⟨[dv (.pointer none), AV.any, dv (.slice none 0 0), dv (.slice none 0 0), AV.any, AV.any, dv (.int .i64 0), dv (.int .i64 0)], []⟩ _ _
  refine T.seq ?_
  refine tR (s1 := ⟨[dv (.pointer none), AV.any, dv (.slice none 0 0), dv (.slice none 0 0), AV.any, AV.any, dv (.int .i64 0), dv (.int .i64 0), dv (.bool false)], []⟩) [true, false, true, true, false, false, true, true, true] []
    (oC (oS rfl rfl (r_bin (u1 := .int .i64 0) (u2 := .int .i64 0) (v := .bool false) b_lss (lt_of rfl) trivial)) (oZ rfl))
    (by kernel_rfl) (by kernel_rfl) ?_
  refine nT ?_
  refine T.seq ?_
  refine T.condF (b := false) rfl rfl ?_
  refine T.exit ?_
  refine xT ?_
  refine xT ?_
  refine xH ?_
  refine nT ?_
  refine T.seq ?_
  refine tR (s1 := ⟨[dv (.pointer none), AV.any, dv (.slice none 0 0), dv (.slice none 0 0), AV.any, AV.any, dv (.int .i64 0), dv (.int .i64 0), dv (.bool false)], []⟩) [true, false, true, true, false, false, true, true, true] []
    (oC (oS rfl rfl (r_move (av := dv (.slice none 0 0)) (lt_of rfl) trivial))
    (oC (oS rfl rfl (r_assign (av := dv (.slice none 0 0)) (lt_of rfl) trivial)) (oZ rfl)))
    (by kernel_rfl) (by kernel_rfl) ?_
  refine nT ?_
  refine T.ret ?_
  refine Ends.turn (s' := ⟨[dv (.pointer none), AV.any, slV false false (k_api_Packet false) ([] : List api_Packet), dv (.slice none 0 0), AV.any, AV.any, dv (.int .i64 0), dv (.int .i64 0), dv (.bool false)], []⟩) (fun _ _ hG => Gs.less (s := ⟨[dv (.pointer none), AV.any, dv (.slice none 0 0), dv (.slice none 0 0), AV.any, AV.any, dv (.int .i64 0), dv (.int .i64 0), dv (.bool false)], []⟩) ⟨(.inl rfl), ⟨(.inl rfl), ⟨(.inr ⟨rfl, rfl, rfl⟩), ⟨(.inl rfl), ⟨(.inl rfl), ⟨(.inl rfl), ⟨(.inl rfl), ⟨(.inl rfl), ⟨(.inl rfl), trivial⟩⟩⟩⟩⟩⟩⟩⟩⟩ trivial hG) ?_
  exact tE (.inl rfl) [.t 2 (.one (.d (dsl false false (k_api_Packet false) ([] : List api_Packet))))] ⟨⟨rfl, rfl⟩, trivial⟩ [] rfl rfl rfl rfl rfl rfl trivial

theorem fld_31_1 : FieldAt Try.prog 31 1 1 := ⟨_, _, _, Try.underlying31, rfl, iat_3, by decide, rfl⟩
theorem fld_31_2 : FieldAt Try.prog 31 2 2 := ⟨_, _, _, Try.underlying31, rfl, iat_29, by decide, rfl⟩
-- quaestor/quaestorlaw20.NetNone
theorem law_NetNone (x : quaestorlaw20_Act) : Holds Try.prog 8 ⟨[.tv (.agg [.d (.val (.int .i64 x.f_Kind)), .d (.val (.int .i64 x.f_N)), .d (.val (.int .i64 x.f_E.f_Signer)), .d (dsl false false kU8 x.f_E.f_Body)])], [], dv (.bool true), []⟩ := by
  refine Holds.of Try.func8 rfl (N := 58) Try.ntmps8 rfl fun w0 B0 S0 U0 => ?_
  show T _ (mkBase 58 0 w0 S0 U0 B0) ⟨[.tv (.agg [.d (.val (.int .i64 x.f_Kind)), .d (.val (.int .i64 x.f_N)), .d (.val (.int .i64 x.f_E.f_Signer)), .d (dsl false false kU8 x.f_E.f_Body)])], []⟩ _ _
  refine T.seq ?_
  refine tR (s1 := ⟨[.tv (.agg [.d (.val (.int .i64 x.f_Kind)), .d (.val (.int .i64 x.f_N)), .d (.val (.int .i64 x.f_E.f_Signer)), .d (dsl false false kU8 x.f_E.f_Body)]), pv 0 0, dv (.bool false)], [.live (.box 31 [.d (.val (.int .i64 x.f_Kind)), .d (.val (.int .i64 x.f_N)), .d (.val (.int .i64 x.f_E.f_Signer)), .d (dsl false false kU8 x.f_E.f_Body)])]⟩) [true, true, true] [true]
    (oC (oS rfl rfl (r_box (l := 0) (t := .agg [.d (.val (.int .i64 x.f_Kind)), .d (.val (.int .i64 x.f_N)), .d (.val (.int .i64 x.f_E.f_Signer)), .d (dsl false false kU8 x.f_E.f_Body)]) rfl (lt_of rfl) trivial))
    (oC (oS rfl rfl (r_assign (av := dv (.bool false)) (lt_of rfl) ⟨rfl, trivial⟩)) (oZ rfl)))
    (by kernel_rfl) (by kernel_rfl) ?_
  refine nT ?_
  refine T.seq ?_
  refine tR (s1 := ⟨[.tv (.agg [.d (.val (.int .i64 x.f_Kind)), .d (.val (.int .i64 x.f_N)), .d (.val (.int .i64 x.f_E.f_Signer)), .d (dsl false false kU8 x.f_E.f_Body)]), pv 0 0, dv (.bool false), dv (.pointer none)], [.live (.box 31 [.d (.val (.int .i64 x.f_Kind)), .d (.val (.int .i64 x.f_N)), .d (.val (.int .i64 x.f_E.f_Signer)), .d (dsl false false kU8 x.f_E.f_Body)])]⟩) [true, true, true, true] [true]
    (oC (oS rfl rfl (r_assign (av := dv (.pointer none)) (lt_of rfl) ⟨rfl, trivial⟩)) (oZ rfl))
    (by kernel_rfl) (by kernel_rfl) ?_
  refine nT ?_
  refine T.seq ?_
  refine tR (s1 := ⟨[.tv (.agg [.d (.val (.int .i64 x.f_Kind)), .d (.val (.int .i64 x.f_N)), .d (.val (.int .i64 x.f_E.f_Signer)), .d (dsl false false kU8 x.f_E.f_Body)]), pv 0 0, dv (.bool false), dv (.pointer none), AV.any, dv (.int .i64 2)], [.live (.box 31 [.d (.val (.int .i64 x.f_Kind)), .d (.val (.int .i64 x.f_N)), .d (.val (.int .i64 x.f_E.f_Signer)), .d (dsl false false kU8 x.f_E.f_Body)]), .live (.box 35 [.d (.val (.int .i64 z_api_Packet.f_Id)), .d (.val (.int .i64 z_api_Packet.f_To)), .d (.val (.int .i64 z_api_Packet.f_Env.f_Signer)), .d (dsl false false kU8 z_api_Packet.f_Env.f_Body)])]⟩) [true, true, true, true, false, true] [true, true]
    (oC (oS rfl rfl (r_move (av := dv (.pointer none)) (lt_of rfl) trivial))
    (oC (oS rfl rfl (r_fieldAddr (l := 0) (off := 0) fld_31_1 (lt_of rfl) trivial))
    (oC (oS rfl rfl (r_loadB (l := 0) (off := 1) (T := 31) (cs := [.d (.val (.int .i64 x.f_Kind)), .d (.val (.int .i64 x.f_N)), .d (.val (.int .i64 x.f_E.f_Signer)), .d (dsl false false kU8 x.f_E.f_Body)]) (c := .d (.val (.int .i64 x.f_N))) wide_3 rfl (lt_of rfl) trivial))
    (oC (oS rfl rfl (r_call (nil_At x.f_N ) Try.func14 rfl (by decide) [] [] (l := [(.tmp 9, dv (.pointer none)), (.tmp 11, dv (.int .i64 x.f_N))]) [] rfl 0 0 rfl rfl rfl rfl rfl rfl rfl rfl rfl ⟨.inl ⟨rfl, rfl⟩, ⟨.inl ⟨rfl, rfl⟩, trivial⟩⟩ rfl (fun b hb => by cases hb) (.inl rfl) (lt_of rfl) trivial))
    (oC (oS rfl rfl (r_move (av := .tup [.agg [.d (.val (.int .i64 z_api_Packet.f_Id)), .d (.val (.int .i64 z_api_Packet.f_To)), .d (.val (.int .i64 z_api_Packet.f_Env.f_Signer)), .d (dsl false false kU8 z_api_Packet.f_Env.f_Body)], .one (.d (.val (.int .i64 2)))]) (lt_of rfl) trivial))
    (oC (oS rfl rfl (r_extract (l := [.agg [.d (.val (.int .i64 z_api_Packet.f_Id)), .d (.val (.int .i64 z_api_Packet.f_To)), .d (.val (.int .i64 z_api_Packet.f_Env.f_Signer)), .d (dsl false false kU8 z_api_Packet.f_Env.f_Body)], .one (.d (.val (.int .i64 2)))]) (tv := .agg [.d (.val (.int .i64 z_api_Packet.f_Id)), .d (.val (.int .i64 z_api_Packet.f_To)), .d (.val (.int .i64 z_api_Packet.f_Env.f_Signer)), .d (dsl false false kU8 z_api_Packet.f_Env.f_Body)]) rfl (lt_of rfl) trivial))
    (oC (oS rfl rfl (r_extract (l := [.agg [.d (.val (.int .i64 z_api_Packet.f_Id)), .d (.val (.int .i64 z_api_Packet.f_To)), .d (.val (.int .i64 z_api_Packet.f_Env.f_Signer)), .d (dsl false false kU8 z_api_Packet.f_Env.f_Body)], .one (.d (.val (.int .i64 2)))]) (tv := .one (.d (.val (.int .i64 2)))) rfl (lt_of rfl) trivial))
    (oC (oS rfl rfl (r_alloc (l := 1) zero_35 (lt_of rfl)))
    (oC (oS rfl rfl (r_store (l := 1) (off := 0) (n := 4) (T := 35) (cs := [.d (.val (.int .i64 0)), .d (.val (.int .i64 0)), .d (.val (.int .i64 0)), .d (.val (.slice none 0 0))]) (cs' := [.d (.val (.int .i64 z_api_Packet.f_Id)), .d (.val (.int .i64 z_api_Packet.f_To)), .d (.val (.int .i64 z_api_Packet.f_Env.f_Signer)), .d (dsl false false kU8 z_api_Packet.f_Env.f_Body)]) (tv := .agg [.d (.val (.int .i64 z_api_Packet.f_Id)), .d (.val (.int .i64 z_api_Packet.f_To)), .d (.val (.int .i64 z_api_Packet.f_Env.f_Signer)), .d (dsl false false kU8 z_api_Packet.f_Env.f_Body)]) cells_35 rfl (Nat.le_of_ble_eq_true rfl) rfl rfl trivial))
    (oC (oS rfl rfl (r_assign (av := dv (.int .i64 2)) (lt_of rfl) trivial)) (oZ rfl)))))))))))
    (by kernel_rfl) (by kernel_rfl) ?_
  refine nT ?_
  refine T.seq ?_
  refine tR (s1 := ⟨[.tv (.agg [.d (.val (.int .i64 x.f_Kind)), .d (.val (.int .i64 x.f_N)), .d (.val (.int .i64 x.f_E.f_Signer)), .d (dsl false false kU8 x.f_E.f_Body)]), pv 0 0, dv (.bool false), dv (.pointer none), AV.any, dv (.int .i64 2), AV.any, dv (.int .i64 2)], [.live (.box 31 [.d (.val (.int .i64 x.f_Kind)), .d (.val (.int .i64 x.f_N)), .d (.val (.int .i64 x.f_E.f_Signer)), .d (dsl false false kU8 x.f_E.f_Body)]), .live (.box 35 [.d (.val (.int .i64 z_api_Packet.f_Id)), .d (.val (.int .i64 z_api_Packet.f_To)), .d (.val (.int .i64 z_api_Packet.f_Env.f_Signer)), .d (dsl false false kU8 z_api_Packet.f_Env.f_Body)]), .live (.box 35 [.d (.val (.int .i64 z_api_Packet.f_Id)), .d (.val (.int .i64 z_api_Packet.f_To)), .d (.val (.int .i64 z_api_Packet.f_Env.f_Signer)), .d (dsl false false kU8 z_api_Packet.f_Env.f_Body)])]⟩) [true, true, true, true, false, true, false, true] [true, true, true]
    (oC (oS rfl rfl (r_move (av := dv (.pointer none)) (lt_of rfl) trivial))
    (oC (oS rfl rfl (r_fieldAddr (l := 0) (off := 0) fld_31_1 (lt_of rfl) trivial))
    (oC (oS rfl rfl (r_loadB (l := 0) (off := 1) (T := 31) (cs := [.d (.val (.int .i64 x.f_Kind)), .d (.val (.int .i64 x.f_N)), .d (.val (.int .i64 x.f_E.f_Signer)), .d (dsl false false kU8 x.f_E.f_Body)]) (c := .d (.val (.int .i64 x.f_N))) wide_3 rfl (lt_of rfl) trivial))
    (oC (oS rfl rfl (r_call (nil_Take x.f_N ) Try.func12 rfl (by decide) [] [] (l := [(.tmp 16, dv (.pointer none)), (.tmp 18, dv (.int .i64 x.f_N))]) [] rfl 0 0 rfl rfl rfl rfl rfl rfl rfl rfl rfl ⟨.inl ⟨rfl, rfl⟩, ⟨.inl ⟨rfl, rfl⟩, trivial⟩⟩ rfl (fun b hb => by cases hb) (.inl rfl) (lt_of rfl) trivial))
    (oC (oS rfl rfl (r_move (av := .tup [.agg [.d (.val (.int .i64 z_api_Packet.f_Id)), .d (.val (.int .i64 z_api_Packet.f_To)), .d (.val (.int .i64 z_api_Packet.f_Env.f_Signer)), .d (dsl false false kU8 z_api_Packet.f_Env.f_Body)], .one (.d (.val (.int .i64 2)))]) (lt_of rfl) trivial))
    (oC (oS rfl rfl (r_extract (l := [.agg [.d (.val (.int .i64 z_api_Packet.f_Id)), .d (.val (.int .i64 z_api_Packet.f_To)), .d (.val (.int .i64 z_api_Packet.f_Env.f_Signer)), .d (dsl false false kU8 z_api_Packet.f_Env.f_Body)], .one (.d (.val (.int .i64 2)))]) (tv := .agg [.d (.val (.int .i64 z_api_Packet.f_Id)), .d (.val (.int .i64 z_api_Packet.f_To)), .d (.val (.int .i64 z_api_Packet.f_Env.f_Signer)), .d (dsl false false kU8 z_api_Packet.f_Env.f_Body)]) rfl (lt_of rfl) trivial))
    (oC (oS rfl rfl (r_extract (l := [.agg [.d (.val (.int .i64 z_api_Packet.f_Id)), .d (.val (.int .i64 z_api_Packet.f_To)), .d (.val (.int .i64 z_api_Packet.f_Env.f_Signer)), .d (dsl false false kU8 z_api_Packet.f_Env.f_Body)], .one (.d (.val (.int .i64 2)))]) (tv := .one (.d (.val (.int .i64 2)))) rfl (lt_of rfl) trivial))
    (oC (oS rfl rfl (r_alloc (l := 2) zero_35 (lt_of rfl)))
    (oC (oS rfl rfl (r_store (l := 2) (off := 0) (n := 4) (T := 35) (cs := [.d (.val (.int .i64 0)), .d (.val (.int .i64 0)), .d (.val (.int .i64 0)), .d (.val (.slice none 0 0))]) (cs' := [.d (.val (.int .i64 z_api_Packet.f_Id)), .d (.val (.int .i64 z_api_Packet.f_To)), .d (.val (.int .i64 z_api_Packet.f_Env.f_Signer)), .d (dsl false false kU8 z_api_Packet.f_Env.f_Body)]) (tv := .agg [.d (.val (.int .i64 z_api_Packet.f_Id)), .d (.val (.int .i64 z_api_Packet.f_To)), .d (.val (.int .i64 z_api_Packet.f_Env.f_Signer)), .d (dsl false false kU8 z_api_Packet.f_Env.f_Body)]) cells_35 rfl (Nat.le_of_ble_eq_true rfl) rfl rfl trivial))
    (oC (oS rfl rfl (r_assign (av := dv (.int .i64 2)) (lt_of rfl) trivial)) (oZ rfl)))))))))))
    (by kernel_rfl) (by kernel_rfl) ?_
  refine nT ?_
  refine T.seq ?_
  by_cases hq1 : ((([] : List api_Packet).length : Nat) : Int) = 0
  · refine tR (s1 := ⟨[.tv (.agg [.d (.val (.int .i64 x.f_Kind)), .d (.val (.int .i64 x.f_N)), .d (.val (.int .i64 x.f_E.f_Signer)), .d (dsl false false kU8 x.f_E.f_Body)]), pv 0 0, dv (.bool true), dv (.pointer none), AV.any, dv (.int .i64 2), AV.any, dv (.int .i64 2)], [.live (.box 31 [.d (.val (.int .i64 x.f_Kind)), .d (.val (.int .i64 x.f_N)), .d (.val (.int .i64 x.f_E.f_Signer)), .d (dsl false false kU8 x.f_E.f_Body)]), .live (.box 35 [.d (.val (.int .i64 z_api_Packet.f_Id)), .d (.val (.int .i64 z_api_Packet.f_To)), .d (.val (.int .i64 z_api_Packet.f_Env.f_Signer)), .d (dsl false false kU8 z_api_Packet.f_Env.f_Body)]), .live (.box 35 [.d (.val (.int .i64 z_api_Packet.f_Id)), .d (.val (.int .i64 z_api_Packet.f_To)), .d (.val (.int .i64 z_api_Packet.f_Env.f_Signer)), .d (dsl false false kU8 z_api_Packet.f_Env.f_Body)])]⟩) [true, true, true, true, false, true, false, true] [true, true, true]
      (oC (oS rfl rfl (r_move (av := dv (.pointer none)) (lt_of rfl) trivial))
      (oC (oS rfl rfl (r_fieldAddr (l := 0) (off := 0) fld_31_1 (lt_of rfl) trivial))
      (oC (oS rfl rfl (r_loadB (l := 0) (off := 1) (T := 31) (cs := [.d (.val (.int .i64 x.f_Kind)), .d (.val (.int .i64 x.f_N)), .d (.val (.int .i64 x.f_E.f_Signer)), .d (dsl false false kU8 x.f_E.f_Body)]) (c := .d (.val (.int .i64 x.f_N))) wide_3 rfl (lt_of rfl) trivial))
      (oC (oS rfl rfl (r_fieldAddr (l := 0) (off := 0) fld_31_2 (lt_of rfl) trivial))
      (oC (oS rfl rfl (r_loadBs (l := 0) (off := 2) (T := 31) (cs := [.d (.val (.int .i64 x.f_Kind)), .d (.val (.int .i64 x.f_N)), .d (.val (.int .i64 x.f_E.f_Signer)), .d (dsl false false kU8 x.f_E.f_Body)]) (ds := [.d (.val (.int .i64 x.f_E.f_Signer)), .d (dsl false false kU8 x.f_E.f_Body)]) wide_29 rfl (Nat.le_of_ble_eq_true rfl) (lt_of rfl) trivial))
      (oC (oS rfl rfl (r_call (nil_Send false x.f_N x.f_E ) Try.func11 rfl (by decide) [] [] (l := [(.tmp 22, dv (.pointer none)), (.tmp 24, dv (.int .i64 x.f_N)), (.tmp 26, .tv (.agg [.d (.val (.int .i64 x.f_E.f_Signer)), .d (dsl false false kU8 x.f_E.f_Body)]))]) [] rfl 0 0 rfl rfl rfl rfl rfl rfl rfl rfl rfl ⟨.inl ⟨rfl, rfl⟩, ⟨.inl ⟨rfl, rfl⟩, ⟨⟨.inl ⟨rfl, rfl⟩, ⟨.inl ⟨rfl, rfl⟩, trivial⟩⟩, trivial⟩⟩⟩ rfl (fun b hb => by cases hb) (.inl rfl) (lt_of rfl) trivial))
      (oC (oS rfl rfl (r_bin (u1 := .int .i64 1) (u2 := .int .i64 1) (v := .bool true) b_eql (lt_of rfl) ⟨rfl, trivial⟩))
      (oC (oS rfl rfl (r_move (av := dv (.bool true)) (lt_of rfl) trivial))
      (oC (oY (b := true) rfl rfl rfl rfl (lt_of rfl) rfl (r_move (av := dv (.pointer none)) (lt_of rfl) trivial))
      (oC (oY (b := true) rfl rfl rfl rfl (lt_of rfl) rfl (r_fieldAddr (l := 0) (off := 0) fld_31_1 (lt_of rfl) trivial))
      (oC (oY (b := true) rfl rfl rfl rfl (lt_of rfl) rfl (r_loadB (l := 0) (off := 1) (T := 31) (cs := [.d (.val (.int .i64 x.f_Kind)), .d (.val (.int .i64 x.f_N)), .d (.val (.int .i64 x.f_E.f_Signer)), .d (dsl false false kU8 x.f_E.f_Body)]) (c := .d (.val (.int .i64 x.f_N))) wide_3 rfl (lt_of rfl) trivial))
      (oC (oY (b := true) rfl rfl rfl rfl (lt_of rfl) rfl (r_call (nil_Twice x.f_N ) Try.func15 rfl (by decide) [] [] (l := [(.tmp 30, dv (.pointer none)), (.tmp 32, dv (.int .i64 x.f_N))]) [] rfl 0 0 rfl rfl rfl rfl rfl rfl rfl rfl rfl ⟨.inl ⟨rfl, rfl⟩, ⟨.inl ⟨rfl, rfl⟩, trivial⟩⟩ rfl (fun b hb => by cases hb) (.inl rfl) (lt_of rfl) trivial))
      (oC (oY (b := true) rfl rfl rfl rfl (lt_of rfl) rfl (r_bin (u1 := .int .i64 1) (u2 := .int .i64 1) (v := .bool true) b_eql (lt_of rfl) ⟨rfl, trivial⟩))
      (oC (oS rfl rfl (r_pickT (b := true) (av := dv (.bool true)) (lt_of rfl) trivial rfl))
      (oC (oS rfl rfl (r_move (av := dv (.bool true)) (lt_of rfl) trivial))
      (oC (oY (b := true) rfl rfl rfl rfl (lt_of rfl) rfl (r_move (av := dv (.int .i64 2)) (lt_of rfl) trivial))
      (oC (oY (b := true) rfl rfl rfl rfl (lt_of rfl) rfl (r_bin (u1 := .int .i64 2) (u2 := .int .i64 2) (v := .bool true) b_eql (lt_of rfl) ⟨rfl, trivial⟩))
      (oC (oS rfl rfl (r_pickT (b := true) (av := dv (.bool true)) (lt_of rfl) trivial rfl))
      (oC (oS rfl rfl (r_move (av := dv (.bool true)) (lt_of rfl) trivial))
      (oC (oY (b := true) rfl rfl rfl rfl (lt_of rfl) rfl (r_move (av := dv (.int .i64 2)) (lt_of rfl) trivial))
      (oC (oY (b := true) rfl rfl rfl rfl (lt_of rfl) rfl (r_bin (u1 := .int .i64 2) (u2 := .int .i64 2) (v := .bool true) b_eql (lt_of rfl) ⟨rfl, trivial⟩))
      (oC (oS rfl rfl (r_pickT (b := true) (av := dv (.bool true)) (lt_of rfl) trivial rfl))
      (oC (oS rfl rfl (r_move (av := dv (.bool true)) (lt_of rfl) trivial))
      (oC (oY (b := true) rfl rfl rfl rfl (lt_of rfl) rfl (r_move (av := dv (.pointer none)) (lt_of rfl) trivial))
      (oC (oY (b := true) rfl rfl rfl rfl (lt_of rfl) rfl (r_call (nil_Len  ) Try.func16 rfl (by decide) [] [] (l := [(.tmp 45, dv (.pointer none))]) [] rfl 0 0 rfl rfl rfl rfl rfl rfl rfl rfl rfl ⟨.inl ⟨rfl, rfl⟩, trivial⟩ rfl (fun b hb => by cases hb) (.inl rfl) (lt_of rfl) trivial))
      (oC (oY (b := true) rfl rfl rfl rfl (lt_of rfl) rfl (r_bin (u1 := .int .i64 0) (u2 := .int .i64 0) (v := .bool true) b_eql (lt_of rfl) ⟨rfl, trivial⟩))
      (oC (oS rfl rfl (r_pickT (b := true) (av := dv (.bool true)) (lt_of rfl) trivial rfl))
      (oC (oS rfl rfl (r_move (av := dv (.bool true)) (lt_of rfl) trivial))
      (oC (oY (b := true) rfl rfl rfl rfl (lt_of rfl) rfl (r_move (av := dv (.pointer none)) (lt_of rfl) trivial))
      (oC (oY (b := true) rfl rfl rfl rfl (lt_of rfl) rfl (r_call (nil_All  ) Try.func20 rfl (by decide) [] [] (l := [(.tmp 50, dv (.pointer none))]) [] rfl 0 0 rfl rfl rfl rfl rfl rfl rfl rfl rfl ⟨.inl ⟨rfl, rfl⟩, trivial⟩ rfl (fun b hb => by cases hb) (.inl rfl) (lt_of rfl) trivial))
      (oC (oY (b := true) rfl rfl rfl rfl (lt_of rfl) rfl (q_len false false (k_api_Packet false) ([] : List api_Packet) Try.underlying44 (lt_of rfl) trivial))
      (oC (oY (b := true) rfl rfl rfl rfl (lt_of rfl) rfl (r_bin (u1 := .int .i64 ((([] : List api_Packet).length : Nat) : Int)) (u2 := .int .i64 0) (v := .bool (decide (((([] : List api_Packet).length : Nat) : Int) = 0))) b_eql (lt_of rfl) ⟨rfl, trivial⟩))
      (oC (oS rfl rfl (r_pickT (b := true) (av := dv (.bool (decide (((([] : List api_Packet).length : Nat) : Int) = 0)))) (lt_of rfl) trivial rfl))
      (oC (oS rfl rfl (r_move (av := dv (.bool (decide (((([] : List api_Packet).length : Nat) : Int) = 0)))) (lt_of rfl) trivial))
      (oC (oY (b := (decide (((([] : List api_Packet).length : Nat) : Int) = 0))) rfl rfl rfl rfl (lt_of rfl) (decide_eq_true hq1) (r_call (awake_true  ) Try.func17 rfl (by decide) [] [] (l := []) [] rfl 0 0 rfl rfl rfl rfl rfl rfl rfl rfl rfl trivial rfl (fun b hb => by cases hb) (.inl rfl) (lt_of rfl) trivial))
      (oC (oS rfl rfl (r_pickT (b := (decide (((([] : List api_Packet).length : Nat) : Int) = 0))) (av := dv (.bool true)) (lt_of rfl) trivial (decide_eq_true hq1)))
      (oC (oS rfl rfl (r_assign (av := dv (.bool true)) (lt_of rfl) trivial)) (oZ rfl))))))))))))))))))))))))))))))))))))))
      (by kernel_rfl) (by kernel_rfl) ?_
    refine nT ?_
    refine T.ret ?_
    exact tE (.inl rfl) [.t 2 (.one (.d (.val (.bool true))))] ⟨⟨rfl, rfl⟩, trivial⟩ [] rfl rfl rfl rfl rfl rfl trivial
  · exact absurd rfl hq1

-- (*quaestor/net.Net).All
theorem net_All (l : List api_Packet) (n : Int) (hs : smallN ⟨l, n⟩) : Holds Try.prog 20 ⟨[pv 0 0], [.box 54 [.own 1 (k_api_Packet false).sz 0 l.length, .d (.val (.int .i64 n))], arrK 35 (k_api_Packet false) l], slV false false (k_api_Packet false) l, [.live (.box 54 [.own 1 (k_api_Packet false).sz 0 l.length, .d (.val (.int .i64 n))]), .live (arrK 35 (k_api_Packet false) l)]⟩ := by
  refine Holds.of Try.func20 rfl (N := 23) Try.ntmps20 rfl fun w0 B0 S0 U0 => ?_
  show T _ (mkBase 23 2 w0 S0 U0 B0) ⟨[pv 0 0], [.live (.box 54 [.own 1 (k_api_Packet false).sz 0 l.length, .d (.val (.int .i64 n))]), .live (arrK 35 (k_api_Packet false) l)]⟩ _ _
  have hlen := hs.1
  simp only at hlen
  refine T.seq ?_
  refine tR (s1 := ⟨[pv 0 0, AV.any, dv (.slice none 0 0)], [.live (.box 54 [.own 1 (k_api_Packet false).sz 0 l.length, .d (.val (.int .i64 n))]), .live (arrK 35 (k_api_Packet false) l)]⟩) [true, false, true] [true, true]
    (oC (oS rfl rfl (r_assign (av := dv (.slice none 0 0)) (lt_of rfl) ⟨rfl, trivial⟩)) (oZ rfl))
    (by kernel_rfl) (by kernel_rfl) ?_
  refine nT ?_
  refine T.seq ?_
  refine tR (s1 := ⟨[pv 0 0, AV.any, dv (.slice none 0 0), dv (.slice none 0 0)], [.live (.box 54 [.own 1 (k_api_Packet false).sz 0 l.length, .d (.val (.int .i64 n))]), .live (arrK 35 (k_api_Packet false) l)]⟩) [true, false, true, true] [true, true]
    (oC (oS rfl rfl (r_assign (av := dv (.slice none 0 0)) (lt_of rfl) ⟨rfl, trivial⟩)) (oZ rfl))
    (by kernel_rfl) (by kernel_rfl) ?_
  refine nT ?_
  refine T.seq ?_
  refine T.seq ?_
  refine tR (s1 := ⟨[pv 0 0, AV.any, dv (.slice none 0 0), dv (.slice none 0 0), AV.any, AV.any, dv (.int .i64 ((l.length : Nat) : Int)), dv (.int .i64 0)], [.live (.box 54 [.own 1 (k_api_Packet false).sz 0 l.length, .d (.val (.int .i64 n))]), .live (arrK 35 (k_api_Packet false) l)]⟩) [true, false, true, true, false, false, true, true] [true, true]
    (oC (oS rfl rfl (r_move (av := pv 0 0) (lt_of rfl) trivial))
    (oC (oS rfl rfl (r_call (net_Len l n ) Try.func16 rfl (by decide) [0, 1] [] (l := [(.tmp 5, pv 0 0)]) [] rfl 2 2 rfl rfl rfl rfl rfl rfl rfl rfl rfl ⟨.inl ⟨rfl, rfl⟩, trivial⟩ rfl (fun b hb => by cases hb) (.inl rfl) (lt_of rfl) trivial))
    (oC (oS rfl rfl (r_move (av := dv (.int .i64 0)) (lt_of rfl) ⟨rfl, trivial⟩)) (oZ rfl))))
    (by kernel_rfl) (by kernel_rfl) ?_
  refine nT ?_
  refine T.block ?_
  refine T.turn (s' := ⟨[pv 0 0, AV.any, dv (.slice none 0 0), ownV 2 (k_api_Packet false) 0 0, AV.any, AV.any, dv (.int .i64 ((l.length : Nat) : Int)), dv (.int .i64 0)], [.live (.box 54 [.own 1 (k_api_Packet false).sz 0 l.length, .d (.val (.int .i64 n))]), .live (arrK 35 (k_api_Packet false) l), .live (arrK 35 (k_api_Packet false) ([] : List api_Packet))]⟩) (fun _ _ hG => Gs.absent 2 3 35 (k_api_Packet false) rfl rfl hG) ?_
  refine T.loop (ι := Nat) (fun (k : Nat) => ⟨[pv 0 0, AV.any, dv (.slice none 0 0), ownV 2 (k_api_Packet false) 0 (l.take k).length, AV.any, AV.any, dv (.int .i64 ((l.length : Nat) : Int)), dv (.int .i64 ((k : Nat) : Int))], [.live (.box 54 [.own 1 (k_api_Packet false).sz 0 l.length, .d (.val (.int .i64 n))]), .live (arrK 35 (k_api_Packet false) l), .live (arrK 35 (k_api_Packet false) (l.take k))]⟩) (fun (k : Nat) => (k ≤ l.length)) (fun (k : Nat) => l.length - k) (0) (Nat.zero_le _) (fun _ _ hG => Gs.into2 (s := ⟨[pv 0 0, AV.any, dv (.slice none 0 0), ownV 2 (k_api_Packet false) 0 0, AV.any, AV.any, dv (.int .i64 ((l.length : Nat) : Int)), dv (.int .i64 0)], [.live (.box 54 [.own 1 (k_api_Packet false).sz 0 l.length, .d (.val (.int .i64 n))]), .live (arrK 35 (k_api_Packet false) l), .live (arrK 35 (k_api_Packet false) ([] : List api_Packet))]⟩) (s' := ⟨[pv 0 0, AV.any, dv (.slice none 0 0), ownV 2 (k_api_Packet false) 0 (l.take 0).length, AV.any, AV.any, dv (.int .i64 ((l.length : Nat) : Int)), dv (.int .i64 0)], [.live (.box 54 [.own 1 (k_api_Packet false).sz 0 l.length, .d (.val (.int .i64 n))]), .live (arrK 35 (k_api_Packet false) l), .live (arrK 35 (k_api_Packet false) (l.take 0))]⟩) [0, 1, 2] [true, false, true, true, false, false, true, true] (t1 := [pv 0 0, AV.any, dv (.slice none 0 0), ownV 2 (k_api_Packet false) 0 (l.take 0).length, AV.any, AV.any, dv (.int .i64 ((l.length : Nat) : Int)), dv (.int .i64 0)]) (t2 := [pv 0 0, AV.any, dv (.slice none 0 0), ownV 2 (k_api_Packet false) 0 0, AV.any, AV.any, dv (.int .i64 ((l.length : Nat) : Int)), dv (.int .i64 0)]) (h1 := [.live (.box 54 [.own 1 (k_api_Packet false).sz 0 l.length, .d (.val (.int .i64 n))]), .live (arrK 35 (k_api_Packet false) l), .live (arrK 35 (k_api_Packet false) (l.take 0))]) (h2 := [.live (.box 54 [.own 1 (k_api_Packet false).sz 0 l.length, .d (.val (.int .i64 n))]), .live (arrK 35 (k_api_Packet false) l), .live (arrK 35 (k_api_Packet false) ([] : List api_Packet))]) (by have e1 : ((l.take 0).length : Nat) = 0 := (by simp); have hE := congrArg (fun (q1 : Nat) => ([pv 0 0, AV.any, dv (.slice none 0 0), ownV 2 (k_api_Packet false) 0 q1, AV.any, AV.any, dv (.int .i64 ((l.length : Nat) : Int)), dv (.int .i64 0)] : List AV)) e1; exact hE) (by have e1 : ((l.take 0) : List api_Packet) = ([] : List api_Packet) := (by simp); have hE := congrArg (fun (q1 : List api_Packet) => ([.live (.box 54 [.own 1 (k_api_Packet false).sz 0 l.length, .d (.val (.int .i64 n))]), .live (arrK 35 (k_api_Packet false) l), .live (arrK 35 (k_api_Packet false) q1)] : List HS)) e1; exact hE) (by kernel_rfl) (by kernel_rfl) (by kernel_rfl) (by kernel_rfl) (by kernel_rfl) (by kernel_rfl) (by kernel_rfl) (by kernel_rfl) (by kernel_rfl) (by kernel_rfl) (by kernel_rfl) hG) ?_
  rintro k hk
  show T _ _ ⟨[pv 0 0, AV.any, dv (.slice none 0 0), ownV 2 (k_api_Packet false) 0 (l.take k).length, AV.any, AV.any, dv (.int .i64 ((l.length : Nat) : Int)), dv (.int .i64 ((k : Nat) : Int))], [.live (.box 54 [.own 1 (k_api_Packet false).sz 0 l.length, .d (.val (.int .i64 n))]), .live (arrK 35 (k_api_Packet false) l), .live (arrK 35 (k_api_Packet false) (l.take k))]⟩ _ _
  replace hk : k ≤ l.length := hk
  have hsk := small_getD hs k
  simp only [smallE] at hsk
  refine T.seq ?_
  refine tR (s1 := ⟨[pv 0 0, AV.any, dv (.slice none 0 0), ownV 2 (k_api_Packet false) 0 (l.take k).length, AV.any, AV.any, dv (.int .i64 ((l.length : Nat) : Int)), dv (.int .i64 ((k : Nat) : Int)), dv (.bool (decide (((k : Nat) : Int) < ((l.length : Nat) : Int))))], [.live (.box 54 [.own 1 (k_api_Packet false).sz 0 l.length, .d (.val (.int .i64 n))]), .live (arrK 35 (k_api_Packet false) l), .live (arrK 35 (k_api_Packet false) (l.take k))]⟩) [true, false, true, true, false, false, true, true, true] [true, true, true]
    (oC (oS rfl rfl (r_bin (u1 := .int .i64 ((k : Nat) : Int)) (u2 := .int .i64 ((l.length : Nat) : Int)) (v := .bool (decide (((k : Nat) : Int) < ((l.length : Nat) : Int)))) b_lss (lt_of rfl) trivial)) (oZ rfl))
    (by kernel_rfl) (by kernel_rfl) ?_
  refine nT ?_
  refine T.seq ?_
  by_cases hq1 : ((k : Nat) : Int) < ((l.length : Nat) : Int)
  · refine T.condT (b := (decide (((k : Nat) : Int) < ((l.length : Nat) : Int)))) rfl (decide_eq_true hq1) ?_
    refine T.skip ?_
    refine nT ?_
    refine T.seq ?_
    refine T.block ?_
    refine T.seq ?_
    refine tR (s1 := ⟨[pv 0 0, AV.any, dv (.slice none 0 0), ownV 2 (k_api_Packet false) 0 (l.take k).length, dv (.int .i64 ((k : Nat) : Int)), AV.any, dv (.int .i64 ((l.length : Nat) : Int)), dv (.int .i64 ((k : Nat) : Int)), dv (.bool (decide (((k : Nat) : Int) < ((l.length : Nat) : Int))))], [.live (.box 54 [.own 1 (k_api_Packet false).sz 0 l.length, .d (.val (.int .i64 n))]), .live (arrK 35 (k_api_Packet false) l), .live (arrK 35 (k_api_Packet false) (l.take k))]⟩) [true, false, true, true, true, false, true, true, true] [true, true, true]
      (oC (oS rfl rfl (r_move (av := dv (.int .i64 ((k : Nat) : Int))) (lt_of rfl) trivial))
      (oC (oS rfl rfl (r_assign (av := dv (.int .i64 ((k : Nat) : Int))) (lt_of rfl) trivial)) (oZ rfl)))
      (by kernel_rfl) (by kernel_rfl) ?_
    refine nT ?_
    refine tR (s1 := ⟨[pv 0 0, AV.any, dv (.slice none 0 0), ownV 4 (k_api_Packet false) 0 ((l.take k) ++ [(l.getD k z_api_Packet)]).length, dv (.int .i64 ((k : Nat) : Int)), AV.any, dv (.int .i64 ((l.length : Nat) : Int)), dv (.int .i64 ((k : Nat) : Int)), dv (.bool (decide (((k : Nat) : Int) < ((l.length : Nat) : Int))))], [.live (.box 54 [.own 1 (k_api_Packet false).sz 0 l.length, .d (.val (.int .i64 n))]), .live (arrK 35 (k_api_Packet false) l), .dead, .live (arrK 35 (k_api_Packet false) [(l.getD k z_api_Packet)]), .live (arrK 35 (k_api_Packet false) ((l.take k) ++ [(l.getD k z_api_Packet)]))]⟩) [true, false, true, true, true, false, true, true, true] [true, true, true, true, true]
      (oC (oS rfl rfl (r_move (av := ownV 2 (k_api_Packet false) 0 (l.take k).length) (lt_of rfl) trivial))
      (oC (oS rfl rfl (r_move (av := pv 0 0) (lt_of rfl) trivial))
      (oC (oS rfl rfl (r_nilCheck (av := pv 0 0) rfl (lt_of rfl) trivial))
      (oC (oS rfl rfl (r_fieldAddr (l := 0) (off := 0) fld_54_0 (lt_of rfl) trivial))
      (oC (oS rfl rfl (r_loadB (l := 0) (off := 0) (T := 54) (cs := [.own 1 (k_api_Packet false).sz 0 l.length, .d (.val (.int .i64 n))]) (c := .own 1 (k_api_Packet false).sz 0 l.length) wide_44 rfl (lt_of rfl) trivial))
      (oC (oS rfl rfl (r_move (av := dv (.int .i64 ((k : Nat) : Int))) (lt_of rfl) trivial))
      (oC (oS rfl rfl (r_indexO (k := .i64) (l := 1) (sz := (k_api_Packet false).sz) (off := 0) (n := l.length) (i := ((k : Nat) : Int)) (m := k) (o' := k * (k_api_Packet false).sz + 0) Try.underlying44 iat_35 rfl rfl (by first | assumption | omega | (simp only [maxLen, kU8_sz, kSl_sz, k_api_Envelope_sz, k_api_Packet_sz, k_quaestorlaw20_Act_sz]; omega) | (simp only [maxLen, kU8_sz, kSl_sz, k_api_Envelope_sz, k_api_Packet_sz, k_quaestorlaw20_Act_sz, List.length_append, List.length_cons, List.length_nil, List.length_take, List.length_drop, List.length_set]; omega) | decide) (by first | rfl | simp) (lt_of rfl) trivial))
      (oC (oS rfl rfl (r_loadAs (l := 1) (off := k * (k_api_Packet false).sz + 0) (i := k) (j := 0) (T := 35) (sz := (k_api_Packet false).sz) (n := l.length) (el := elOf (k_api_Packet false) l) (ds := [.d (.val (.int .i64 (l.getD k z_api_Packet).f_Id)), .d (.val (.int .i64 (l.getD k z_api_Packet).f_To)), .d (.val (.int .i64 (l.getD k z_api_Packet).f_Env.f_Signer)), .d (dsl false false kU8 (l.getD k z_api_Packet).f_Env.f_Body)]) wide_35 rfl (by first | assumption | omega | (simp only [maxLen, kU8_sz, kSl_sz, k_api_Envelope_sz, k_api_Packet_sz, k_quaestorlaw20_Act_sz]; omega) | (simp only [maxLen, kU8_sz, kSl_sz, k_api_Envelope_sz, k_api_Packet_sz, k_quaestorlaw20_Act_sz, List.length_append, List.length_cons, List.length_nil, List.length_take, List.length_drop, List.length_set]; omega) | decide) (by decide) rfl (lt_of rfl) trivial))
      (oC (oS rfl rfl (r_call (net_twin false (l.getD k z_api_Packet) (by first | assumption | omega | (simp only [maxLen, kU8_sz, kSl_sz, k_api_Envelope_sz, k_api_Packet_sz, k_quaestorlaw20_Act_sz]; omega) | (simp only [maxLen, kU8_sz, kSl_sz, k_api_Envelope_sz, k_api_Packet_sz, k_quaestorlaw20_Act_sz, List.length_append, List.length_cons, List.length_nil, List.length_take, List.length_drop, List.length_set]; omega) | decide)) Try.func23 rfl (by decide) [] [] (l := [(.tmp 17, .tv (.agg [.d (.val (.int .i64 (l.getD k z_api_Packet).f_Id)), .d (.val (.int .i64 (l.getD k z_api_Packet).f_To)), .d (.val (.int .i64 (l.getD k z_api_Packet).f_Env.f_Signer)), .d (dsl false false kU8 (l.getD k z_api_Packet).f_Env.f_Body)]))]) [] rfl 0 0 rfl rfl rfl rfl rfl rfl rfl rfl rfl ⟨⟨.inl ⟨rfl, rfl⟩, ⟨.inl ⟨rfl, rfl⟩, ⟨.inl ⟨rfl, rfl⟩, ⟨.inl ⟨rfl, rfl⟩, trivial⟩⟩⟩⟩, trivial⟩ rfl (fun b hb => by cases hb) (.inl rfl) (lt_of rfl) trivial))
      (oC (oS rfl rfl (q_buildSlice 3 35 (k_api_Packet false) (k_api_Packet_ok false) [(l.getD k z_api_Packet)] [⟨0, .tmp 18, .agg [.d (.val (.int .i64 (l.getD k z_api_Packet).f_Id)), .d (.val (.int .i64 (l.getD k z_api_Packet).f_To)), .d (.val (.int .i64 (l.getD k z_api_Packet).f_Env.f_Signer)), .d (dsl false false kU8 (l.getD k z_api_Packet).f_Env.f_Body)], 0⟩] (cs := [.d (.val (.int .i64 (l.getD k z_api_Packet).f_Id)), .d (.val (.int .i64 (l.getD k z_api_Packet).f_To)), .d (.val (.int .i64 (l.getD k z_api_Packet).f_Env.f_Signer)), .d (dsl false false kU8 (l.getD k z_api_Packet).f_Env.f_Body)]) Try.underlying44 iat_35 rfl zero_35 rfl rfl rfl (Nat.le_of_ble_eq_true rfl) (part_cons rfl rfl (Nat.le_of_ble_eq_true rfl) part_ok) rfl ⟨(.inl rfl), ⟨(.inl rfl), ⟨(.inl rfl), ⟨(.inl rfl), trivial⟩⟩⟩⟩ (lt_of rfl) trivial))
      (oC (oS rfl rfl (q_appendO 2 4 35 48 (k_api_Packet false) (k_api_Packet_ok false) (l.take k) [(l.getD k z_api_Packet)] ((l.take k) ++ [(l.getD k z_api_Packet)]) (l.take k).length (sy := (.own 3 (k_api_Packet false).sz 0 [(l.getD k z_api_Packet)].length)) (rhs := [(3, .live (arrK 35 (k_api_Packet false) [(l.getD k z_api_Packet)]))]) elem_44 (by first | assumption | omega | (simp only [maxLen, kU8_sz, kSl_sz, k_api_Envelope_sz, k_api_Packet_sz, k_quaestorlaw20_Act_sz]; omega) | (simp only [maxLen, kU8_sz, kSl_sz, k_api_Envelope_sz, k_api_Packet_sz, k_quaestorlaw20_Act_sz, List.length_append, List.length_cons, List.length_nil, List.length_take, List.length_drop, List.length_set]; omega) | decide) (src_own 3 35 (k_api_Packet false) [(l.getD k z_api_Packet)]) (by rw [List.take_length]) (by first | assumption | omega | (simp only [maxLen, kU8_sz, kSl_sz, k_api_Envelope_sz, k_api_Packet_sz, k_quaestorlaw20_Act_sz]; omega) | (simp only [maxLen, kU8_sz, kSl_sz, k_api_Envelope_sz, k_api_Packet_sz, k_quaestorlaw20_Act_sz, List.length_append, List.length_cons, List.length_nil, List.length_take, List.length_drop, List.length_set]; omega) | decide) (by first | assumption | omega | (simp only [maxLen, kU8_sz, kSl_sz, k_api_Envelope_sz, k_api_Packet_sz, k_quaestorlaw20_Act_sz]; omega) | (simp only [maxLen, kU8_sz, kSl_sz, k_api_Envelope_sz, k_api_Packet_sz, k_quaestorlaw20_Act_sz, List.length_append, List.length_cons, List.length_nil, List.length_take, List.length_drop, List.length_set]; omega) | decide) (lt_of rfl) trivial))
      (oC (oS rfl rfl (r_assign (av := ownV 4 (k_api_Packet false) 0 ((l.take k) ++ [(l.getD k z_api_Packet)]).length) (lt_of rfl) trivial)) (oZ rfl)))))))))))))
      (by kernel_rfl) (by kernel_rfl) ?_
    refine nB ?_
    refine nT ?_
    refine tR (s1 := ⟨[pv 0 0, AV.any, dv (.slice none 0 0), ownV 4 (k_api_Packet false) 0 ((l.take k) ++ [(l.getD k z_api_Packet)]).length, dv (.int .i64 ((k : Nat) : Int)), AV.any, dv (.int .i64 ((l.length : Nat) : Int)), dv (.int .i64 ((k + 1 : Nat) : Int)), dv (.bool (decide (((k : Nat) : Int) < ((l.length : Nat) : Int))))], [.live (.box 54 [.own 1 (k_api_Packet false).sz 0 l.length, .d (.val (.int .i64 n))]), .live (arrK 35 (k_api_Packet false) l), .dead, .live (arrK 35 (k_api_Packet false) [(l.getD k z_api_Packet)]), .live (arrK 35 (k_api_Packet false) ((l.take k) ++ [(l.getD k z_api_Packet)]))]⟩) [true, false, true, true, true, false, true, true, true] [true, true, true, true, true]
      (oC (oS rfl rfl (r_bin (u1 := .int .i64 ((k : Nat) : Int)) (u2 := .int .i64 1) (v := .int .i64 ((k + 1 : Nat) : Int)) (b_add (by rw [IntKind.wrap_i64]; omega)) (lt_of rfl) ⟨rfl, trivial⟩))
      (oC (oS rfl rfl (r_move (av := dv (.int .i64 ((k + 1 : Nat) : Int))) (lt_of rfl) trivial)) (oZ rfl)))
      (by kernel_rfl) (by kernel_rfl) ?_
    refine nL (k + 1) (show (k + 1) ≤ l.length from (by omega)) (show (l.length - (k + 1) : Nat) < l.length - k from (by omega)) (fun _ _ hG => Gs.into2 (s := ⟨[pv 0 0, AV.any, dv (.slice none 0 0), ownV 4 (k_api_Packet false) 0 ((l.take k) ++ [(l.getD k z_api_Packet)]).length, dv (.int .i64 ((k : Nat) : Int)), AV.any, dv (.int .i64 ((l.length : Nat) : Int)), dv (.int .i64 ((k + 1 : Nat) : Int)), dv (.bool (decide (((k : Nat) : Int) < ((l.length : Nat) : Int))))], [.live (.box 54 [.own 1 (k_api_Packet false).sz 0 l.length, .d (.val (.int .i64 n))]), .live (arrK 35 (k_api_Packet false) l), .dead, .live (arrK 35 (k_api_Packet false) [(l.getD k z_api_Packet)]), .live (arrK 35 (k_api_Packet false) ((l.take k) ++ [(l.getD k z_api_Packet)]))]⟩) (s' := ⟨[pv 0 0, AV.any, dv (.slice none 0 0), ownV 2 (k_api_Packet false) 0 (l.take (k + 1)).length, AV.any, AV.any, dv (.int .i64 ((l.length : Nat) : Int)), dv (.int .i64 ((k + 1 : Nat) : Int))], [.live (.box 54 [.own 1 (k_api_Packet false).sz 0 l.length, .d (.val (.int .i64 n))]), .live (arrK 35 (k_api_Packet false) l), .live (arrK 35 (k_api_Packet false) (l.take (k + 1)))]⟩) [0, 1, 4] [true, false, true, true, false, false, true, true] (t1 := [pv 0 0, AV.any, dv (.slice none 0 0), ownV 4 (k_api_Packet false) 0 (l.take (k + 1)).length, AV.any, AV.any, dv (.int .i64 ((l.length : Nat) : Int)), dv (.int .i64 ((k + 1 : Nat) : Int))]) (t2 := [pv 0 0, AV.any, dv (.slice none 0 0), ownV 4 (k_api_Packet false) 0 ((l.take k) ++ [(l.getD k z_api_Packet)]).length, AV.any, AV.any, dv (.int .i64 ((l.length : Nat) : Int)), dv (.int .i64 ((k + 1 : Nat) : Int))]) (h1 := [.live (.box 54 [.own 1 (k_api_Packet false).sz 0 l.length, .d (.val (.int .i64 n))]), .live (arrK 35 (k_api_Packet false) l), .live (arrK 35 (k_api_Packet false) (l.take (k + 1)))]) (h2 := [.live (.box 54 [.own 1 (k_api_Packet false).sz 0 l.length, .d (.val (.int .i64 n))]), .live (arrK 35 (k_api_Packet false) l), .live (arrK 35 (k_api_Packet false) ((l.take k) ++ [(l.getD k z_api_Packet)]))]) (by have e1 : ((l.take (k + 1)).length : Nat) = ((l.take k) ++ [(l.getD k z_api_Packet)]).length := (by rw [tk_succ (z := z_api_Packet) (l := l) (k := k) (by omega)]); have hE := congrArg (fun (q1 : Nat) => ([pv 0 0, AV.any, dv (.slice none 0 0), ownV 4 (k_api_Packet false) 0 q1, AV.any, AV.any, dv (.int .i64 ((l.length : Nat) : Int)), dv (.int .i64 ((k + 1 : Nat) : Int))] : List AV)) e1; exact hE) (by have e1 : ((l.take (k + 1)) : List api_Packet) = (l.take k) ++ [(l.getD k z_api_Packet)] := (by rw [tk_succ (z := z_api_Packet) (l := l) (k := k) (by omega)]); have hE := congrArg (fun (q1 : List api_Packet) => ([.live (.box 54 [.own 1 (k_api_Packet false).sz 0 l.length, .d (.val (.int .i64 n))]), .live (arrK 35 (k_api_Packet false) l), .live (arrK 35 (k_api_Packet false) q1)] : List HS)) e1; exact hE) (by kernel_rfl) (by kernel_rfl) (by kernel_rfl) (by kernel_rfl) (by kernel_rfl) (by kernel_rfl) (by kernel_rfl) (by kernel_rfl) (by kernel_rfl) (by kernel_rfl) (by kernel_rfl) hG)
  · refine T.condF (b := (decide (((k : Nat) : Int) < ((l.length : Nat) : Int)))) rfl (decide_eq_false hq1) ?_
    refine T.exit ?_
    refine xT ?_
    refine xT ?_
    refine xH ?_
    refine nT ?_
    refine T.seq ?_
    refine tR (s1 := ⟨[pv 0 0, AV.any, ownV 2 (k_api_Packet false) 0 (l.take k).length, ownV 2 (k_api_Packet false) 0 (l.take k).length, AV.any, AV.any, dv (.int .i64 ((l.length : Nat) : Int)), dv (.int .i64 ((k : Nat) : Int)), dv (.bool (decide (((k : Nat) : Int) < ((l.length : Nat) : Int))))], [.live (.box 54 [.own 1 (k_api_Packet false).sz 0 l.length, .d (.val (.int .i64 n))]), .live (arrK 35 (k_api_Packet false) l), .live (arrK 35 (k_api_Packet false) (l.take k))]⟩) [true, false, true, true, false, false, true, true, true] [true, true, true]
      (oC (oS rfl rfl (r_move (av := ownV 2 (k_api_Packet false) 0 (l.take k).length) (lt_of rfl) trivial))
      (oC (oS rfl rfl (r_assign (av := ownV 2 (k_api_Packet false) 0 (l.take k).length) (lt_of rfl) trivial)) (oZ rfl)))
      (by kernel_rfl) (by kernel_rfl) ?_
    refine nT ?_
    refine T.ret ?_
    refine Ends.turn (s' := ⟨[pv 0 0, AV.any, slV false false (k_api_Packet false) (l.take k), slV false false (k_api_Packet false) (l.take k), AV.any, AV.any, dv (.int .i64 ((l.length : Nat) : Int)), dv (.int .i64 ((k : Nat) : Int)), dv (.bool (decide (((k : Nat) : Int) < ((l.length : Nat) : Int))))], [.live (.box 54 [.own 1 (k_api_Packet false).sz 0 l.length, .d (.val (.int .i64 n))]), .live (arrK 35 (k_api_Packet false) l), .dead]⟩) (fun _ _ hG => Gs.freeze (s := ⟨[pv 0 0, AV.any, ownV 2 (k_api_Packet false) 0 (l.take k).length, ownV 2 (k_api_Packet false) 0 (l.take k).length, AV.any, AV.any, dv (.int .i64 ((l.length : Nat) : Int)), dv (.int .i64 ((k : Nat) : Int)), dv (.bool (decide (((k : Nat) : Int) < ((l.length : Nat) : Int))))], [.live (.box 54 [.own 1 (k_api_Packet false).sz 0 l.length, .d (.val (.int .i64 n))]), .live (arrK 35 (k_api_Packet false) l), .live (arrK 35 (k_api_Packet false) (l.take k))]⟩) 2 (el := elOf (k_api_Packet false) (l.take k)) (sz := (k_api_Packet false).sz) (n := (l.take k).length) rfl ⟨(.inl rfl), ⟨(.inl rfl), ⟨(.inr (.inr ⟨rfl, rfl, rfl, (fun h => by cases h), rfl, rfl, by omega, fun i j _ => by rw [Nat.zero_add]⟩)), ⟨(.inr (.inr ⟨rfl, rfl, rfl, (fun h => by cases h), rfl, rfl, by omega, fun i j _ => by rw [Nat.zero_add]⟩)), ⟨(.inl rfl), ⟨(.inl rfl), ⟨(.inl rfl), ⟨(.inl rfl), ⟨(.inl rfl), trivial⟩⟩⟩⟩⟩⟩⟩⟩⟩ ⟨(.inr ⟨by decide, .inl rfl⟩), ⟨(.inr ⟨by decide, .inl rfl⟩), ⟨(.inl ⟨rfl, rfl⟩), trivial⟩⟩⟩ hG) ?_
    exact tE (.inl rfl) [.t 2 (.one (.d (dsl false false (k_api_Packet false) (l.take k))))] ⟨⟨rfl, rfl⟩, trivial⟩ [0, 1] (by have e1 : (l : List api_Packet) = (l.take k) := (by rw [List.take_of_length_le (by omega)]); have hE := congrArg (fun (q1 : List api_Packet) => (slV false false (k_api_Packet false) q1 : AV)) e1; exact hE) rfl rfl rfl rfl rfl ⟨⟨rfl, rfl⟩, ⟨⟨rfl, rfl⟩, trivial⟩⟩
end Go.Proofs.Ytioenfjcbikbcaa.Q
