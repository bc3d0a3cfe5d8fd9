import Derived.Test.YtioenfjcbikbcaaC20n2
namespace Go.Proofs.Ytioenfjcbikbcaa.Q
open Go Go.RowKit
set_option linter.unusedVariables false
set_option linter.unusedSimpArgs false
set_option maxRecDepth 100000
set_option maxHeartbeats 4000000
theorem zero_29 : Zero Try.prog 29 [.int .i64 0, .slice none 0 0] := ⟨_, _, iat_29, rfl, rfl⟩
theorem places_29 : Places Try.prog 29 [(0, 1), (1, 1)] := ⟨_, Try.underlying29, ⟨⟨rfl, _, iat_3, rfl⟩, ⟨⟨rfl, _, iat_27, rfl⟩, trivial⟩⟩⟩
-- quaestor/quaestorlaw20.awake
theorem awake_true : Holds Try.prog 17 ⟨[], [], dv (.bool true), []⟩ := by
 refine Holds.of Try.func17 rfl (N := 44) Try.ntmps17 rfl fun w0 B0 S0 U0 => ?_
 show T _ (mkBase 44 0 w0 S0 U0 B0) ⟨[], []⟩ _ _
 refine sR [] ?_
 refine sR [hR 0 rfl rfl (r_call (net_New  ) Try.func10 rfl (by decide) [0, 1] [] (l := []) [] rfl 0 2 rfl rfl rfl rfl rfl rfl rfl rfl rfl trivial rfl (fun b hb => by cases hb) (.inl rfl) (lt_of rfl) trivial)] ?_
 refine sR [hR 2 rfl rfl (r_call (net_Send ([] : List api_Packet) 0 false 1 (api_Envelope.mk 0 ([] : List UInt8)) (by first | assumption | omega | (unfold maxLen; omega) | (simp [maxLen, -List.getD_eq_getElem?_getD] <;> omega) | decide) (by first | assumption | omega | (unfold maxLen; omega) | (simp [maxLen, -List.getD_eq_getElem?_getD] <;> omega) | decide)) Try.func11 rfl (by decide) [0, 1, 2] [] (l := [(.tmp 7, pv 0 0), (.const (.int .i64 1), dv (.int .i64 1)), (.tmp 8, .tv (.agg [.d (.val (.int .i64 0)), .d (.val (.slice none 0 0))]))]) [] rfl 2 3 rfl rfl rfl rfl rfl rfl rfl rfl rfl ⟨.inl ⟨rfl, rfl⟩, ⟨.inl ⟨rfl, rfl⟩, ⟨⟨.inl ⟨rfl, rfl⟩, ⟨.inr (.inr ⟨rfl, rfl, rfl⟩), trivial⟩⟩, trivial⟩⟩⟩ rfl (fun b hb => by cases hb) (.inl rfl) (lt_of rfl) ⟨rfl, trivial⟩)] ?_
 refine sR [hR 2 rfl rfl (r_call (net_Send (netSend (NetS.mk ([] : List api_Packet) 0) 1 (api_Envelope.mk 0 ([] : List UInt8))).l (netSend (NetS.mk ([] : List api_Packet) 0) 1 (api_Envelope.mk 0 ([] : List UInt8))).n false 2 (api_Envelope.mk 0 ([] : List UInt8)) (by first | assumption | omega | (unfold maxLen; omega) | (simp [maxLen, -List.getD_eq_getElem?_getD] <;> omega) | decide) (by first | assumption | omega | (unfold maxLen; omega) | (simp [maxLen, -List.getD_eq_getElem?_getD] <;> omega) | decide)) Try.func11 rfl (by decide) [0, 2, 3] [] (l := [(.tmp 10, pv 0 0), (.const (.int .i64 2), dv (.int .i64 2)), (.tmp 11, .tv (.agg [.d (.val (.int .i64 0)), .d (.val (.slice none 0 0))]))]) [] rfl 2 3 rfl rfl rfl rfl rfl rfl rfl rfl rfl ⟨.inl ⟨rfl, rfl⟩, ⟨.inl ⟨rfl, rfl⟩, ⟨⟨.inl ⟨rfl, rfl⟩, ⟨.inr (.inr ⟨rfl, rfl, rfl⟩), trivial⟩⟩, trivial⟩⟩⟩ rfl (fun b hb => by cases hb) (.inl rfl) (lt_of rfl) ⟨rfl, trivial⟩)] ?_
 refine sR [hR 1 rfl rfl (r_call (net_Take (netSend (netSend (NetS.mk ([] : List api_Packet) 0) 1 (api_Envelope.mk 0 ([] : List UInt8))) 2 (api_Envelope.mk 0 ([] : List UInt8))).l (netSend (netSend (NetS.mk ([] : List api_Packet) 0) 1 (api_Envelope.mk 0 ([] : List UInt8))) 2 (api_Envelope.mk 0 ([] : List UInt8))).n 1 (by first | assumption | omega | (unfold maxLen; omega) | (simp [maxLen, -List.getD_eq_getElem?_getD] <;> omega) | decide)) Try.func12 rfl (by decide) [0, 3] [] (l := [(.tmp 14, pv 0 0), (.const (.int .i64 1), dv (.int .i64 1))]) [] rfl 2 2 rfl rfl rfl rfl rfl rfl rfl rfl rfl ⟨.inl ⟨rfl, rfl⟩, ⟨.inl ⟨rfl, rfl⟩, trivial⟩⟩ rfl (fun b hb => by cases hb) (.inl rfl) (lt_of rfl) ⟨rfl, trivial⟩)] ?_
 refine sR [hR 1 rfl rfl (r_call (net_Take (netTake (netSend (netSend (NetS.mk ([] : List api_Packet) 0) 1 (api_Envelope.mk 0 ([] : List UInt8))) 2 (api_Envelope.mk 0 ([] : List UInt8))) 1).l (netTake (netSend (netSend (NetS.mk ([] : List api_Packet) 0) 1 (api_Envelope.mk 0 ([] : List UInt8))) 2 (api_Envelope.mk 0 ([] : List UInt8))) 1).n 1 (by first | assumption | omega | (unfold maxLen; omega) | (simp [maxLen, -List.getD_eq_getElem?_getD] <;> omega) | decide)) Try.func12 rfl (by decide) [0, 3] [] (l := [(.tmp 19, pv 0 0), (.const (.int .i64 1), dv (.int .i64 1))]) [] rfl 2 2 rfl rfl rfl rfl rfl rfl rfl rfl rfl ⟨.inl ⟨rfl, rfl⟩, ⟨.inl ⟨rfl, rfl⟩, trivial⟩⟩ rfl (fun b hb => by cases hb) (.inl rfl) (lt_of rfl) ⟨rfl, trivial⟩)] ?_
 by_cases hq1 : (netAtE (netSend (netSend (NetS.mk ([] : List api_Packet) 0) 1 (api_Envelope.mk 0 ([] : List UInt8))) 2 (api_Envelope.mk 0 ([] : List UInt8))) 1) = 0
 ·by_cases hq2 : (netAt (netSend (netSend (NetS.mk ([] : List api_Packet) 0) 1 (api_Envelope.mk 0 ([] : List UInt8))) 2 (api_Envelope.mk 0 ([] : List UInt8))) 1).f_Id = 2
  ·by_cases hq3 : (netAt (netSend (netSend (NetS.mk ([] : List api_Packet) 0) 1 (api_Envelope.mk 0 ([] : List UInt8))) 2 (api_Envelope.mk 0 ([] : List UInt8))) 1).f_To = 2
   ·by_cases hq4 : (netAtE (netTake (netSend (netSend (NetS.mk ([] : List api_Packet) 0) 1 (api_Envelope.mk 0 ([] : List UInt8))) 2 (api_Envelope.mk 0 ([] : List UInt8))) 1) 1) = 2
    ·refine sR [hY 3 (decide_eq_true hq1),
       hY 4 (decide_eq_true hq1),
       hY 5 (decide_eq_true hq1),
       hP 6 (decide_eq_true hq1),
       hY 8 (decide_eq_true hq2),
       hY 9 (decide_eq_true hq2),
       hY 10 (decide_eq_true hq2),
       hP 11 (decide_eq_true hq2),
       hY 13 (decide_eq_true hq3),
       hY 14 (decide_eq_true hq3),
       hP 15 (decide_eq_true hq3),
       hY 17 (decide_eq_true hq4),
       hS 18 (oY rfl rfl rfl rfl (lt_of rfl) (decide_eq_true hq4) (r_call (net_Len (netTake (netTake (netSend (netSend (NetS.mk ([] : List api_Packet) 0) 1 (api_Envelope.mk 0 ([] : List UInt8))) 2 (api_Envelope.mk 0 ([] : List UInt8))) 1) 1).l (netTake (netTake (netSend (netSend (NetS.mk ([] : List api_Packet) 0) 1 (api_Envelope.mk 0 ([] : List UInt8))) 2 (api_Envelope.mk 0 ([] : List UInt8))) 1) 1).n ) Try.func16 rfl (by decide) [0, 3] [] (l := [(.tmp 40, pv 0 0)]) [] rfl 2 2 rfl rfl rfl rfl rfl rfl rfl rfl rfl ⟨.inl ⟨rfl, rfl⟩, trivial⟩ rfl (fun b hb => by cases hb) (.inl rfl) (lt_of rfl) (by exact trivial))),
       hY 19 (decide_eq_true hq4),
       hP 20 (decide_eq_true hq4)] ?_
     refine T.ret ?_
     exact tE (.inl rfl) [.t 0 (.one (.d (.val (.bool (decide ((((netTake (netTake (netSend (netSend (NetS.mk ([] : List api_Packet) 0) 1 (api_Envelope.mk 0 ([] : List UInt8))) 2 (api_Envelope.mk 0 ([] : List UInt8))) 1) 1).l.length : Nat) : Int) = 1))))))] ⟨⟨rfl, by kernel_rfl⟩, trivial⟩ [] (by have e1 : (true : Bool) = (decide ((((netTake (netTake (netSend (netSend (NetS.mk ([] : List api_Packet) 0) 1 (api_Envelope.mk 0 ([] : List UInt8))) 2 (api_Envelope.mk 0 ([] : List UInt8))) 1) 1).l.length : Nat) : Int) = 1)) := (by first | rfl | (simp; done)); have hE := congrArg (fun (q1 : Bool) => (dv (.bool q1) : AV)) e1; exact hE) rfl rfl rfl rfl rfl trivial
    ·exact absurd (by decide) hq4
   ·exact absurd (by decide) hq3
  ·exact absurd (by decide) hq2
 ·exact absurd (by decide) hq1
end Go.Proofs.Ytioenfjcbikbcaa.Q
namespace Go.Proofs.Ytioenfjcbikbcaa.Q
open Go Go.RowKit
set_option linter.unusedVariables false
set_option linter.unusedSimpArgs false
set_option maxRecDepth 100000
set_option maxHeartbeats 4000000
-- (*quaestor/net.Net).Send
theorem nil_Send (te : Bool) (to : Int) (e : api_Envelope) : Holds Try.prog 11 ⟨[dv (.pointer none), dv (.int .i64 to), .tv (.agg [.d (.val (.int .i64 e.f_Signer)), .d (dsl te false kU8 e.f_Body)])], [], dv (.int .i64 1), []⟩ := by
 refine Holds.of Try.func11 rfl (N := 41) Try.ntmps11 rfl fun w0 B0 S0 U0 => ?_
 show T _ (mkBase 41 0 w0 S0 U0 B0) ⟨[dv (.pointer none), dv (.int .i64 to), .tv (.agg [.d (.val (.int .i64 e.f_Signer)), .d (dsl te false kU8 e.f_Body)])], []⟩ _ _
 refine sR [] ?_
 refine T.seq ?_
 refine T.block ?_
 refine sR [] ?_
 refine cT (b := true) rfl ?_
 refine sR [] ?_
 refine T.ret ?_
 refine rB ?_
 refine rT ?_
 exact tE (.inl rfl) [.t 6 (.one (.d (.val (.int .i64 1))))] ⟨⟨rfl, by kernel_rfl⟩, trivial⟩ [] rfl rfl rfl rfl rfl rfl trivial
end Go.Proofs.Ytioenfjcbikbcaa.Q
namespace Go.Proofs.Ytioenfjcbikbcaa.Q
open Go Go.RowKit
set_option linter.unusedVariables false
set_option linter.unusedSimpArgs false
set_option maxRecDepth 100000
set_option maxHeartbeats 4000000
-- (*quaestor/net.Net).Len
theorem nil_Len : Holds Try.prog 16 ⟨[dv (.pointer none)], [], dv (.int .i64 0), []⟩ := by
 refine Holds.of Try.func16 rfl (N := 10) Try.ntmps16 rfl fun w0 B0 S0 U0 => ?_
 show T _ (mkBase 10 0 w0 S0 U0 B0) ⟨[dv (.pointer none)], []⟩ _ _
 refine sR [] ?_
 refine T.seq ?_
 refine sR [] ?_
 refine cT (b := true) rfl ?_
 refine sR [] ?_
 refine T.ret ?_
 refine rT ?_
 exact tE (.inl rfl) [.t 2 (.one (.d (.val (.int .i64 0))))] ⟨⟨rfl, by kernel_rfl⟩, trivial⟩ [] rfl rfl rfl rfl rfl rfl trivial
end Go.Proofs.Ytioenfjcbikbcaa.Q
namespace Go.Proofs.Ytioenfjcbikbcaa.Q
open Go Go.RowKit
set_option linter.unusedVariables false
set_option linter.unusedSimpArgs false
set_option maxRecDepth 100000
set_option maxHeartbeats 4000000
abbrev z0b54_0 (i : Int) : List AV := [dv (.pointer none), dv (.int .i64 i), aa, aa, pv 0 0, dv (.int .i64 2), aa, aa, aa, aa, aa, aa, aa, dv (.bool true)]
abbrev z0b54_1 : List HS := [.live (.box 35 [.d (.val (.int .i64 0)), .d (.val (.int .i64 0)), .d (.val (.int .i64 0)), .d (.val (.slice none 0 0))])]
abbrev z0b54_2 : SV := .d (dsl false false kU8 ([] : List UInt8))
abbrev z0b54_3 : List SV := [.d (.val (.int .i64 0)), .d (.val (.int .i64 0)), .d (.val (.int .i64 0)), z0b54_2]
abbrev z0b54_4 : TV := .one (.d (.val (.int .i64 2)))
abbrev z0b54_5 (i : Int) : List AV := [dv (.pointer none), dv (.int .i64 i), aa, aa, pv 0 0, dv (.int .i64 2), aa, aa, aa, aa, aa, aa, aa, dv (.bool (decide (i ≥ 0)))]
-- (*quaestor/net.Net).At
theorem nil_At (i : Int) : Holds Try.prog 14 ⟨[dv (.pointer none), dv (.int .i64 i)], [], .tup [.agg [.d (.val (.int .i64 z_api_Packet.f_Id)), .d (.val (.int .i64 z_api_Packet.f_To)), .d (.val (.int .i64 z_api_Packet.f_Env.f_Signer)), .d (dsl false false kU8 z_api_Packet.f_Env.f_Body)], .one (.d (.val (.int .i64 2)))], []⟩ := by
 refine Holds.of Try.func14 rfl (N := 23) Try.ntmps14 rfl fun w0 B0 S0 U0 => ?_
 show T _ (mkBase 23 0 w0 S0 U0 B0) ⟨[dv (.pointer none), dv (.int .i64 i)], []⟩ _ _
 refine sR [] ?_
 refine T.seq ?_
 by_cases hq1 : i < 0
 ·refine sR [hN 3 false (decide_eq_true hq1),
    hN 4 false (decide_eq_true hq1),
    hN 5 false (decide_eq_true hq1),
    hN 6 false (decide_eq_true hq1),
    hP 7 (decide_eq_true hq1)] ?_
  refine cT (b := true) rfl ?_
  refine sR [] ?_
  refine T.ret ?_
  refine rT ?_
  refine Ends.turn (s' := ⟨(z0b54_0 i), z0b54_1⟩) (fun _ _ hG => Gs.norm (by kernel_rfl) hG) ?_
  refine Ends.turn (s' := ⟨(z0b54_0 i), [.live (.box 35 z0b54_3)]⟩) (fun _ _ hG => Gs.less (s := ⟨(z0b54_0 i), z0b54_1⟩) (kk2 (kk4 (kk8 trivial))) ⟨(.inr ⟨rfl, ⟨.inl rfl, (kk2 ⟨(.inr ⟨rfl, rfl, rfl⟩), trivial⟩)⟩⟩), trivial⟩ hG) ?_
  exact tE (.inl rfl) [.c 4 0 35 0 35 [.d (.val (.int .i64 0)), .d (.val (.int .i64 0)), .d (.val (.int .i64 0)), z0b54_2] (.agg z0b54_3), .t 5 (z0b54_4)] ⟨⟨rfl, rfl, by kernel_rfl, by kernel_rfl, .inl ⟨4, wide_35, rfl, Nat.le_of_ble_eq_true rfl⟩⟩, ⟨⟨rfl, by kernel_rfl⟩, trivial⟩⟩ [] (by have e1 : (z_api_Packet.f_Id : Int) = 0 := (by first | rfl | (simp; done)); have e2 : (z_api_Packet.f_To : Int) = 0 := (by first | rfl | (simp; done)); have e3 : (z_api_Packet.f_Env.f_Signer : Int) = 0 := (by first | rfl | (simp; done)); have e4 : (z_api_Packet.f_Env.f_Body : List UInt8) = ([] : List UInt8) := (by first | rfl | (simp; done)); have hE := congr (congr (congr (congrArg (fun (q1 : Int) (q2 : Int) (q3 : Int) (q4 : List UInt8) => (.tup [.agg [.d (.val (.int .i64 q1)), .d (.val (.int .i64 q2)), .d (.val (.int .i64 q3)), .d (dsl false false kU8 q4)], z0b54_4] : AV)) e1) e2) e3) e4; exact hE) rfl rfl rfl rfl rfl trivial
 ·refine sR [hY 3 (decide_eq_false hq1),
    hY 4 (decide_eq_false hq1),
    hS 5 (oY rfl rfl rfl rfl (lt_of rfl) (decide_eq_false hq1) (r_call (nil_Len  ) Try.func16 rfl (by decide) [] [] (l := [(.tmp 10, dv (.pointer none))]) [] rfl 0 0 rfl rfl rfl rfl rfl rfl rfl rfl rfl ⟨.inl ⟨rfl, rfl⟩, trivial⟩ rfl (fun b hb => by cases hb) (.inl rfl) (lt_of rfl) (by exact trivial))),
    hY 6 (decide_eq_false hq1),
    hP 7 (decide_eq_false hq1)] ?_
  by_cases hq2 : i ≥ 0
  ·refine cT (decide_eq_true hq2) ?_
   refine sR [] ?_
   refine T.ret ?_
   refine rT ?_
   refine Ends.turn (s' := ⟨(z0b54_5 i), z0b54_1⟩) (fun _ _ hG => Gs.norm (by kernel_rfl) hG) ?_
   refine Ends.turn (s' := ⟨(z0b54_5 i), [.live (.box 35 z0b54_3)]⟩) (fun _ _ hG => Gs.less (s := ⟨(z0b54_5 i), z0b54_1⟩) (kk2 (kk4 (kk8 trivial))) ⟨(.inr ⟨rfl, ⟨.inl rfl, (kk2 ⟨(.inr ⟨rfl, rfl, rfl⟩), trivial⟩)⟩⟩), trivial⟩ hG) ?_
   exact tE (.inl rfl) [.c 4 0 35 0 35 [.d (.val (.int .i64 0)), .d (.val (.int .i64 0)), .d (.val (.int .i64 0)), z0b54_2] (.agg z0b54_3), .t 5 (z0b54_4)] ⟨⟨rfl, rfl, by kernel_rfl, by kernel_rfl, .inl ⟨4, wide_35, rfl, Nat.le_of_ble_eq_true rfl⟩⟩, ⟨⟨rfl, by kernel_rfl⟩, trivial⟩⟩ [] (by have e1 : (z_api_Packet.f_Id : Int) = 0 := (by first | rfl | (simp; done)); have e2 : (z_api_Packet.f_To : Int) = 0 := (by first | rfl | (simp; done)); have e3 : (z_api_Packet.f_Env.f_Signer : Int) = 0 := (by first | rfl | (simp; done)); have e4 : (z_api_Packet.f_Env.f_Body : List UInt8) = ([] : List UInt8) := (by first | rfl | (simp; done)); have hE := congr (congr (congr (congrArg (fun (q1 : Int) (q2 : Int) (q3 : Int) (q4 : List UInt8) => (.tup [.agg [.d (.val (.int .i64 q1)), .d (.val (.int .i64 q2)), .d (.val (.int .i64 q3)), .d (dsl false false kU8 q4)], z0b54_4] : AV)) e1) e2) e3) e4; exact hE) rfl rfl rfl rfl rfl trivial
  ·exact absurd (by omega : i ≥ 0) hq2
end Go.Proofs.Ytioenfjcbikbcaa.Q
namespace Go.Proofs.Ytioenfjcbikbcaa.Q
open Go Go.RowKit
set_option linter.unusedVariables false
set_option linter.unusedSimpArgs false
set_option maxRecDepth 100000
set_option maxHeartbeats 4000000
-- (*quaestor/net.Net).Take
theorem nil_Take (i : Int) : Holds Try.prog 12 ⟨[dv (.pointer none), dv (.int .i64 i)], [], .tup [.agg [.d (.val (.int .i64 z_api_Packet.f_Id)), .d (.val (.int .i64 z_api_Packet.f_To)), .d (.val (.int .i64 z_api_Packet.f_Env.f_Signer)), .d (dsl false false kU8 z_api_Packet.f_Env.f_Body)], .one (.d (.val (.int .i64 2)))], []⟩ := by
 refine Holds.of Try.func12 rfl (N := 56) Try.ntmps12 rfl fun w0 B0 S0 U0 => ?_
 show T _ (mkBase 56 0 w0 S0 U0 B0) ⟨[dv (.pointer none), dv (.int .i64 i)], []⟩ _ _
 refine sR [] ?_
 refine sR [hR 2 rfl rfl (r_call (nil_At i ) Try.func14 rfl (by decide) [] [] (l := [(.tmp 10, dv (.pointer none)), (.tmp 11, dv (.int .i64 i))]) [] rfl 0 0 rfl rfl rfl rfl rfl rfl rfl rfl rfl ⟨.inl ⟨rfl, rfl⟩, ⟨.inl ⟨rfl, rfl⟩, trivial⟩⟩ rfl (fun b hb => by cases hb) (.inl rfl) (lt_of rfl) trivial)] ?_
 refine T.seq ?_
 refine sR [] ?_
 refine cT (b := true) rfl ?_
 refine sR [] ?_
 refine T.ret ?_
 refine rT ?_
 exact tE (.inl rfl) [.c 4 0 35 0 35 [.d (.val (.int .i64 z_api_Packet.f_Id)), .d (.val (.int .i64 z_api_Packet.f_To)), .d (.val (.int .i64 z_api_Packet.f_Env.f_Signer)), .d (dsl false false kU8 z_api_Packet.f_Env.f_Body)] (.agg [.d (.val (.int .i64 z_api_Packet.f_Id)), .d (.val (.int .i64 z_api_Packet.f_To)), .d (.val (.int .i64 z_api_Packet.f_Env.f_Signer)), .d (dsl false false kU8 z_api_Packet.f_Env.f_Body)]), .t 5 (.one (.d (.val (.int .i64 2))))] ⟨⟨rfl, rfl, by kernel_rfl, by kernel_rfl, .inl ⟨4, wide_35, rfl, Nat.le_of_ble_eq_true rfl⟩⟩, ⟨⟨rfl, by kernel_rfl⟩, trivial⟩⟩ [] rfl rfl rfl rfl rfl rfl trivial
end Go.Proofs.Ytioenfjcbikbcaa.Q
namespace Go.Proofs.Ytioenfjcbikbcaa.Q
open Go Go.RowKit
set_option linter.unusedVariables false
set_option linter.unusedSimpArgs false
set_option maxRecDepth 100000
set_option maxHeartbeats 4000000
-- (*quaestor/net.Net).Twice
theorem nil_Twice (i : Int) : Holds Try.prog 15 ⟨[dv (.pointer none), dv (.int .i64 i)], [], dv (.int .i64 1), []⟩ := by
 refine Holds.of Try.func15 rfl (N := 24) Try.ntmps15 rfl fun w0 B0 S0 U0 => ?_
 show T _ (mkBase 24 0 w0 S0 U0 B0) ⟨[dv (.pointer none), dv (.int .i64 i)], []⟩ _ _
 refine sR [] ?_
 refine T.seq ?_
 refine sR [] ?_
 refine cT (b := true) rfl ?_
 refine sR [] ?_
 refine T.ret ?_
 refine rT ?_
 exact tE (.inl rfl) [.t 4 (.one (.d (.val (.int .i64 1))))] ⟨⟨rfl, by kernel_rfl⟩, trivial⟩ [] rfl rfl rfl rfl rfl rfl trivial
end Go.Proofs.Ytioenfjcbikbcaa.Q
namespace Go.Proofs.Ytioenfjcbikbcaa.Q
open Go Go.RowKit
set_option linter.unusedVariables false
set_option linter.unusedSimpArgs false
set_option maxRecDepth 100000
set_option maxHeartbeats 4000000
abbrev ze183_0 : List AV := [dv (.pointer none), aa, dv (.slice none 0 0), dv (.slice none 0 0), aa, aa, dv (.int .i64 0), dv (.int .i64 0)]
abbrev ze183_1 : St := ⟨[dv (.pointer none), aa, dv (.slice none 0 0), dv (.slice none 0 0), aa, aa, dv (.int .i64 0), dv (.int .i64 0), dv (.bool false)], []⟩
-- (*quaestor/net.Net).All
theorem nil_All : Holds Try.prog 20 ⟨[dv (.pointer none)], [], slV false false (k_api_Packet false) ([] : List api_Packet), []⟩ := by
 refine Holds.of Try.func20 rfl (N := 23) Try.ntmps20 rfl fun w0 B0 S0 U0 => ?_
 show T _ (mkBase 23 0 w0 S0 U0 B0) ⟨[dv (.pointer none)], []⟩ _ _
 refine sR [] ?_
 refine sR [] ?_
 refine T.seq ?_
 refine sR [hR 1 rfl rfl (r_call (nil_Len  ) Try.func16 rfl (by decide) [] [] (l := [(.tmp 5, dv (.pointer none))]) [] rfl 0 0 rfl rfl rfl rfl rfl rfl rfl rfl rfl ⟨.inl ⟨rfl, rfl⟩, trivial⟩ rfl (fun b hb => by cases hb) (.inl rfl) (lt_of rfl) trivial)] ?_
 refine T.block ?_
 refine T.loop (ι := Unit) (fun (x_ : Unit) => ⟨ze183_0, []⟩) (fun (x_ : Unit) => True) (fun (x_ : Unit) => 0) (()) trivial (fun _ _ hG => Gs.into2 (s' := ⟨ze183_0, []⟩) [] (bm 8 205) (t1 := ze183_0) (h1 := []) rfl rfl (by kernel_rfl) (by kernel_rfl) (by kernel_rfl) (by kernel_rfl) (by kernel_rfl) (by kernel_rfl) (by kernel_rfl) (by kernel_rfl) (by kernel_rfl) (by kernel_rfl) (by kernel_rfl) hG) ?_
 rintro _ _
 show T _ _ ⟨ze183_0, []⟩ _ _
 refine sR [] ?_
 refine T.seq ?_
 refine cF (b := false) rfl ?_
 refine T.exit ?_
 refine xT ?_
 refine xT ?_
 refine xH ?_
 refine nT ?_
 refine sR [] ?_
 refine T.ret ?_
 refine Ends.turn (s' := ze183_1) (fun _ _ hG => Gs.norm (by kernel_rfl) hG) ?_
 refine Ends.turn (s' := ⟨[dv (.pointer none), aa, slV false false (k_api_Packet false) ([] : List api_Packet), dv (.slice none 0 0), aa, aa, dv (.int .i64 0), dv (.int .i64 0), dv (.bool false)], []⟩) (fun _ _ hG => Gs.less (s := ze183_1) (kk2 ⟨(.inr ⟨rfl, rfl, rfl⟩), (kk2 (kk4 trivial))⟩) trivial hG) ?_
 exact tE (.inl rfl) [.t 2 (.one (.d (dsl false false (k_api_Packet false) ([] : List api_Packet))))] ⟨⟨rfl, by kernel_rfl⟩, trivial⟩ [] rfl rfl rfl rfl rfl rfl trivial
end Go.Proofs.Ytioenfjcbikbcaa.Q
namespace Go.Proofs.Ytioenfjcbikbcaa.Q
open Go Go.RowKit
set_option linter.unusedVariables false
set_option linter.unusedSimpArgs false
set_option maxRecDepth 100000
set_option maxHeartbeats 4000000
theorem fld_31_1 : FieldAt Try.prog 31 1 1 := ⟨_, _, _, Try.underlying31, rfl, iat_3, by decide, rfl⟩
theorem fld_31_2 : FieldAt Try.prog 31 2 2 := ⟨_, _, _, Try.underlying31, rfl, iat_29, by decide, rfl⟩
-- quaestor/quaestorlaw20.NetNone
theorem law_NetNone (x : quaestorlaw20_Act) : Holds Try.prog 8 ⟨[.tv (.agg [.d (.val (.int .i64 x.f_Kind)), .d (.val (.int .i64 x.f_N)), .d (.val (.int .i64 x.f_E.f_Signer)), .d (dsl false false kU8 x.f_E.f_Body)])], [], dv (.bool true), []⟩ := by
 refine Holds.of Try.func8 rfl (N := 58) Try.ntmps8 rfl fun w0 B0 S0 U0 => ?_
 show T _ (mkBase 58 0 w0 S0 U0 B0) ⟨[.tv (.agg [.d (.val (.int .i64 x.f_Kind)), .d (.val (.int .i64 x.f_N)), .d (.val (.int .i64 x.f_E.f_Signer)), .d (dsl false false kU8 x.f_E.f_Body)])], []⟩ _ _
 refine sR [] ?_
 refine sR [] ?_
 refine sR [hR 3 rfl rfl (r_call (nil_At x.f_N ) Try.func14 rfl (by decide) [] [] (l := [(.tmp 9, dv (.pointer none)), (.tmp 11, dv (.int .i64 x.f_N))]) [] rfl 0 0 rfl rfl rfl rfl rfl rfl rfl rfl rfl ⟨.inl ⟨rfl, rfl⟩, ⟨.inl ⟨rfl, rfl⟩, trivial⟩⟩ rfl (fun b hb => by cases hb) (.inl rfl) (lt_of rfl) trivial)] ?_
 refine sR [hR 3 rfl rfl (r_call (nil_Take x.f_N ) Try.func12 rfl (by decide) [] [] (l := [(.tmp 16, dv (.pointer none)), (.tmp 18, dv (.int .i64 x.f_N))]) [] rfl 0 0 rfl rfl rfl rfl rfl rfl rfl rfl rfl ⟨.inl ⟨rfl, rfl⟩, ⟨.inl ⟨rfl, rfl⟩, trivial⟩⟩ rfl (fun b hb => by cases hb) (.inl rfl) (lt_of rfl) trivial)] ?_
 by_cases hq1 : ((([] : List api_Packet).length : Nat) : Int) = 0
 ·refine sR [hR 5 rfl rfl (r_call (nil_Send false x.f_N x.f_E ) Try.func11 rfl (by decide) [] [] (l := [(.tmp 22, dv (.pointer none)), (.tmp 24, dv (.int .i64 x.f_N)), (.tmp 26, .tv (.agg [.d (.val (.int .i64 x.f_E.f_Signer)), .d (dsl false false kU8 x.f_E.f_Body)]))]) [] rfl 0 0 rfl rfl rfl rfl rfl rfl rfl rfl rfl ⟨.inl ⟨rfl, rfl⟩, ⟨.inl ⟨rfl, rfl⟩, ⟨⟨.inl ⟨rfl, rfl⟩, ⟨.inl ⟨rfl, rfl⟩, trivial⟩⟩, trivial⟩⟩⟩ rfl (fun b hb => by cases hb) (.inl rfl) (lt_of rfl) trivial),
    hY 8 (b := true) (w := true) rfl,
    hY 9 (b := true) (w := true) rfl,
    hY 10 (b := true) (w := true) rfl,
    hS 11 (oY (b := true) rfl rfl rfl rfl (lt_of rfl) rfl (r_call (nil_Twice x.f_N ) Try.func15 rfl (by decide) [] [] (l := [(.tmp 30, dv (.pointer none)), (.tmp 32, dv (.int .i64 x.f_N))]) [] rfl 0 0 rfl rfl rfl rfl rfl rfl rfl rfl rfl ⟨.inl ⟨rfl, rfl⟩, ⟨.inl ⟨rfl, rfl⟩, trivial⟩⟩ rfl (fun b hb => by cases hb) (.inl rfl) (lt_of rfl) (by exact trivial))),
    hY 12 (b := true) (w := true) rfl,
    hP 13 (b := true) (w := true) rfl,
    hY 15 (b := true) (w := true) rfl,
    hY 16 (b := true) (w := true) rfl,
    hP 17 (b := true) (w := true) rfl,
    hY 19 (b := true) (w := true) rfl,
    hY 20 (b := true) (w := true) rfl,
    hP 21 (b := true) (w := true) rfl,
    hY 23 (b := true) (w := true) rfl,
    hS 24 (oY (b := true) rfl rfl rfl rfl (lt_of rfl) rfl (r_call (nil_Len  ) Try.func16 rfl (by decide) [] [] (l := [(.tmp 45, dv (.pointer none))]) [] rfl 0 0 rfl rfl rfl rfl rfl rfl rfl rfl rfl ⟨.inl ⟨rfl, rfl⟩, trivial⟩ rfl (fun b hb => by cases hb) (.inl rfl) (lt_of rfl) (by exact trivial))),
    hY 25 (b := true) (w := true) rfl,
    hP 26 (b := true) (w := true) rfl,
    hY 28 (b := true) (w := true) rfl,
    hS 29 (oY (b := true) rfl rfl rfl rfl (lt_of rfl) rfl (r_call (nil_All  ) Try.func20 rfl (by decide) [] [] (l := [(.tmp 50, dv (.pointer none))]) [] rfl 0 0 rfl rfl rfl rfl rfl rfl rfl rfl rfl ⟨.inl ⟨rfl, rfl⟩, trivial⟩ rfl (fun b hb => by cases hb) (.inl rfl) (lt_of rfl) (by exact trivial))),
    hY 30 (b := true) (w := true) rfl,
    hY 31 (b := true) (w := true) rfl,
    hP 32 (b := true) (w := true) rfl,
    hS 34 (oY rfl rfl rfl rfl (lt_of rfl) (decide_eq_true hq1) (r_call (awake_true  ) Try.func17 rfl (by decide) [] [] (l := []) [] rfl 0 0 rfl rfl rfl rfl rfl rfl rfl rfl rfl trivial rfl (fun b hb => by cases hb) (.inl rfl) (lt_of rfl) (by exact trivial))),
    hP 35 (decide_eq_true hq1)] ?_
  refine T.ret ?_
  exact tE (.inl rfl) [.t 2 (.one (.d (.val (.bool true))))] ⟨⟨rfl, by kernel_rfl⟩, trivial⟩ [] rfl rfl rfl rfl rfl rfl trivial
 ·exact absurd rfl hq1
end Go.Proofs.Ytioenfjcbikbcaa.Q
namespace Go.Proofs.Ytioenfjcbikbcaa.Q
open Go Go.RowKit
set_option linter.unusedVariables false
set_option linter.unusedSimpArgs false
set_option maxRecDepth 100000
set_option maxHeartbeats 4000000
abbrev zc0b2_0 (l : List api_Packet) (n : Int) : HS := .live (.box 54 [.own 1 (k_api_Packet false).sz 0 l.length, .d (.val (.int .i64 n))])
abbrev zc0b2_1 (l : List api_Packet) : HS := .live (arrK 35 (k_api_Packet false) l)
abbrev zc0b2_2 (l : List api_Packet) : AV := dv (.int .i64 ((l.length : Nat) : Int))
abbrev zc0b2_3 (l : List api_Packet) : List AV := [pv 0 0, aa, dv (.slice none 0 0), ownV 2 (k_api_Packet false) 0 0, aa, aa, (zc0b2_2 l), dv (.int .i64 0)]
abbrev zc0b2_4 (l : List api_Packet) (n : Int) (k : Nat) : List HS := [(zc0b2_0 l n), (zc0b2_1 l), .live (arrK 35 (k_api_Packet false) (l.take k))]
abbrev zc0b2_5 (l : List api_Packet) (n : Int) (k : Nat) : St := ⟨[pv 0 0, aa, dv (.slice none 0 0), ownV 2 (k_api_Packet false) 0 (l.take k).length, aa, aa, (zc0b2_2 l), dv (.int .i64 ((k : Nat) : Int))], (zc0b2_4 l n k)⟩
abbrev zc0b2_6 (l : List api_Packet) : List AV := [pv 0 0, aa, dv (.slice none 0 0), ownV 2 (k_api_Packet false) 0 (l.take 0).length, aa, aa, (zc0b2_2 l), dv (.int .i64 0)]
abbrev zc0b2_7 (l : List api_Packet) (k : Nat) : TV := .agg [.d (.val (.int .i64 (l.getD k z_api_Packet).f_Id)), .d (.val (.int .i64 (l.getD k z_api_Packet).f_To)), .d (.val (.int .i64 (l.getD k z_api_Packet).f_Env.f_Signer)), .d (dsl false false kU8 (l.getD k z_api_Packet).f_Env.f_Body)]
abbrev zc0b2_8 (k : Nat) : AV := dv (.int .i64 ((k + 1 : Nat) : Int))
abbrev zc0b2_9 (l : List api_Packet) (k : Nat) : List AV := [pv 0 0, aa, ownV 2 (k_api_Packet false) 0 (l.take k).length, ownV 2 (k_api_Packet false) 0 (l.take k).length, aa, aa, (zc0b2_2 l), dv (.int .i64 ((k : Nat) : Int)), dv (.bool (decide (((k : Nat) : Int) < ((l.length : Nat) : Int))))]
-- (*quaestor/net.Net).All
theorem net_All (l : List api_Packet) (n : Int) (hs : smallN ⟨l, n⟩) : Holds Try.prog 20 ⟨[pv 0 0], [.box 54 [.own 1 (k_api_Packet false).sz 0 l.length, .d (.val (.int .i64 n))], arrK 35 (k_api_Packet false) l], slV false false (k_api_Packet false) l, [.live (.box 54 [.own 1 (k_api_Packet false).sz 0 l.length, .d (.val (.int .i64 n))]), .live (arrK 35 (k_api_Packet false) l)]⟩ := by
 refine Holds.of Try.func20 rfl (N := 23) Try.ntmps20 rfl fun w0 B0 S0 U0 => ?_
 show T _ (mkBase 23 2 w0 S0 U0 B0) ⟨[pv 0 0], [(zc0b2_0 l n), (zc0b2_1 l)]⟩ _ _
 have hlen := hs.1
 simp only at hlen
 refine sR [] ?_
 refine sR [] ?_
 refine T.seq ?_
 refine sR [hR 1 rfl rfl (r_call (net_Len l n ) Try.func16 rfl (by decide) [0, 1] [] (l := [(.tmp 5, pv 0 0)]) [] rfl 2 2 rfl rfl rfl rfl rfl rfl rfl rfl rfl ⟨.inl ⟨rfl, rfl⟩, trivial⟩ rfl (fun b hb => by cases hb) (.inl rfl) (lt_of rfl) trivial)] ?_
 refine T.block ?_
 refine T.turn (s' := ⟨[pv 0 0, aa, dv (.slice none 0 0), dv (.slice none 0 0), aa, aa, (zc0b2_2 l), dv (.int .i64 0)], [(zc0b2_0 l n), (zc0b2_1 l)]⟩) (fun _ _ hG => Gs.norm (by kernel_rfl) hG) ?_
 refine T.turn (s' := ⟨(zc0b2_3 l), [(zc0b2_0 l n), (zc0b2_1 l), .live (arrK 35 (k_api_Packet false) ([] : List api_Packet))]⟩) (fun _ _ hG => Gs.absent 2 3 35 (k_api_Packet false) rfl rfl hG) ?_
 refine T.loop (ι := Nat) (fun (k : Nat) => (zc0b2_5 l n k)) (fun (k : Nat) => (k ≤ l.length)) (fun (k : Nat) => l.length - k) (0) (Nat.zero_le _) (fun _ _ hG => Gs.into2 (s' := ⟨(zc0b2_6 l), [(zc0b2_0 l n), (zc0b2_1 l), .live (arrK 35 (k_api_Packet false) (l.take 0))]⟩) [0, 1, 2] (bm 8 205) (t1 := (zc0b2_6 l)) (t2 := (zc0b2_3 l)) (h1 := [(zc0b2_0 l n), (zc0b2_1 l), .live (arrK 35 (k_api_Packet false) (l.take 0))]) (h2 := [(zc0b2_0 l n), (zc0b2_1 l), .live (arrK 35 (k_api_Packet false) ([] : List api_Packet))]) (by have e1 : ((l.take 0).length : Nat) = 0 := (by simp); have hE := congrArg (fun (q1 : Nat) => ([pv 0 0, aa, dv (.slice none 0 0), ownV 2 (k_api_Packet false) 0 q1, aa, aa, (zc0b2_2 l), dv (.int .i64 0)] : List AV)) e1; exact hE) (by have e1 : ((l.take 0) : List api_Packet) = ([] : List api_Packet) := (by simp); have hE := congrArg (fun (q1 : List api_Packet) => ([(zc0b2_0 l n), (zc0b2_1 l), .live (arrK 35 (k_api_Packet false) q1)] : List HS)) e1; exact hE) (by kernel_rfl) (by kernel_rfl) (by kernel_rfl) (by kernel_rfl) (by kernel_rfl) (by kernel_rfl) (by kernel_rfl) (by kernel_rfl) (by kernel_rfl) (by kernel_rfl) (by kernel_rfl) hG) ?_
 rintro k hk
 show T _ _ (zc0b2_5 l n k) _ _
 replace hk : k ≤ l.length := hk
 have hsk := small_getD hs k
 simp only [smallE] at hsk
 refine sR [] ?_
 refine T.seq ?_
 by_cases hq1 : ((k : Nat) : Int) < ((l.length : Nat) : Int)
 ·refine cT (decide_eq_true hq1) ?_
  refine T.skip ?_
  refine nT ?_
  refine T.seq ?_
  refine T.block ?_
  refine sR [] ?_
  refine xR [hR 6 rfl rfl (r_indexO (k := .i64) (l := 1) (sz := (k_api_Packet false).sz) (off := 0) (n := l.length) (i := ((k : Nat) : Int)) (m := k) (o' := k * (k_api_Packet false).sz + 0) Try.underlying44 iat_35 rfl rfl (by first | assumption | omega | (unfold maxLen; omega) | (simp [maxLen, -List.getD_eq_getElem?_getD] <;> omega) | decide) (by first | rfl | simp) (lt_of rfl) trivial),
    hR 7 rfl rfl (r_loadAs (l := 1) (off := k * (k_api_Packet false).sz + 0) (i := k) (j := 0) (T := 35) (sz := (k_api_Packet false).sz) (n := l.length) (el := elOf (k_api_Packet false) l) (ds := [.d (.val (.int .i64 (l.getD k z_api_Packet).f_Id)), .d (.val (.int .i64 (l.getD k z_api_Packet).f_To)), .d (.val (.int .i64 (l.getD k z_api_Packet).f_Env.f_Signer)), .d (dsl false false kU8 (l.getD k z_api_Packet).f_Env.f_Body)]) wide_35 rfl (by first | assumption | omega | (unfold maxLen; omega) | (simp [maxLen, -List.getD_eq_getElem?_getD] <;> omega) | decide) (by decide) rfl (lt_of rfl) trivial),
    hR 8 rfl rfl (r_call (net_twin false (l.getD k z_api_Packet) (by first | assumption | omega | (unfold maxLen; omega) | (simp [maxLen, -List.getD_eq_getElem?_getD] <;> omega) | decide)) Try.func23 rfl (by decide) [] [] (l := [(.tmp 17, .tv ((zc0b2_7 l k)))]) [] rfl 0 0 rfl rfl rfl rfl rfl rfl rfl rfl rfl ⟨⟨.inl ⟨rfl, rfl⟩, ⟨.inl ⟨rfl, rfl⟩, ⟨.inl ⟨rfl, rfl⟩, ⟨.inl ⟨rfl, rfl⟩, trivial⟩⟩⟩⟩, trivial⟩ rfl (fun b hb => by cases hb) (.inl rfl) (lt_of rfl) trivial),
    hR 9 rfl rfl (q_buildSlice 3 35 (k_api_Packet false) (k_api_Packet_ok false) [(l.getD k z_api_Packet)] [⟨0, .tmp 18, (zc0b2_7 l k), 0⟩] (cs := [.d (.val (.int .i64 (l.getD k z_api_Packet).f_Id)), .d (.val (.int .i64 (l.getD k z_api_Packet).f_To)), .d (.val (.int .i64 (l.getD k z_api_Packet).f_Env.f_Signer)), .d (dsl false false kU8 (l.getD k z_api_Packet).f_Env.f_Body)]) Try.underlying44 iat_35 rfl zero_35 rfl rfl rfl (Nat.le_of_ble_eq_true rfl) (part_cons rfl rfl (Nat.le_of_ble_eq_true rfl) part_ok) (by kernel_rfl) (wk_eq (by kernel_rfl)) (lt_of rfl) trivial),
    hR 10 rfl rfl (q_appendO 2 4 35 48 (k_api_Packet false) (k_api_Packet_ok false) (l.take k) [(l.getD k z_api_Packet)] ((l.take k) ++ [(l.getD k z_api_Packet)]) (l.take k).length (sy := (.own 3 (k_api_Packet false).sz 0 [(l.getD k z_api_Packet)].length)) (rhs := [(3, .live (arrK 35 (k_api_Packet false) [(l.getD k z_api_Packet)]))]) elem_44 (by first | assumption | omega | (unfold maxLen; omega) | (simp [maxLen, -List.getD_eq_getElem?_getD] <;> omega) | decide) (src_own 3 35 (k_api_Packet false) [(l.getD k z_api_Packet)]) (by rw [List.take_length]) (by first | assumption | omega | (unfold maxLen; omega) | (simp [maxLen, -List.getD_eq_getElem?_getD] <;> omega) | decide) (by first | assumption | omega | (unfold maxLen; omega) | (simp [maxLen, -List.getD_eq_getElem?_getD] <;> omega) | decide) (lt_of rfl) trivial)] (by kernel_rfl) (by kernel_rfl) ?_
  refine nB ?_
  refine nT ?_
  refine xR [hR 0 rfl rfl (r_bin (u1 := .int .i64 ((k : Nat) : Int)) (u2 := .int .i64 1) (v := .int .i64 ((k + 1 : Nat) : Int)) (b_add (by rw [IntKind.wrap_i64]; omega)) (lt_of rfl) ⟨rfl, trivial⟩)] (by kernel_rfl) (by kernel_rfl) ?_
  refine nL (k + 1) (show (k + 1) ≤ l.length from (by omega)) (show (l.length - (k + 1) : Nat) < l.length - k from (by omega)) (fun _ _ hG => Gs.into2 (s' := ⟨[pv 0 0, aa, dv (.slice none 0 0), ownV 2 (k_api_Packet false) 0 (l.take (k + 1)).length, aa, aa, (zc0b2_2 l), (zc0b2_8 k)], [(zc0b2_0 l n), (zc0b2_1 l), .live (arrK 35 (k_api_Packet false) (l.take (k + 1)))]⟩) [0, 1, 4] (bm 8 205) (t1 := [pv 0 0, aa, dv (.slice none 0 0), ownV 4 (k_api_Packet false) 0 (l.take (k + 1)).length, aa, aa, (zc0b2_2 l), (zc0b2_8 k)]) (t2 := [pv 0 0, aa, dv (.slice none 0 0), ownV 4 (k_api_Packet false) 0 ((l.take k) ++ [(l.getD k z_api_Packet)]).length, aa, aa, (zc0b2_2 l), (zc0b2_8 k)]) (h1 := [(zc0b2_0 l n), (zc0b2_1 l), .live (arrK 35 (k_api_Packet false) (l.take (k + 1)))]) (h2 := [(zc0b2_0 l n), (zc0b2_1 l), .live (arrK 35 (k_api_Packet false) ((l.take k) ++ [(l.getD k z_api_Packet)]))]) (by have e1 : ((l.take (k + 1)).length : Nat) = ((l.take k) ++ [(l.getD k z_api_Packet)]).length := (by rw [tk_succ (z := z_api_Packet) (l := l) (k := k) (by omega)]); have hE := congrArg (fun (q1 : Nat) => ([pv 0 0, aa, dv (.slice none 0 0), ownV 4 (k_api_Packet false) 0 q1, aa, aa, (zc0b2_2 l), (zc0b2_8 k)] : List AV)) e1; exact hE) (by have e1 : ((l.take (k + 1)) : List api_Packet) = (l.take k) ++ [(l.getD k z_api_Packet)] := (by rw [tk_succ (z := z_api_Packet) (l := l) (k := k) (by omega)]); have hE := congrArg (fun (q1 : List api_Packet) => ([(zc0b2_0 l n), (zc0b2_1 l), .live (arrK 35 (k_api_Packet false) q1)] : List HS)) e1; exact hE) (by kernel_rfl) (by kernel_rfl) (by kernel_rfl) (by kernel_rfl) (by kernel_rfl) (by kernel_rfl) (by kernel_rfl) (by kernel_rfl) (by kernel_rfl) (by kernel_rfl) (by kernel_rfl) hG)
 ·refine cF (decide_eq_false hq1) ?_
  refine T.exit ?_
  refine xT ?_
  refine xT ?_
  refine xH ?_
  refine nT ?_
  refine sR [] ?_
  refine T.ret ?_
  refine Ends.turn (s' := ⟨(zc0b2_9 l k), (zc0b2_4 l n k)⟩) (fun _ _ hG => Gs.norm (by kernel_rfl) hG) ?_
  refine Ends.turn (s' := ⟨[pv 0 0, aa, slV false false (k_api_Packet false) (l.take k), slV false false (k_api_Packet false) (l.take k), aa, aa, (zc0b2_2 l), dv (.int .i64 ((k : Nat) : Int)), dv (.bool (decide (((k : Nat) : Int) < ((l.length : Nat) : Int))))], [(zc0b2_0 l n), (zc0b2_1 l), .dead]⟩) (fun _ _ hG => Gs.freeze (s := ⟨(zc0b2_9 l k), (zc0b2_4 l n k)⟩) 2 (el := elOf (k_api_Packet false) (l.take k)) (sz := (k_api_Packet false).sz) (n := (l.take k).length) rfl (kk2 ⟨(.inr (.inr ⟨rfl, rfl, rfl, (fun h => by cases h), rfl, rfl, Nat.le_of_eq (Nat.zero_add _), fun i j _ => by rw [Nat.zero_add]⟩)), ⟨(.inr (.inr ⟨rfl, rfl, rfl, (fun h => by cases h), rfl, rfl, Nat.le_of_eq (Nat.zero_add _), fun i j _ => by rw [Nat.zero_add]⟩)), ⟨.inl rfl, (kk4 trivial)⟩⟩⟩) ⟨(.inr ⟨by decide, .inl rfl⟩), ⟨(.inr ⟨by decide, .inl rfl⟩), ⟨(.inl ⟨rfl, rfl⟩), trivial⟩⟩⟩ hG) ?_
  exact tE (.inl rfl) [.t 2 (.one (.d (dsl false false (k_api_Packet false) (l.take k))))] ⟨⟨rfl, by kernel_rfl⟩, trivial⟩ [0, 1] (by have e1 : (l : List api_Packet) = (l.take k) := (by rw [List.take_of_length_le (by omega)]); have hE := congrArg (fun (q1 : List api_Packet) => (slV false false (k_api_Packet false) q1 : AV)) e1; exact hE) rfl rfl rfl rfl rfl ⟨⟨rfl, (by kernel_rfl)⟩, ⟨⟨rfl, (by kernel_rfl)⟩, trivial⟩⟩
end Go.Proofs.Ytioenfjcbikbcaa.Q
namespace Go.Proofs.Ytioenfjcbikbcaa.Q
open Go Go.RowKit
set_option linter.unusedVariables false
set_option linter.unusedSimpArgs false
set_option maxRecDepth 100000
set_option maxHeartbeats 4000000
theorem iat_31 : Try.prog.info? 31 = some Try.t31 := by kernel_rfl
abbrev z8ca7_0 (l : List quaestorlaw20_Act) : AV := slV false false (k_quaestorlaw20_Act false) l
abbrev z8ca7_1 (l : List quaestorlaw20_Act) : AV := dv (.bool (decide (((l.length : Nat) : Int) > 300)))
abbrev z8ca7_2 (l : List quaestorlaw20_Act) : List AV := [(z8ca7_0 l), aa, dv (.bool false), dv (.int .i64 0), aa, aa, (z8ca7_1 l)]
-- quaestor/quaestorlaw20.few
theorem law_few (l : List quaestorlaw20_Act) (hl : l.length ≤ 9223372036854775807) : Holds Try.prog 9 ⟨[slV false false (k_quaestorlaw20_Act false) l], [], dv (.bool (decide (fewA l))), []⟩ := by
 refine Holds.of Try.func9 rfl (N := 21) Try.ntmps9 rfl fun w0 B0 S0 U0 => ?_
 show T _ (mkBase 21 0 w0 S0 U0 B0) ⟨[(z8ca7_0 l)], []⟩ _ _
 refine sR [] ?_
 refine T.seq ?_
 refine sR [] ?_
 by_cases hq1 : ((l.length : Nat) : Int) > 300
 ·refine cT (decide_eq_true hq1) ?_
  refine sR [] ?_
  refine T.ret ?_
  refine rT ?_
  exact tE (.inl rfl) [.t 2 (.one (.d (.val (.bool false))))] ⟨⟨rfl, by kernel_rfl⟩, trivial⟩ [] (by have e1 : ((decide (fewA l)) : Bool) = false := (by first | exact decide_eq_false (few_no1 hq1) | exact decide_eq_false (few_no2 (by omega) hq3) | exact decide_eq_true (few_yes hq1 (by omega) hb)); have hE := congrArg (fun (q1 : Bool) => (dv (.bool q1) : AV)) e1; exact hE) rfl rfl rfl rfl rfl trivial
 ·refine cF (decide_eq_false hq1) ?_
  refine T.skip ?_
  refine nT ?_
  refine T.seq ?_
  refine sR [] ?_
  refine T.block ?_
  refine T.loop (ι := Nat) (fun (k : Nat) => ⟨[(z8ca7_0 l), aa, dv (.bool false), dv (.int .i64 ((k : Nat) : Int)), aa, aa, (z8ca7_1 l)], []⟩) (fun (k : Nat) => (k ≤ l.length) ∧ (∀ j, j < k → (l.getD j z_quaestorlaw20_Act).f_E.f_Body.length ≤ 200)) (fun (k : Nat) => l.length - k) (0) ⟨(Nat.zero_le _), (fun j hj => absurd hj (Nat.not_lt_zero _))⟩ (fun _ _ hG => Gs.into2 (s' := ⟨(z8ca7_2 l), []⟩) [] (bm 7 77) (t1 := (z8ca7_2 l)) (h1 := []) rfl rfl (by kernel_rfl) (by kernel_rfl) (by kernel_rfl) (by kernel_rfl) (by kernel_rfl) (by kernel_rfl) (by kernel_rfl) (by kernel_rfl) (by kernel_rfl) (by kernel_rfl) (by kernel_rfl) hG) ?_
  rintro k ⟨hk, hb⟩
  show T _ _ ⟨[(z8ca7_0 l), aa, dv (.bool false), dv (.int .i64 ((k : Nat) : Int)), aa, aa, (z8ca7_1 l)], []⟩ _ _
  replace hk : k ≤ l.length := hk
  replace hb : ∀ j, j < k → (l.getD j z_quaestorlaw20_Act).f_E.f_Body.length ≤ 200 := hb
  refine T.seq ?_
  refine sR [] ?_
  by_cases hq2 : ((k : Nat) : Int) < ((l.length : Nat) : Int)
  ·refine cT (decide_eq_true hq2) ?_
   refine T.skip ?_
   refine nT ?_
   refine T.seq ?_
   refine T.block ?_
   refine sR [hR 2 rfl rfl (q_index false false (k_quaestorlaw20_Act false) l k (k := .i64) (i := ((k : Nat) : Int)) Try.underlying22 iat_31 rfl rfl (by first | assumption | omega | (unfold maxLen; omega) | (simp [maxLen, -List.getD_eq_getElem?_getD] <;> omega) | decide) (lt_of rfl) trivial)] ?_
   by_cases hq3 : (((l.getD k z_quaestorlaw20_Act).f_E.f_Body.length : Nat) : Int) > 200
   ·refine cT (decide_eq_true hq3) ?_
    refine sR [] ?_
    refine T.ret ?_
    refine rB ?_
    refine rT ?_
    refine rT ?_
    refine rB ?_
    refine rT ?_
    exact tE (.inl rfl) [.t 2 (.one (.d (.val (.bool false))))] ⟨⟨rfl, by kernel_rfl⟩, trivial⟩ [] (by have e1 : ((decide (fewA l)) : Bool) = false := (by first | exact decide_eq_false (few_no1 hq1) | exact decide_eq_false (few_no2 (by omega) hq3) | exact decide_eq_true (few_yes hq1 (by omega) hb)); have hE := congrArg (fun (q1 : Bool) => (dv (.bool q1) : AV)) e1; exact hE) rfl rfl rfl rfl rfl trivial
   ·refine cF (decide_eq_false hq3) ?_
    refine T.skip ?_
    refine nB ?_
    refine nT ?_
    refine xR [hR 1 rfl rfl (r_bin (u1 := .int .i64 ((k : Nat) : Int)) (u2 := .int .i64 1) (v := .int .i64 ((k + 1 : Nat) : Int)) (b_add (by rw [IntKind.wrap_i64]; omega)) (lt_of rfl) ⟨rfl, trivial⟩)] (by kernel_rfl) (by kernel_rfl) ?_
    refine nL (k + 1) ⟨(show (k + 1) ≤ l.length from (by omega)), (show ∀ j, j < (k + 1) → (l.getD j z_quaestorlaw20_Act).f_E.f_Body.length ≤ 200 from (all_succ hb (by omega)))⟩ (show (l.length - (k + 1) : Nat) < l.length - k from (by omega)) (fun _ _ hG => Gs.into2 (s' := ⟨[(z8ca7_0 l), aa, dv (.bool false), dv (.int .i64 ((k + 1 : Nat) : Int)), aa, aa, (z8ca7_1 l)], []⟩) [] (bm 7 77) (t1 := [(z8ca7_0 l), aa, dv (.bool false), dv (.int .i64 ((k + 1 : Nat) : Int)), aa, aa, (z8ca7_1 l)]) (h1 := []) rfl rfl (by kernel_rfl) (by kernel_rfl) (by kernel_rfl) (by kernel_rfl) (by kernel_rfl) (by kernel_rfl) (by kernel_rfl) (by kernel_rfl) (by kernel_rfl) (by kernel_rfl) (by kernel_rfl) hG)
  ·refine cF (decide_eq_false hq2) ?_
   refine T.exit ?_
   refine xT ?_
   refine xT ?_
   refine xH ?_
   refine nT ?_
   refine sR [] ?_
   refine T.ret ?_
   exact tE (.inl rfl) [.t 2 (.one (.d (.val (.bool true))))] ⟨⟨rfl, by kernel_rfl⟩, trivial⟩ [] (by have e1 : ((decide (fewA l)) : Bool) = true := (by first | exact decide_eq_false (few_no1 hq1) | exact decide_eq_false (few_no2 (by omega) hq3) | exact decide_eq_true (few_yes hq1 (by omega) hb)); have hE := congrArg (fun (q1 : Bool) => (dv (.bool q1) : AV)) e1; exact hE) rfl rfl rfl rfl rfl trivial
end Go.Proofs.Ytioenfjcbikbcaa.Q
namespace Go.Proofs.Ytioenfjcbikbcaa.Q
open Go Go.RowKit
set_option linter.unusedVariables false
set_option linter.unusedSimpArgs false
set_option maxRecDepth 100000
set_option maxHeartbeats 4000000
abbrev z6f83_0 (a : List api_Packet) (b : List api_Packet) : AV := dv (.bool (decide (((a.length : Nat) : Int) ≠ ((b.length : Nat) : Int))))
-- quaestor/quaestorref20.All
theorem ref20_All (ta : Bool) (na : Bool) (sa : Bool) (tb : Bool) (nb : Bool) (sb : Bool) (a : List api_Packet) (b : List api_Packet) (hl : a.length ≤ 9223372036854775807) : Holds Try.prog 19 ⟨[slV ta na (k_api_Packet sa) a, slV tb nb (k_api_Packet sb) b], [], dv (.bool (decide (a = b))), []⟩ := by
 refine Holds.of Try.func19 rfl (N := 27) Try.ntmps19 rfl fun w0 B0 S0 U0 => ?_
 show T _ (mkBase 27 0 w0 S0 U0 B0) ⟨[slV ta na (k_api_Packet sa) a, slV tb nb (k_api_Packet sb) b], []⟩ _ _
 refine sR [] ?_
 refine T.seq ?_
 refine sR [] ?_
 by_cases hq1 : ((a.length : Nat) : Int) ≠ ((b.length : Nat) : Int)
 ·refine cT (decide_eq_true hq1) ?_
  refine sR [] ?_
  refine T.ret ?_
  refine rT ?_
  exact tE (.inl rfl) [.t 4 (.one (.d (.val (.bool false))))] ⟨⟨rfl, by kernel_rfl⟩, trivial⟩ [] (by have e1 : ((decide (a = b)) : Bool) = false := (by first | exact decide_eq_false (fun h => hq1 (congrArg (fun (l : List api_Packet) => ((l.length : Nat) : Int)) h)) | exact decide_eq_false (fun h => hq3 (congrArg (fun (l : List api_Packet) => l.getD k z_api_Packet) h)) | exact decide_eq_true (rows_eq (z := z_api_Packet) (k := k) (by omega) (by omega) hb)); have hE := congrArg (fun (q1 : Bool) => (dv (.bool q1) : AV)) e1; exact hE) rfl rfl rfl rfl rfl trivial
 ·refine cF (decide_eq_false hq1) ?_
  refine T.skip ?_
  refine nT ?_
  refine T.seq ?_
  refine sR [] ?_
  refine T.block ?_
  refine T.loop (ι := Nat) (fun (k : Nat) => ⟨[slV ta na (k_api_Packet sa) a, slV tb nb (k_api_Packet sb) b, aa, aa, dv (.bool false), dv (.int .i64 ((k : Nat) : Int)), aa, aa, aa, aa, (z6f83_0 a b)], []⟩) (fun (k : Nat) => (k ≤ a.length) ∧ (∀ j, j < k → a.getD j z_api_Packet = b.getD j z_api_Packet)) (fun (k : Nat) => a.length - k) (0) ⟨(Nat.zero_le _), (fun j hj => absurd hj (Nat.not_lt_zero _))⟩ (fun _ _ hG => Gs.into2 (s' := ⟨[slV ta na (k_api_Packet sa) a, slV tb nb (k_api_Packet sb) b, aa, aa, dv (.bool false), dv (.int .i64 0), aa, aa, aa, aa, (z6f83_0 a b)], []⟩) [] (bm 11 1075) (t1 := [slV ta na (k_api_Packet sa) a, slV tb nb (k_api_Packet sb) b, aa, aa, dv (.bool false), dv (.int .i64 0), aa, aa, aa, aa, (z6f83_0 a b)]) (h1 := []) rfl rfl (by kernel_rfl) (by kernel_rfl) (by kernel_rfl) (by kernel_rfl) (by kernel_rfl) (by kernel_rfl) (by kernel_rfl) (by kernel_rfl) (by kernel_rfl) (by kernel_rfl) (by kernel_rfl) hG) ?_
  rintro k ⟨hk, hb⟩
  show T _ _ ⟨[slV ta na (k_api_Packet sa) a, slV tb nb (k_api_Packet sb) b, aa, aa, dv (.bool false), dv (.int .i64 ((k : Nat) : Int)), aa, aa, aa, aa, (z6f83_0 a b)], []⟩ _ _
  replace hk : k ≤ a.length := hk
  replace hb : ∀ j, j < k → a.getD j z_api_Packet = b.getD j z_api_Packet := hb
  refine T.seq ?_
  refine sR [] ?_
  by_cases hq2 : ((k : Nat) : Int) < ((a.length : Nat) : Int)
  ·refine cT (decide_eq_true hq2) ?_
   refine T.skip ?_
   refine nT ?_
   refine T.seq ?_
   refine T.block ?_
   refine sD [[], [], [0, 1], [0, 1, 2], [], [], [4, 5], [4, 5, 6], [0, 1, 2, 3, 4, 5, 6, 7], [0, 1, 2, 3, 4, 5, 6, 7, 8]] [hR 2 rfl rfl (q_index ta na (k_api_Packet sa) a k (k := .i64) (i := ((k : Nat) : Int)) Try.underlying44 iat_35 rfl rfl (by first | assumption | omega | (unfold maxLen; omega) | (simp [maxLen, -List.getD_eq_getElem?_getD] <;> omega) | decide) (lt_of rfl) trivial),
     hR 6 rfl rfl (q_index tb nb (k_api_Packet sb) b k (k := .i64) (i := ((k : Nat) : Int)) Try.underlying44 iat_35 rfl rfl (by first | assumption | omega | (unfold maxLen; omega) | (simp [maxLen, -List.getD_eq_getElem?_getD] <;> omega) | decide) (lt_of rfl) trivial),
     hR 8 rfl rfl (r_call (ref20_Same sa sb (a.getD k z_api_Packet) (b.getD k z_api_Packet) ) Try.func13 rfl (by decide) [] [] (l := [(.tmp 20, .tv (.agg [.d (.val (.int .i64 (a.getD k z_api_Packet).f_Id)), .d (.val (.int .i64 (a.getD k z_api_Packet).f_To)), .d (.val (.int .i64 (a.getD k z_api_Packet).f_Env.f_Signer)), .d (dsl sa false kU8 (a.getD k z_api_Packet).f_Env.f_Body)])), (.tmp 24, .tv (.agg [.d (.val (.int .i64 (b.getD k z_api_Packet).f_Id)), .d (.val (.int .i64 (b.getD k z_api_Packet).f_To)), .d (.val (.int .i64 (b.getD k z_api_Packet).f_Env.f_Signer)), .d (dsl sb false kU8 (b.getD k z_api_Packet).f_Env.f_Body)]))]) [] rfl 0 0 rfl rfl rfl rfl rfl rfl rfl rfl rfl ⟨⟨.inl ⟨rfl, rfl⟩, ⟨.inl ⟨rfl, rfl⟩, ⟨.inl ⟨rfl, rfl⟩, ⟨.inl ⟨rfl, rfl⟩, trivial⟩⟩⟩⟩, ⟨⟨.inl ⟨rfl, rfl⟩, ⟨.inl ⟨rfl, rfl⟩, ⟨.inl ⟨rfl, rfl⟩, ⟨.inl ⟨rfl, rfl⟩, trivial⟩⟩⟩⟩, trivial⟩⟩ rfl (fun b hb => by cases hb) (.inl rfl) (lt_of rfl) trivial)] ?_
   by_cases hq3 : (a.getD k z_api_Packet) = (b.getD k z_api_Packet)
   ·refine cF (congrArg Bool.not (decide_eq_true hq3)) ?_
    refine T.skip ?_
    refine nB ?_
    refine nT ?_
    refine xR [hR 1 rfl rfl (r_bin (u1 := .int .i64 ((k : Nat) : Int)) (u2 := .int .i64 1) (v := .int .i64 ((k + 1 : Nat) : Int)) (b_add (by rw [IntKind.wrap_i64]; omega)) (lt_of rfl) ⟨rfl, trivial⟩)] (by kernel_rfl) (by kernel_rfl) ?_
    refine nL (k + 1) ⟨(show (k + 1) ≤ a.length from (by omega)), (show ∀ j, j < (k + 1) → a.getD j z_api_Packet = b.getD j z_api_Packet from (all_succ hb (by assumption)))⟩ (show (a.length - (k + 1) : Nat) < a.length - k from (by omega)) (fun _ _ hG => Gs.into2 (s' := ⟨[slV ta na (k_api_Packet sa) a, slV tb nb (k_api_Packet sb) b, aa, aa, dv (.bool false), dv (.int .i64 ((k + 1 : Nat) : Int)), aa, aa, aa, aa, (z6f83_0 a b)], []⟩) [] (bm 11 1075) (t1 := [slV ta na (k_api_Packet sa) a, slV tb nb (k_api_Packet sb) b, aa, aa, dv (.bool false), dv (.int .i64 ((k + 1 : Nat) : Int)), aa, aa, aa, aa, (z6f83_0 a b)]) (h1 := []) rfl rfl (by kernel_rfl) (by kernel_rfl) (by kernel_rfl) (by kernel_rfl) (by kernel_rfl) (by kernel_rfl) (by kernel_rfl) (by kernel_rfl) (by kernel_rfl) (by kernel_rfl) (by kernel_rfl) hG)
   ·refine cT (congrArg Bool.not (decide_eq_false hq3)) ?_
    refine sR [] ?_
    refine T.ret ?_
    refine rB ?_
    refine rT ?_
    refine rT ?_
    refine rB ?_
    refine rT ?_
    exact tE (.inl rfl) [.t 4 (.one (.d (.val (.bool false))))] ⟨⟨rfl, by kernel_rfl⟩, trivial⟩ [] (by have e1 : ((decide (a = b)) : Bool) = false := (by first | exact decide_eq_false (fun h => hq1 (congrArg (fun (l : List api_Packet) => ((l.length : Nat) : Int)) h)) | exact decide_eq_false (fun h => hq3 (congrArg (fun (l : List api_Packet) => l.getD k z_api_Packet) h)) | exact decide_eq_true (rows_eq (z := z_api_Packet) (k := k) (by omega) (by omega) hb)); have hE := congrArg (fun (q1 : Bool) => (dv (.bool q1) : AV)) e1; exact hE) rfl rfl rfl rfl rfl trivial
  ·refine cF (decide_eq_false hq2) ?_
   refine T.exit ?_
   refine xT ?_
   refine xT ?_
   refine xH ?_
   refine nT ?_
   refine sR [] ?_
   refine T.ret ?_
   exact tE (.inl rfl) [.t 4 (.one (.d (.val (.bool true))))] ⟨⟨rfl, by kernel_rfl⟩, trivial⟩ [] (by have e1 : ((decide (a = b)) : Bool) = true := (by first | exact decide_eq_false (fun h => hq1 (congrArg (fun (l : List api_Packet) => ((l.length : Nat) : Int)) h)) | exact decide_eq_false (fun h => hq3 (congrArg (fun (l : List api_Packet) => l.getD k z_api_Packet) h)) | exact decide_eq_true (rows_eq (z := z_api_Packet) (k := k) (by omega) (by omega) hb)); have hE := congrArg (fun (q1 : Bool) => (dv (.bool q1) : AV)) e1; exact hE) rfl rfl rfl rfl rfl trivial
end Go.Proofs.Ytioenfjcbikbcaa.Q
