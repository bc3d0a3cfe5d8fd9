import Derived.Test.YtafkobdlcahdbaaC01n0
namespace Go.Proofs.Ytafkobdlcahdbaa.Q
open Go Go.RowKit
set_option linter.unusedVariables false
set_option linter.unusedSimpArgs false
set_option maxRecDepth 100000
set_option maxHeartbeats 4000000
-- quaestor/wire.PutInt
theorem wire_PutInt (tb : Bool) (nb : Bool) (b : List UInt8) (n : Int) (hb : b.length ≤ 140737488355000) : Holds Try.prog 23 ⟨[slV tb nb kU8 b, dv (.int .i64 n)], [], ownV 0 kU8 0 (b ++ intB n).length, [.live (arrK 5 kU8 (b ++ intB n))]⟩ := by
  refine Holds.of Try.func23 rfl (N := 9) Try.ntmps23 rfl fun w0 B0 S0 U0 => ?_
  show T _ (mkBase 9 0 w0 S0 U0 B0) ⟨[slV tb nb kU8 b, dv (.int .i64 n)], []⟩ _ _
  have hn := u64_lt n
  refine T.seq ?_
  refine tR (s1 := ⟨[slV tb nb kU8 b, dv (.int .i64 n), AV.any, AV.any, dv (.slice none 0 0)], []⟩) [true, true, false, false, true] []
    (oC (oS rfl rfl (r_assign (av := dv (.slice none 0 0)) (lt_of rfl) ⟨rfl, trivial⟩)) (oZ rfl))
    (by kernel_rfl) (by kernel_rfl) ?_
  refine nT ?_
  refine T.seq ?_
  refine tR (s1 := ⟨[slV tb nb kU8 b, dv (.int .i64 n), AV.any, AV.any, ownV 0 kU8 0 (b ++ (spellB (u64 n) 8)).length], [.live (arrK 5 kU8 (b ++ (spellB (u64 n) 8)))]⟩) [true, true, false, false, true] [true]
    (oC (oS rfl rfl (r_move (av := slV tb nb kU8 b) (lt_of rfl) trivial))
    (oC (oS rfl rfl (r_move (av := dv (.int .i64 n)) (lt_of rfl) trivial))
    (oC (oS rfl rfl (r_conv (u := .int .i64 n) (v := .int .u64 ((u64 n : Nat) : Int)) (c_u64 Try.underlying2 Try.underlying48) (lt_of rfl) trivial))
    (oC (oS rfl rfl (r_call (wire_spell tb nb b (u64 n) 7 (by first | assumption | omega | (simp only [maxLen, kU8_sz, kSl_sz, k_quaestorlaw01_Item_sz]; omega) | (simp only [maxLen, kU8_sz, kSl_sz, k_quaestorlaw01_Item_sz, List.length_append, List.length_cons, List.length_nil, List.length_take, List.length_drop, List.length_set]; omega) | decide) (by first | assumption | omega | (simp only [maxLen, kU8_sz, kSl_sz, k_quaestorlaw01_Item_sz]; omega) | (simp only [maxLen, kU8_sz, kSl_sz, k_quaestorlaw01_Item_sz, List.length_append, List.length_cons, List.length_nil, List.length_take, List.length_drop, List.length_set]; omega) | decide) (by first | assumption | omega | (simp only [maxLen, kU8_sz, kSl_sz, k_quaestorlaw01_Item_sz]; omega) | (simp only [maxLen, kU8_sz, kSl_sz, k_quaestorlaw01_Item_sz, List.length_append, List.length_cons, List.length_nil, List.length_take, List.length_drop, List.length_set]; omega) | decide)) Try.func48 rfl (by decide) [0] [] (l := [(.tmp 5, slV tb nb kU8 b), (.tmp 7, dv (.int .u64 ((u64 n : Nat) : Int))), (.const (.int .i64 8), dv (.int .i64 8))]) [] rfl 0 1 rfl rfl rfl rfl rfl rfl rfl rfl rfl ⟨.inl ⟨rfl, rfl⟩, ⟨.inl ⟨rfl, rfl⟩, ⟨.inl ⟨rfl, rfl⟩, trivial⟩⟩⟩ rfl (fun b hb => by cases hb) (.inl rfl) (lt_of rfl) ⟨rfl, trivial⟩))
    (oC (oS rfl rfl (r_assign (av := ownV 0 kU8 0 (b ++ (spellB (u64 n) 8)).length) (lt_of rfl) trivial)) (oZ rfl))))))
    (by kernel_rfl) (by kernel_rfl) ?_
  refine nT ?_
  refine T.ret ?_
  exact tE (.inl rfl) [.t 4 (.one (.own 0 kU8.sz 0 (b ++ (spellB (u64 n) 8)).length))] ⟨⟨rfl, rfl⟩, trivial⟩ [0] (by have e1 : ((b ++ intB n).length : Nat) = (b ++ (spellB (u64 n) 8)).length := (by first | rfl | (simp; done)); have hE := congrArg (fun (q1 : Nat) => (ownV 0 kU8 0 q1 : AV)) e1; exact hE) rfl rfl rfl rfl rfl ⟨⟨rfl, (by have e1 : (b ++ (spellB (u64 n) 8) : List UInt8) = b ++ intB n := (by first | rfl | (simp; done)); have hE := congrArg (fun (q1 : List UInt8) => (.live (arrK 5 kU8 q1) : HS)) e1; exact hE)⟩, trivial⟩

-- quaestor/wire.PutBool
theorem wire_PutBool (tb : Bool) (nb : Bool) (b : List UInt8) (x : Bool) (hb : b.length ≤ 140737488355000) : Holds Try.prog 25 ⟨[slV tb nb kU8 b, dv (.bool x)], [], ownV 0 kU8 0 (b ++ boolB x).length, [.live (arrK 5 kU8 (b ++ boolB x))]⟩ := by
  refine Holds.of Try.func25 rfl (N := 12) Try.ntmps25 rfl fun w0 B0 S0 U0 => ?_
  show T _ (mkBase 12 0 w0 S0 U0 B0) ⟨[slV tb nb kU8 b, dv (.bool x)], []⟩ _ _
  refine T.seq ?_
  refine tR (s1 := ⟨[slV tb nb kU8 b, dv (.bool x), AV.any, AV.any, dv (.slice none 0 0)], []⟩) [true, true, false, false, true] []
    (oC (oS rfl rfl (r_assign (av := dv (.slice none 0 0)) (lt_of rfl) ⟨rfl, trivial⟩)) (oZ rfl))
    (by kernel_rfl) (by kernel_rfl) ?_
  refine nT ?_
  refine T.seq ?_
  refine tR (s1 := ⟨[slV tb nb kU8 b, dv (.bool x), AV.any, AV.any, dv (.slice none 0 0), dv (.int .u8 0)], []⟩) [true, true, false, false, true, true] []
    (oC (oS rfl rfl (r_assign (av := dv (.int .u8 0)) (lt_of rfl) ⟨rfl, trivial⟩)) (oZ rfl))
    (by kernel_rfl) (by kernel_rfl) ?_
  refine nT ?_
  refine T.seq ?_
  refine T.seq ?_
  refine tR (s1 := ⟨[slV tb nb kU8 b, dv (.bool x), AV.any, AV.any, dv (.slice none 0 0), dv (.int .u8 0), dv (.bool x)], []⟩) [true, true, false, false, true, true, true] []
    (oC (oS rfl rfl (r_move (av := dv (.bool x)) (lt_of rfl) trivial)) (oZ rfl))
    (by kernel_rfl) (by kernel_rfl) ?_
  refine nT ?_
  by_cases hq1 : x = true
  · refine T.condT (b := x) rfl hq1 ?_
    refine tR (s1 := ⟨[slV tb nb kU8 b, dv (.bool x), AV.any, AV.any, dv (.slice none 0 0), dv (.int .u8 1), dv (.bool x)], []⟩) [true, true, false, false, true, true, true] []
      (oC (oS rfl rfl (r_assign (av := dv (.int .u8 1)) (lt_of rfl) ⟨rfl, trivial⟩)) (oZ rfl))
      (by kernel_rfl) (by kernel_rfl) ?_
    refine nT ?_
    refine T.seq ?_
    refine tR (s1 := ⟨[slV tb nb kU8 b, dv (.bool x), AV.any, AV.any, ownV 1 kU8 0 (b ++ [(1 : UInt8)]).length, dv (.int .u8 1), dv (.bool x)], [.live (arrK 5 kU8 [(1 : UInt8)]), .live (arrK 5 kU8 (b ++ [(1 : UInt8)]))]⟩) [true, true, false, false, true, true, true] [true, true]
      (oC (oS rfl rfl (r_move (av := slV tb nb kU8 b) (lt_of rfl) trivial))
      (oC (oS rfl rfl (r_call (clip_u8 tb nb b ) Try.func50 rfl (by decide) [] [] (l := [(.tmp 7, slV tb nb kU8 b)]) [] rfl 0 0 rfl rfl rfl rfl rfl rfl rfl rfl rfl ⟨.inl ⟨rfl, rfl⟩, trivial⟩ rfl (fun b hb => by cases hb) (.inl rfl) (lt_of rfl) trivial))
      (oC (oS rfl rfl (r_move (av := dv (.int .u8 1)) (lt_of rfl) trivial))
      (oC (oS rfl rfl (q_buildSlice 0 5 kU8 kU8_ok [(1 : UInt8)] [⟨0, .tmp 9, .one (.d (.val (.int .u8 1))), 0⟩] (cs := [.d (.val (.int .u8 1))]) Try.underlying24 iat_5 rfl zero_5 rfl rfl rfl (Nat.le_of_ble_eq_true rfl) (part_cons rfl rfl (Nat.le_of_ble_eq_true rfl) part_ok) rfl ⟨(.inl rfl), trivial⟩ (lt_of rfl) trivial))
      (oC (oS rfl rfl (q_appendC 1 5 1 tb nb kU8 kU8_ok b [(1 : UInt8)] (b ++ [(1 : UInt8)]) (sy := (.own 0 kU8.sz 0 [(1 : UInt8)].length)) (rhs := [(0, .live (arrK 5 kU8 [(1 : UInt8)]))]) elem_24 (by first | assumption | omega | (simp only [maxLen, kU8_sz, kSl_sz, k_quaestorlaw01_Item_sz]; omega) | (simp only [maxLen, kU8_sz, kSl_sz, k_quaestorlaw01_Item_sz, List.length_append, List.length_cons, List.length_nil, List.length_take, List.length_drop, List.length_set]; omega) | decide) (src_own 0 5 kU8 [(1 : UInt8)]) rfl (by first | assumption | omega | (simp only [maxLen, kU8_sz, kSl_sz, k_quaestorlaw01_Item_sz]; omega) | (simp only [maxLen, kU8_sz, kSl_sz, k_quaestorlaw01_Item_sz, List.length_append, List.length_cons, List.length_nil, List.length_take, List.length_drop, List.length_set]; omega) | decide) (by first | assumption | omega | (simp only [maxLen, kU8_sz, kSl_sz, k_quaestorlaw01_Item_sz]; omega) | (simp only [maxLen, kU8_sz, kSl_sz, k_quaestorlaw01_Item_sz, List.length_append, List.length_cons, List.length_nil, List.length_take, List.length_drop, List.length_set]; omega) | decide) (lt_of rfl) trivial))
      (oC (oS rfl rfl (r_assign (av := ownV 1 kU8 0 (b ++ [(1 : UInt8)]).length) (lt_of rfl) trivial)) (oZ rfl)))))))
      (by kernel_rfl) (by kernel_rfl) ?_
    refine nT ?_
    refine T.ret ?_
    exact tE (.inl rfl) [.t 4 (.one (.own 1 kU8.sz 0 (b ++ [(1 : UInt8)]).length))] ⟨⟨rfl, rfl⟩, trivial⟩ [1] (by have e1 : ((b ++ boolB x).length : Nat) = (b ++ [(1 : UInt8)]).length := (by first | rfl | (simp [boolB, *]; done)); have hE := congrArg (fun (q1 : Nat) => (ownV 1 kU8 0 q1 : AV)) e1; exact hE) rfl rfl rfl rfl rfl ⟨⟨rfl, (by have e1 : (b ++ [(1 : UInt8)] : List UInt8) = b ++ boolB x := (by first | rfl | (simp [boolB, *]; done)); have hE := congrArg (fun (q1 : List UInt8) => (.live (arrK 5 kU8 q1) : HS)) e1; exact hE)⟩, trivial⟩
  · replace hq1 := Bool.eq_false_iff.2 hq1
    refine T.condF (b := x) rfl hq1 ?_
    refine T.skip ?_
    refine nT ?_
    refine T.seq ?_
    refine tR (s1 := ⟨[slV tb nb kU8 b, dv (.bool x), AV.any, AV.any, ownV 1 kU8 0 (b ++ [(0 : UInt8)]).length, dv (.int .u8 0), dv (.bool x)], [.live (arrK 5 kU8 [(0 : UInt8)]), .live (arrK 5 kU8 (b ++ [(0 : UInt8)]))]⟩) [true, true, false, false, true, true, true] [true, true]
      (oC (oS rfl rfl (r_move (av := slV tb nb kU8 b) (lt_of rfl) trivial))
      (oC (oS rfl rfl (r_call (clip_u8 tb nb b ) Try.func50 rfl (by decide) [] [] (l := [(.tmp 7, slV tb nb kU8 b)]) [] rfl 0 0 rfl rfl rfl rfl rfl rfl rfl rfl rfl ⟨.inl ⟨rfl, rfl⟩, trivial⟩ rfl (fun b hb => by cases hb) (.inl rfl) (lt_of rfl) trivial))
      (oC (oS rfl rfl (r_move (av := dv (.int .u8 0)) (lt_of rfl) trivial))
      (oC (oS rfl rfl (q_buildSlice 0 5 kU8 kU8_ok [(0 : UInt8)] [⟨0, .tmp 9, .one (.d (.val (.int .u8 0))), 0⟩] (cs := [.d (.val (.int .u8 0))]) Try.underlying24 iat_5 rfl zero_5 rfl rfl rfl (Nat.le_of_ble_eq_true rfl) (part_cons rfl rfl (Nat.le_of_ble_eq_true rfl) part_ok) rfl ⟨(.inl rfl), trivial⟩ (lt_of rfl) trivial))
      (oC (oS rfl rfl (q_appendC 1 5 1 tb nb kU8 kU8_ok b [(0 : UInt8)] (b ++ [(0 : UInt8)]) (sy := (.own 0 kU8.sz 0 [(0 : UInt8)].length)) (rhs := [(0, .live (arrK 5 kU8 [(0 : UInt8)]))]) elem_24 (by first | assumption | omega | (simp only [maxLen, kU8_sz, kSl_sz, k_quaestorlaw01_Item_sz]; omega) | (simp only [maxLen, kU8_sz, kSl_sz, k_quaestorlaw01_Item_sz, List.length_append, List.length_cons, List.length_nil, List.length_take, List.length_drop, List.length_set]; omega) | decide) (src_own 0 5 kU8 [(0 : UInt8)]) rfl (by first | assumption | omega | (simp only [maxLen, kU8_sz, kSl_sz, k_quaestorlaw01_Item_sz]; omega) | (simp only [maxLen, kU8_sz, kSl_sz, k_quaestorlaw01_Item_sz, List.length_append, List.length_cons, List.length_nil, List.length_take, List.length_drop, List.length_set]; omega) | decide) (by first | assumption | omega | (simp only [maxLen, kU8_sz, kSl_sz, k_quaestorlaw01_Item_sz]; omega) | (simp only [maxLen, kU8_sz, kSl_sz, k_quaestorlaw01_Item_sz, List.length_append, List.length_cons, List.length_nil, List.length_take, List.length_drop, List.length_set]; omega) | decide) (lt_of rfl) trivial))
      (oC (oS rfl rfl (r_assign (av := ownV 1 kU8 0 (b ++ [(0 : UInt8)]).length) (lt_of rfl) trivial)) (oZ rfl)))))))
      (by kernel_rfl) (by kernel_rfl) ?_
    refine nT ?_
    refine T.ret ?_
    exact tE (.inl rfl) [.t 4 (.one (.own 1 kU8.sz 0 (b ++ [(0 : UInt8)]).length))] ⟨⟨rfl, rfl⟩, trivial⟩ [1] (by have e1 : ((b ++ boolB x).length : Nat) = (b ++ [(0 : UInt8)]).length := (by first | rfl | (simp [boolB, *]; done)); have hE := congrArg (fun (q1 : Nat) => (ownV 1 kU8 0 q1 : AV)) e1; exact hE) rfl rfl rfl rfl rfl ⟨⟨rfl, (by have e1 : (b ++ [(0 : UInt8)] : List UInt8) = b ++ boolB x := (by first | rfl | (simp [boolB, *]; done)); have hE := congrArg (fun (q1 : List UInt8) => (.live (arrK 5 kU8 q1) : HS)) e1; exact hE)⟩, trivial⟩

-- quaestor/wire.PutCount
theorem wire_PutCount (tb : Bool) (nb : Bool) (b : List UInt8) (n : Int) (hb : b.length ≤ 140737488355000) : Holds Try.prog 27 ⟨[slV tb nb kU8 b, dv (.int .i64 n)], [], ownV 0 kU8 0 (b ++ cntB n).length, [.live (arrK 5 kU8 (b ++ cntB n))]⟩ := by
  refine Holds.of Try.func27 rfl (N := 11) Try.ntmps27 rfl fun w0 B0 S0 U0 => ?_
  show T _ (mkBase 11 0 w0 S0 U0 B0) ⟨[slV tb nb kU8 b, dv (.int .i64 n)], []⟩ _ _
  have hn := cntN_lt n
  refine T.seq ?_
  refine tR (s1 := ⟨[slV tb nb kU8 b, dv (.int .i64 n), AV.any, AV.any, dv (.slice none 0 0)], []⟩) [true, true, false, false, true] []
    (oC (oS rfl rfl (r_assign (av := dv (.slice none 0 0)) (lt_of rfl) ⟨rfl, trivial⟩)) (oZ rfl))
    (by kernel_rfl) (by kernel_rfl) ?_
  refine nT ?_
  refine T.seq ?_
  refine tR (s1 := ⟨[slV tb nb kU8 b, dv (.int .i64 n), AV.any, AV.any, ownV 0 kU8 0 (b ++ (spellB (cntN n) 4)).length], [.live (arrK 5 kU8 (b ++ (spellB (cntN n) 4)))]⟩) [true, true, false, false, true] [true]
    (oC (oS rfl rfl (r_move (av := slV tb nb kU8 b) (lt_of rfl) trivial))
    (oC (oS rfl rfl (r_move (av := dv (.int .i64 n)) (lt_of rfl) trivial))
    (oC (oS rfl rfl (r_max (k := .i64) (a := n) (b := 0) (lt_of rfl) ⟨rfl, trivial⟩))
    (oC (oS rfl rfl (r_min (k := .i64) (a := max n 0) (b := 4294967295) (lt_of rfl) ⟨rfl, trivial⟩))
    (oC (oS rfl rfl (r_conv (u := .int .i64 (min (max n 0) 4294967295)) (v := .int .u64 ((cntN n : Nat) : Int)) (c_int Try.underlying3 Try.underlying48 (by rw [IntKind.wrap_u64]; unfold cntN; omega)) (lt_of rfl) trivial))
    (oC (oS rfl rfl (r_call (wire_spell tb nb b (cntN n) 3 (by first | assumption | omega | (simp only [maxLen, kU8_sz, kSl_sz, k_quaestorlaw01_Item_sz]; omega) | (simp only [maxLen, kU8_sz, kSl_sz, k_quaestorlaw01_Item_sz, List.length_append, List.length_cons, List.length_nil, List.length_take, List.length_drop, List.length_set]; omega) | decide) (by first | assumption | omega | (simp only [maxLen, kU8_sz, kSl_sz, k_quaestorlaw01_Item_sz]; omega) | (simp only [maxLen, kU8_sz, kSl_sz, k_quaestorlaw01_Item_sz, List.length_append, List.length_cons, List.length_nil, List.length_take, List.length_drop, List.length_set]; omega) | decide) (by first | assumption | omega | (simp only [maxLen, kU8_sz, kSl_sz, k_quaestorlaw01_Item_sz]; omega) | (simp only [maxLen, kU8_sz, kSl_sz, k_quaestorlaw01_Item_sz, List.length_append, List.length_cons, List.length_nil, List.length_take, List.length_drop, List.length_set]; omega) | decide)) Try.func48 rfl (by decide) [0] [] (l := [(.tmp 5, slV tb nb kU8 b), (.tmp 9, dv (.int .u64 ((cntN n : Nat) : Int))), (.const (.int .i64 4), dv (.int .i64 4))]) [] rfl 0 1 rfl rfl rfl rfl rfl rfl rfl rfl rfl ⟨.inl ⟨rfl, rfl⟩, ⟨.inl ⟨rfl, rfl⟩, ⟨.inl ⟨rfl, rfl⟩, trivial⟩⟩⟩ rfl (fun b hb => by cases hb) (.inl rfl) (lt_of rfl) ⟨rfl, trivial⟩))
    (oC (oS rfl rfl (r_assign (av := ownV 0 kU8 0 (b ++ (spellB (cntN n) 4)).length) (lt_of rfl) trivial)) (oZ rfl))))))))
    (by kernel_rfl) (by kernel_rfl) ?_
  refine nT ?_
  refine T.ret ?_
  exact tE (.inl rfl) [.t 4 (.one (.own 0 kU8.sz 0 (b ++ (spellB (cntN n) 4)).length))] ⟨⟨rfl, rfl⟩, trivial⟩ [0] (by have e1 : ((b ++ cntB n).length : Nat) = (b ++ (spellB (cntN n) 4)).length := (by first | rfl | (simp; done)); have hE := congrArg (fun (q1 : Nat) => (ownV 0 kU8 0 q1 : AV)) e1; exact hE) rfl rfl rfl rfl rfl ⟨⟨rfl, (by have e1 : (b ++ (spellB (cntN n) 4) : List UInt8) = b ++ cntB n := (by first | rfl | (simp; done)); have hE := congrArg (fun (q1 : List UInt8) => (.live (arrK 5 kU8 q1) : HS)) e1; exact hE)⟩, trivial⟩

-- quaestor/wire.PutBytes
theorem wire_PutBytes (tb : Bool) (nb : Bool) (b : List UInt8) (tx : Bool) (nx : Bool) (x : List UInt8) (hb : b.length + x.length ≤ 140737488355000) : Holds Try.prog 29 ⟨[slV tb nb kU8 b, slV tx nx kU8 x], [], ownV 0 kU8 0 (b ++ bytesB x).length, [.live (arrK 5 kU8 (b ++ bytesB x))]⟩ := by
  refine Holds.of Try.func29 rfl (N := 11) Try.ntmps29 rfl fun w0 B0 S0 U0 => ?_
  show T _ (mkBase 11 0 w0 S0 U0 B0) ⟨[slV tb nb kU8 b, slV tx nx kU8 x], []⟩ _ _
  have hcl := cnt_len ((x.length : Nat) : Int)
  refine T.seq ?_
  refine tR (s1 := ⟨[slV tb nb kU8 b, slV tx nx kU8 x, AV.any, AV.any, dv (.slice none 0 0)], []⟩) [true, true, false, false, true] []
    (oC (oS rfl rfl (r_assign (av := dv (.slice none 0 0)) (lt_of rfl) ⟨rfl, trivial⟩)) (oZ rfl))
    (by kernel_rfl) (by kernel_rfl) ?_
  refine nT ?_
  refine T.seq ?_
  refine tR (s1 := ⟨[slV tb nb kU8 b, slV tx nx kU8 x, AV.any, AV.any, ownV 1 kU8 0 (b ++ cntB ((x.length : Nat) : Int) ++ x).length], [.dead, .live (arrK 5 kU8 (b ++ cntB ((x.length : Nat) : Int) ++ x))]⟩) [true, true, false, false, true] [true, true]
    (oC (oS rfl rfl (r_move (av := slV tb nb kU8 b) (lt_of rfl) trivial))
    (oC (oS rfl rfl (r_move (av := slV tx nx kU8 x) (lt_of rfl) trivial))
    (oC (oS rfl rfl (q_len tx nx kU8 x Try.underlying24 (lt_of rfl) trivial))
    (oC (oS rfl rfl (r_call (wire_PutCount tb nb b ((x.length : Nat) : Int) (by first | assumption | omega | (simp only [maxLen, kU8_sz, kSl_sz, k_quaestorlaw01_Item_sz]; omega) | (simp only [maxLen, kU8_sz, kSl_sz, k_quaestorlaw01_Item_sz, List.length_append, List.length_cons, List.length_nil, List.length_take, List.length_drop, List.length_set]; omega) | decide)) Try.func27 rfl (by decide) [0] [] (l := [(.tmp 5, slV tb nb kU8 b), (.tmp 7, dv (.int .i64 ((x.length : Nat) : Int)))]) [] rfl 0 1 rfl rfl rfl rfl rfl rfl rfl rfl rfl ⟨.inl ⟨rfl, rfl⟩, ⟨.inl ⟨rfl, rfl⟩, trivial⟩⟩ rfl (fun b hb => by cases hb) (.inl rfl) (lt_of rfl) trivial))
    (oC (oS rfl rfl (r_move (av := slV tx nx kU8 x) (lt_of rfl) trivial))
    (oC (oS rfl rfl (q_appendO 0 1 5 1 kU8 kU8_ok (b ++ cntB ((x.length : Nat) : Int)) x (b ++ cntB ((x.length : Nat) : Int) ++ x) (b ++ cntB ((x.length : Nat) : Int)).length (sy := (.d (dsl tx nx kU8 x))) (rhs := []) elem_24 (by first | assumption | omega | (simp only [maxLen, kU8_sz, kSl_sz, k_quaestorlaw01_Item_sz]; omega) | (simp only [maxLen, kU8_sz, kSl_sz, k_quaestorlaw01_Item_sz, List.length_append, List.length_cons, List.length_nil, List.length_take, List.length_drop, List.length_set]; omega) | decide) (src_sl tx nx kU8 x) (by rw [List.take_length]) (by first | assumption | omega | (simp only [maxLen, kU8_sz, kSl_sz, k_quaestorlaw01_Item_sz]; omega) | (simp only [maxLen, kU8_sz, kSl_sz, k_quaestorlaw01_Item_sz, List.length_append, List.length_cons, List.length_nil, List.length_take, List.length_drop, List.length_set]; omega) | decide) (by first | assumption | omega | (simp only [maxLen, kU8_sz, kSl_sz, k_quaestorlaw01_Item_sz]; omega) | (simp only [maxLen, kU8_sz, kSl_sz, k_quaestorlaw01_Item_sz, List.length_append, List.length_cons, List.length_nil, List.length_take, List.length_drop, List.length_set]; omega) | decide) (lt_of rfl) trivial))
    (oC (oS rfl rfl (r_assign (av := ownV 1 kU8 0 (b ++ cntB ((x.length : Nat) : Int) ++ x).length) (lt_of rfl) trivial)) (oZ rfl))))))))
    (by kernel_rfl) (by kernel_rfl) ?_
  refine nT ?_
  refine T.ret ?_
  exact tE (.inl rfl) [.t 4 (.one (.own 1 kU8.sz 0 (b ++ cntB ((x.length : Nat) : Int) ++ x).length))] ⟨⟨rfl, rfl⟩, trivial⟩ [1] (by have e1 : ((b ++ bytesB x).length : Nat) = (b ++ cntB ((x.length : Nat) : Int) ++ x).length := (by first | rfl | (simp only [bytesB, List.append_assoc])); have hE := congrArg (fun (q1 : Nat) => (ownV 1 kU8 0 q1 : AV)) e1; exact hE) rfl rfl rfl rfl rfl ⟨⟨rfl, (by have e1 : (b ++ cntB ((x.length : Nat) : Int) ++ x : List UInt8) = b ++ bytesB x := (by first | rfl | (simp only [bytesB, List.append_assoc])); have hE := congrArg (fun (q1 : List UInt8) => (.live (arrK 5 kU8 q1) : HS)) e1; exact hE)⟩, trivial⟩
end Go.Proofs.Ytafkobdlcahdbaa.Q
