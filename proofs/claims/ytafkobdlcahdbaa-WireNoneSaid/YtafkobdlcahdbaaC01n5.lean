import Derived.Test.YtafkobdlcahdbaaC01n4
namespace Go.Proofs.Ytafkobdlcahdbaa.Q
open Go Go.RowKit
set_option linter.unusedVariables false
set_option linter.unusedSimpArgs false
set_option maxRecDepth 100000
set_option maxHeartbeats 4000000
-- (quaestor/wire.limit).may
theorem wire_may (most : Int) (tb : Bool) (nb : Bool) (b : List UInt8) (hb : b.length ≤ 4) : Holds Try.prog 44 ⟨[dv (.int .i64 most), slV tb nb kU8 b], [], dv (.int .i64 (limE most b)), []⟩ := by
  refine Holds.of Try.func44 rfl (N := 11) Try.ntmps44 rfl fun w0 B0 S0 U0 => ?_
  show T _ (mkBase 11 0 w0 S0 U0 B0) ⟨[dv (.int .i64 most), slV tb nb kU8 b], []⟩ _ _
  have hnb := numL_lt4 hb
  refine T.seq ?_
  refine tR (s1 := ⟨[dv (.int .i64 most), slV tb nb kU8 b, AV.any, AV.any, dv (.int .i64 0)], []⟩) [true, true, false, false, true] []
    (oC (oS rfl rfl (r_assign (av := dv (.int .i64 0)) (lt_of rfl) ⟨rfl, trivial⟩)) (oZ rfl))
    (by kernel_rfl) (by kernel_rfl) ?_
  refine nT ?_
  refine T.seq ?_
  refine T.seq ?_
  refine tR (s1 := ⟨[dv (.int .i64 most), slV tb nb kU8 b, AV.any, AV.any, dv (.int .i64 0), AV.any, AV.any, AV.any, AV.any, AV.any, dv (.bool (decide (((numL b : Nat) : Int) > (max most 0))))], []⟩) [true, true, false, false, true, false, false, false, false, false, true] []
    (oC (oS rfl rfl (r_move (av := slV tb nb kU8 b) (lt_of rfl) trivial))
    (oC (oS rfl rfl (r_call (wire_number tb nb b (by first | assumption | omega | (simp only [maxLen, kU8_sz, kSl_sz, k_quaestorlaw01_Item_sz]; omega) | (simp only [maxLen, kU8_sz, kSl_sz, k_quaestorlaw01_Item_sz, List.length_append, List.length_cons, List.length_nil, List.length_take, List.length_drop, List.length_set]; omega) | decide)) Try.func42 rfl (by decide) [] [] (l := [(.tmp 5, slV tb nb kU8 b)]) [] rfl 0 0 rfl rfl rfl rfl rfl rfl rfl rfl rfl ⟨.inl ⟨rfl, rfl⟩, trivial⟩ rfl (fun b hb => by cases hb) (.inl rfl) (lt_of rfl) trivial))
    (oC (oS rfl rfl (r_conv (u := .int .u64 ((numL b : Nat) : Int)) (v := .int .i64 ((numL b : Nat) : Int)) (c_int Try.underlying48 Try.underlying3 (by rw [IntKind.wrap_i64]; omega)) (lt_of rfl) trivial))
    (oC (oS rfl rfl (r_move (av := dv (.int .i64 most)) (lt_of rfl) trivial))
    (oC (oS rfl rfl (r_max (k := .i64) (a := most) (b := 0) (lt_of rfl) ⟨rfl, trivial⟩))
    (oC (oS rfl rfl (r_bin (u1 := .int .i64 ((numL b : Nat) : Int)) (u2 := .int .i64 (max most 0)) (v := .bool (decide (((numL b : Nat) : Int) > (max most 0)))) b_gtr (lt_of rfl) trivial)) (oZ rfl)))))))
    (by kernel_rfl) (by kernel_rfl) ?_
  refine nT ?_
  by_cases hq1 : ((numL b : Nat) : Int) > (max most 0)
  · refine T.condT (b := (decide (((numL b : Nat) : Int) > (max most 0)))) rfl (decide_eq_true hq1) ?_
    refine T.seq ?_
    refine tR (s1 := ⟨[dv (.int .i64 most), slV tb nb kU8 b, AV.any, AV.any, dv (.int .i64 11), AV.any, AV.any, AV.any, AV.any, AV.any, dv (.bool (decide (((numL b : Nat) : Int) > (max most 0))))], []⟩) [true, true, false, false, true, false, false, false, false, false, true] []
      (oC (oS rfl rfl (r_assign (av := dv (.int .i64 11)) (lt_of rfl) ⟨rfl, trivial⟩)) (oZ rfl))
      (by kernel_rfl) (by kernel_rfl) ?_
    refine nT ?_
    refine T.ret ?_
    refine rT ?_
    exact tE (.inl rfl) [.t 4 (.one (.d (.val (.int .i64 11))))] ⟨⟨rfl, rfl⟩, trivial⟩ [] (by have e1 : (limE most b : Int) = 11 := (by first | rfl | (simp only [limE]; first | rw [if_pos (by assumption)] | rw [if_neg (by assumption)])); have hE := congrArg (fun (q1 : Int) => (dv (.int .i64 q1) : AV)) e1; exact hE) rfl rfl rfl rfl rfl trivial
  · refine T.condF (b := (decide (((numL b : Nat) : Int) > (max most 0)))) rfl (decide_eq_false hq1) ?_
    refine T.skip ?_
    refine nT ?_
    refine T.seq ?_
    refine tR (s1 := ⟨[dv (.int .i64 most), slV tb nb kU8 b, AV.any, AV.any, dv (.int .i64 0), AV.any, AV.any, AV.any, AV.any, AV.any, dv (.bool (decide (((numL b : Nat) : Int) > (max most 0))))], []⟩) [true, true, false, false, true, false, false, false, false, false, true] []
      (oC (oS rfl rfl (r_assign (av := dv (.int .i64 0)) (lt_of rfl) ⟨rfl, trivial⟩)) (oZ rfl))
      (by kernel_rfl) (by kernel_rfl) ?_
    refine nT ?_
    refine T.ret ?_
    exact tE (.inl rfl) [.t 4 (.one (.d (.val (.int .i64 0))))] ⟨⟨rfl, rfl⟩, trivial⟩ [] (by have e1 : (limE most b : Int) = 0 := (by first | rfl | (simp only [limE]; first | rw [if_pos (by assumption)] | rw [if_neg (by assumption)])); have hE := congrArg (fun (q1 : Int) => (dv (.int .i64 q1) : AV)) e1; exact hE) rfl rfl rfl rfl rfl trivial

-- quaestor/wire.float
theorem wire_float (tb : Bool) (nb : Bool) (b : List UInt8) (hb : b.length ≤ 8) : Holds Try.prog 46 ⟨[slV tb nb kU8 b], [], dv (.int .i64 (floatE b)), []⟩ := by
  refine Holds.of Try.func46 rfl (N := 15) Try.ntmps46 rfl fun w0 B0 S0 U0 => ?_
  show T _ (mkBase 15 0 w0 S0 U0 B0) ⟨[slV tb nb kU8 b], []⟩ _ _
  refine T.seq ?_
  refine tR (s1 := ⟨[slV tb nb kU8 b, AV.any, dv (.int .i64 0)], []⟩) [true, false, true] []
    (oC (oS rfl rfl (r_assign (av := dv (.int .i64 0)) (lt_of rfl) ⟨rfl, trivial⟩)) (oZ rfl))
    (by kernel_rfl) (by kernel_rfl) ?_
  refine nT ?_
  refine T.seq ?_
  refine tR (s1 := ⟨[slV tb nb kU8 b, AV.any, dv (.int .i64 0), dv (.int .u64 ((numL b : Nat) : Int))], []⟩) [true, false, true, true] []
    (oC (oS rfl rfl (r_move (av := slV tb nb kU8 b) (lt_of rfl) trivial))
    (oC (oS rfl rfl (r_call (wire_number tb nb b (by first | assumption | omega | (simp only [maxLen, kU8_sz, kSl_sz, k_quaestorlaw01_Item_sz]; omega) | (simp only [maxLen, kU8_sz, kSl_sz, k_quaestorlaw01_Item_sz, List.length_append, List.length_cons, List.length_nil, List.length_take, List.length_drop, List.length_set]; omega) | decide)) Try.func42 rfl (by decide) [] [] (l := [(.tmp 5, slV tb nb kU8 b)]) [] rfl 0 0 rfl rfl rfl rfl rfl rfl rfl rfl rfl ⟨.inl ⟨rfl, rfl⟩, trivial⟩ rfl (fun b hb => by cases hb) (.inl rfl) (lt_of rfl) trivial))
    (oC (oS rfl rfl (r_assign (av := dv (.int .u64 ((numL b : Nat) : Int))) (lt_of rfl) trivial)) (oZ rfl))))
    (by kernel_rfl) (by kernel_rfl) ?_
  refine nT ?_
  refine T.seq ?_
  refine T.seq ?_
  refine tR (s1 := ⟨[slV tb nb kU8 b, AV.any, dv (.int .i64 0), dv (.int .u64 ((numL b : Nat) : Int)), dv (.float .f64 (numL b))], []⟩) [true, false, true, true, true] []
    (oC (oS rfl rfl (r_move (av := dv (.int .u64 ((numL b : Nat) : Int))) (lt_of rfl) trivial))
    (oC (oS rfl rfl (r_ext1 (u := .int .u64 ((numL b : Nat) : Int)) (v := .float .f64 (numL b)) (e := Extern.MathFloatBits.float64frombits) Try.func47 (by kernel_rfl) (by kernel_rfl) (by kernel_rfl) (by kernel_rfl) (fun w => rfl) (lt_of rfl) trivial))
    (oC (oS rfl rfl (r_assign (av := dv (.float .f64 (numL b))) (lt_of rfl) trivial)) (oZ rfl))))
    (by kernel_rfl) (by kernel_rfl) ?_
  refine nT ?_
  refine T.seq ?_
  by_cases hq1 : (nanB (numL b)) = true
  · refine tR (s1 := ⟨[slV tb nb kU8 b, AV.any, dv (.int .i64 0), dv (.int .u64 ((numL b : Nat) : Int)), dv (.float .f64 (numL b)), AV.any, AV.any, AV.any, AV.any, AV.any, AV.any, AV.any, AV.any, AV.any, dv (.bool (decide (((numL b : Nat) : Int) ≠ 9221120237041090561)))], []⟩) [true, false, true, true, true, false, false, false, false, false, false, false, false, false, true] []
      (oC (oS rfl rfl (r_move (av := dv (.float .f64 (numL b))) (lt_of rfl) trivial))
      (oC (oS rfl rfl (r_call (math_IsNaN (numL b) ) Try.func51 rfl (by decide) [] [] (l := [(.tmp 9, dv (.float .f64 (numL b)))]) [] rfl 0 0 rfl rfl rfl rfl rfl rfl rfl rfl rfl ⟨.inl ⟨rfl, rfl⟩, trivial⟩ rfl (fun b hb => by cases hb) (.inl rfl) (lt_of rfl) trivial))
      (oC (oS rfl rfl (r_move (av := dv (.bool (nanB (numL b)))) (lt_of rfl) trivial))
      (oC (oY (b := (nanB (numL b))) rfl rfl rfl rfl (lt_of rfl) hq1 (r_move (av := dv (.int .u64 ((numL b : Nat) : Int))) (lt_of rfl) trivial))
      (oC (oY (b := (nanB (numL b))) rfl rfl rfl rfl (lt_of rfl) hq1 (r_bin (u1 := .int .u64 ((numL b : Nat) : Int)) (u2 := .int .u64 9221120237041090561) (v := .bool (decide (((numL b : Nat) : Int) ≠ 9221120237041090561))) b_neq (lt_of rfl) ⟨rfl, trivial⟩))
      (oC (oS rfl rfl (r_pickT (b := (nanB (numL b))) (av := dv (.bool (decide (((numL b : Nat) : Int) ≠ 9221120237041090561)))) (lt_of rfl) trivial hq1)) (oZ rfl)))))))
      (by kernel_rfl) (by kernel_rfl) ?_
    refine nT ?_
    by_cases hq2 : ((numL b : Nat) : Int) ≠ 9221120237041090561
    · refine T.condT (b := (decide (((numL b : Nat) : Int) ≠ 9221120237041090561))) rfl (decide_eq_true hq2) ?_
      refine T.seq ?_
      refine tR (s1 := ⟨[slV tb nb kU8 b, AV.any, dv (.int .i64 12), dv (.int .u64 ((numL b : Nat) : Int)), dv (.float .f64 (numL b)), AV.any, AV.any, AV.any, AV.any, AV.any, AV.any, AV.any, AV.any, AV.any, dv (.bool (decide (((numL b : Nat) : Int) ≠ 9221120237041090561)))], []⟩) [true, false, true, true, true, false, false, false, false, false, false, false, false, false, true] []
        (oC (oS rfl rfl (r_assign (av := dv (.int .i64 12)) (lt_of rfl) ⟨rfl, trivial⟩)) (oZ rfl))
        (by kernel_rfl) (by kernel_rfl) ?_
      refine nT ?_
      refine T.ret ?_
      refine rT ?_
      exact tE (.inl rfl) [.t 2 (.one (.d (.val (.int .i64 12))))] ⟨⟨rfl, rfl⟩, trivial⟩ [] (by have e1 : (floatE b : Int) = 12 := (by first | rfl | (simp [floatE, *]; done) | (simp only [floatE]; first | rw [if_pos ⟨by assumption, by assumption⟩] | rw [if_neg (fun h => by first | exact absurd h.1 (by assumption) | exact absurd h.2 (by assumption) | simp_all)])); have hE := congrArg (fun (q1 : Int) => (dv (.int .i64 q1) : AV)) e1; exact hE) rfl rfl rfl rfl rfl trivial
    · refine T.condF (b := (decide (((numL b : Nat) : Int) ≠ 9221120237041090561))) rfl (decide_eq_false hq2) ?_
      refine T.skip ?_
      refine nT ?_
      refine T.seq ?_
      refine tR (s1 := ⟨[slV tb nb kU8 b, AV.any, dv (.int .i64 0), dv (.int .u64 ((numL b : Nat) : Int)), dv (.float .f64 (numL b)), AV.any, AV.any, AV.any, AV.any, AV.any, AV.any, AV.any, AV.any, AV.any, dv (.bool (decide (((numL b : Nat) : Int) ≠ 9221120237041090561)))], []⟩) [true, false, true, true, true, false, false, false, false, false, false, false, false, false, true] []
        (oC (oS rfl rfl (r_assign (av := dv (.int .i64 0)) (lt_of rfl) ⟨rfl, trivial⟩)) (oZ rfl))
        (by kernel_rfl) (by kernel_rfl) ?_
      refine nT ?_
      refine T.ret ?_
      exact tE (.inl rfl) [.t 2 (.one (.d (.val (.int .i64 0))))] ⟨⟨rfl, rfl⟩, trivial⟩ [] (by have e1 : (floatE b : Int) = 0 := (by first | rfl | (simp [floatE, *]; done) | (simp only [floatE]; first | rw [if_pos ⟨by assumption, by assumption⟩] | rw [if_neg (fun h => by first | exact absurd h.1 (by assumption) | exact absurd h.2 (by assumption) | simp_all)])); have hE := congrArg (fun (q1 : Int) => (dv (.int .i64 q1) : AV)) e1; exact hE) rfl rfl rfl rfl rfl trivial
  · replace hq1 := Bool.eq_false_iff.2 hq1
    refine tR (s1 := ⟨[slV tb nb kU8 b, AV.any, dv (.int .i64 0), dv (.int .u64 ((numL b : Nat) : Int)), dv (.float .f64 (numL b)), AV.any, AV.any, AV.any, AV.any, AV.any, AV.any, AV.any, AV.any, AV.any, dv (.bool false)], []⟩) [true, false, true, true, true, false, false, false, false, false, false, false, false, false, true] []
      (oC (oS rfl rfl (r_move (av := dv (.float .f64 (numL b))) (lt_of rfl) trivial))
      (oC (oS rfl rfl (r_call (math_IsNaN (numL b) ) Try.func51 rfl (by decide) [] [] (l := [(.tmp 9, dv (.float .f64 (numL b)))]) [] rfl 0 0 rfl rfl rfl rfl rfl rfl rfl rfl rfl ⟨.inl ⟨rfl, rfl⟩, trivial⟩ rfl (fun b hb => by cases hb) (.inl rfl) (lt_of rfl) trivial))
      (oC (oS rfl rfl (r_move (av := dv (.bool (nanB (numL b)))) (lt_of rfl) trivial))
      (oC (oN (b := (nanB (numL b))) rfl rfl rfl rfl (lt_of rfl) hq1 rfl (lt_of rfl))
      (oC (oN (b := (nanB (numL b))) rfl rfl rfl rfl (lt_of rfl) hq1 rfl (lt_of rfl))
      (oC (oS rfl rfl (r_pickF (b := (nanB (numL b))) (av := dv (.bool false)) (lt_of rfl) ⟨rfl, trivial⟩ hq1)) (oZ rfl)))))))
      (by kernel_rfl) (by kernel_rfl) ?_
    refine nT ?_
    refine T.condF (b := false) rfl rfl ?_
    refine T.skip ?_
    refine nT ?_
    refine T.seq ?_
    refine tR (s1 := ⟨[slV tb nb kU8 b, AV.any, dv (.int .i64 0), dv (.int .u64 ((numL b : Nat) : Int)), dv (.float .f64 (numL b)), AV.any, AV.any, AV.any, AV.any, AV.any, AV.any, AV.any, AV.any, AV.any, dv (.bool false)], []⟩) [true, false, true, true, true, false, false, false, false, false, false, false, false, false, true] []
      (oC (oS rfl rfl (r_assign (av := dv (.int .i64 0)) (lt_of rfl) ⟨rfl, trivial⟩)) (oZ rfl))
      (by kernel_rfl) (by kernel_rfl) ?_
    refine nT ?_
    refine T.ret ?_
    exact tE (.inl rfl) [.t 2 (.one (.d (.val (.int .i64 0))))] ⟨⟨rfl, rfl⟩, trivial⟩ [] (by have e1 : (floatE b : Int) = 0 := (by first | rfl | (simp [floatE, *]; done) | (simp only [floatE]; first | rw [if_pos ⟨by assumption, by assumption⟩] | rw [if_neg (fun h => by first | exact absurd h.1 (by assumption) | exact absurd h.2 (by assumption) | simp_all)])); have hE := congrArg (fun (q1 : Int) => (dv (.int .i64 q1) : AV)) e1; exact hE) rfl rfl rfl rfl rfl trivial

theorem iat_37 : Try.prog.info? 37 = some Try.t37 := by kernel_rfl
theorem zero_37 : Zero Try.prog 37 [.slice none 0 0, .int .i64 0] := ⟨_, _, iat_37, rfl, rfl⟩
theorem iat_24 : Try.prog.info? 24 = some Try.t24 := by kernel_rfl
theorem iat_35 : Try.prog.info? 35 = some Try.t35 := by kernel_rfl
theorem places_37 : Places Try.prog 37 [(0, 1), (1, 1)] := ⟨_, Try.underlying37, ⟨⟨rfl, _, iat_24, rfl⟩, ⟨⟨rfl, _, iat_35, rfl⟩, trivial⟩⟩⟩
-- quaestor/wire.New
theorem wire_New (tb : Bool) (nb : Bool) (b : List UInt8) (hb : b.length ≤ 140737488355328) : Holds Try.prog 16 ⟨[slV tb nb kU8 b], [], pv 0 0, [.live (.box 37 [.d (dsl false false kU8 b), .d (.val (.int .i64 0))])]⟩ := by
  refine Holds.of Try.func16 rfl (N := 7) Try.ntmps16 rfl fun w0 B0 S0 U0 => ?_
  show T _ (mkBase 7 0 w0 S0 U0 B0) ⟨[slV tb nb kU8 b], []⟩ _ _
  refine T.seq ?_
  refine tR (s1 := ⟨[slV tb nb kU8 b, AV.any, dv (.pointer none)], []⟩) [true, false, true] []
    (oC (oS rfl rfl (r_assign (av := dv (.pointer none)) (lt_of rfl) ⟨rfl, trivial⟩)) (oZ rfl))
    (by kernel_rfl) (by kernel_rfl) ?_
  refine nT ?_
  refine T.seq ?_
  refine tR (s1 := ⟨[slV tb nb kU8 b, AV.any, pv 1 0], [.live (arrK 5 kU8 b), .live (.box 37 [.own 0 kU8.sz 0 b.length, .d (.val (.int .i64 0))])]⟩) [true, false, true] [true, true]
    (oC (oS rfl rfl (r_move (av := slV tb nb kU8 b) (lt_of rfl) trivial))
    (oC (oS rfl rfl (r_call (clone_u8 tb nb b (by first | assumption | omega | (simp only [maxLen, kU8_sz, kSl_sz, k_quaestorlaw01_Item_sz]; omega) | (simp only [maxLen, kU8_sz, kSl_sz, k_quaestorlaw01_Item_sz, List.length_append, List.length_cons, List.length_nil, List.length_take, List.length_drop, List.length_set]; omega) | decide)) Try.func39 rfl (by decide) [0] [] (l := [(.tmp 3, slV tb nb kU8 b)]) [] rfl 0 1 rfl rfl rfl rfl rfl rfl rfl rfl rfl ⟨.inl ⟨rfl, rfl⟩, trivial⟩ rfl (fun b hb => by cases hb) (.inl rfl) (lt_of rfl) trivial))
    (oC (oS rfl rfl (r_build (ps := [⟨0, .tmp 4, .one (.own 0 kU8.sz 0 b.length), 0⟩]) (cs := [.own 0 kU8.sz 0 b.length, .d (.val (.int .i64 0))]) zero_37 places_37 rfl (part_cons rfl rfl (Nat.le_of_ble_eq_true rfl) part_ok) rfl (lt_of rfl) trivial))
    (oC (oS rfl rfl (r_box (l := 1) (t := .agg [.own 0 kU8.sz 0 b.length, .d (.val (.int .i64 0))]) rfl (lt_of rfl) trivial))
    (oC (oS rfl rfl (r_assign (av := pv 1 0) (lt_of rfl) trivial)) (oZ rfl))))))
    (by kernel_rfl) (by kernel_rfl) ?_
  refine nT ?_
  refine T.ret ?_
  refine Ends.turn (s' := ⟨[slV tb nb kU8 b, AV.any, pv 1 0], [.dead, .live (.box 37 [.d (dsl false false kU8 b), .d (.val (.int .i64 0))])]⟩) (fun _ _ hG => Gs.freeze (s := ⟨[slV tb nb kU8 b, AV.any, pv 1 0], [.live (arrK 5 kU8 b), .live (.box 37 [.own 0 kU8.sz 0 b.length, .d (.val (.int .i64 0))])]⟩) 0 (el := elOf kU8 b) (sz := kU8.sz) (n := b.length) rfl ⟨(.inl rfl), ⟨(.inl rfl), ⟨(.inl rfl), trivial⟩⟩⟩ ⟨(.inl ⟨rfl, rfl⟩), ⟨(.inr ⟨by decide, .inr ⟨rfl, ⟨(.inr ⟨rfl, rfl, rfl, (fun h => by cases h), rfl, rfl, by omega, fun i j _ => by rw [Nat.zero_add]⟩), ⟨(.inl rfl), trivial⟩⟩⟩⟩), trivial⟩⟩ hG) ?_
  exact tE (.inl rfl) [.t 2 (.one (.ptr 1 0))] ⟨⟨rfl, rfl⟩, trivial⟩ [1] rfl rfl rfl rfl rfl rfl ⟨⟨rfl, rfl⟩, trivial⟩

theorem fld_37_1 : FieldAt Try.prog 37 1 1 := ⟨_, _, _, Try.underlying37, rfl, iat_35, by decide, rfl⟩
theorem wide_35 : Wide Try.prog 35 none := ⟨_, Try.underlying35, (fun _ h => by cases h), (fun _ _ h => by cases h)⟩
theorem fld_37_0 : FieldAt Try.prog 37 0 0 := ⟨_, _, _, Try.underlying37, rfl, iat_24, by decide, rfl⟩
theorem wide_24 : Wide Try.prog 24 none := ⟨_, Try.underlying24, (fun _ h => by cases h), (fun _ _ h => by cases h)⟩
theorem cells_35 : Cells Try.prog 35 1 := ⟨_, iat_35, rfl⟩
theorem cells_24 : Cells Try.prog 24 1 := ⟨_, iat_24, rfl⟩
-- (*quaestor/wire.Reader).take
theorem take_any_ok (rest : List UInt8) (e : Int) (n : Int) (hr : rest.length ≤ 140737488355328) (hn : 0 ≤ n) (hc : okT rest e n 0) : Holds Try.prog 40 ⟨[pv 0 0, dv (.int .i64 n), dv (.func (.func 41) #[] #[])], [.box 37 [.d (dsl false false kU8 rest), .d (.val (.int .i64 e))]], slV false false kU8 (rest.take n.toNat), [.live (.box 37 [.d (dsl false false kU8 (rest.drop n.toNat)), .d (.val (.int .i64 0))])]⟩ := by
  refine Holds.of Try.func40 rfl (N := 54) Try.ntmps40 rfl fun w0 B0 S0 U0 => ?_
  show T _ (mkBase 54 1 w0 S0 U0 B0) ⟨[pv 0 0, dv (.int .i64 n), dv (.func (.func 41) #[] #[])], [.live (.box 37 [.d (dsl false false kU8 rest), .d (.val (.int .i64 e))])]⟩ _ _
  have htl : (rest.take n.toNat).length ≤ n.toNat := List.length_take_le _ _
  obtain ⟨hc1, hc2, hc3⟩ := hc
  have htm : (rest.take n.toNat).length = n.toNat := by rw [List.length_take]; omega
  refine T.seq ?_
  refine tR (s1 := ⟨[pv 0 0, dv (.int .i64 n), dv (.func (.func 41) #[] #[]), AV.any, AV.any, AV.any, dv (.slice none 0 0)], [.live (.box 37 [.d (dsl false false kU8 rest), .d (.val (.int .i64 e))])]⟩) [true, true, true, false, false, false, true] [true]
    (oC (oS rfl rfl (r_assign (av := dv (.slice none 0 0)) (lt_of rfl) ⟨rfl, trivial⟩)) (oZ rfl))
    (by kernel_rfl) (by kernel_rfl) ?_
  refine nT ?_
  refine T.seq ?_
  refine T.seq ?_
  refine tR (s1 := ⟨[pv 0 0, dv (.int .i64 n), dv (.func (.func 41) #[] #[]), AV.any, AV.any, AV.any, dv (.slice none 0 0), AV.any, AV.any, AV.any, AV.any, AV.any, AV.any, AV.any, AV.any, AV.any, dv (.bool (decide (e ≠ 0)))], [.live (.box 37 [.d (dsl false false kU8 rest), .d (.val (.int .i64 e))])]⟩) [true, true, true, false, false, false, true, false, false, false, false, false, false, false, false, false, true] [true]
    (oC (oS rfl rfl (r_move (av := pv 0 0) (lt_of rfl) trivial))
    (oC (oS rfl rfl (r_eqNilP (av := pv 0 0) Try.underlying34 rfl (lt_of rfl) ⟨rfl, trivial⟩))
    (oC (oS rfl rfl (r_move (av := dv (.bool false)) (lt_of rfl) trivial))
    (oC (oY (b := false) rfl rfl rfl rfl (lt_of rfl) rfl (r_move (av := pv 0 0) (lt_of rfl) trivial))
    (oC (oY (b := false) rfl rfl rfl rfl (lt_of rfl) rfl (r_nilCheck (av := pv 0 0) rfl (lt_of rfl) trivial))
    (oC (oY (b := false) rfl rfl rfl rfl (lt_of rfl) rfl (r_fieldAddr (l := 0) (off := 0) fld_37_1 (lt_of rfl) trivial))
    (oC (oY (b := false) rfl rfl rfl rfl (lt_of rfl) rfl (r_loadB (l := 0) (off := 1) (T := 37) (cs := [.d (dsl false false kU8 rest), .d (.val (.int .i64 e))]) (c := .d (.val (.int .i64 e))) wide_35 rfl (lt_of rfl) trivial))
    (oC (oY (b := false) rfl rfl rfl rfl (lt_of rfl) rfl (r_bin (u1 := .int .i64 e) (u2 := .int .i64 0) (v := .bool (decide (e ≠ 0))) b_neq (lt_of rfl) ⟨rfl, trivial⟩))
    (oC (oS rfl rfl (r_pickF (b := false) (av := dv (.bool (decide (e ≠ 0)))) (lt_of rfl) trivial rfl)) (oZ rfl))))))))))
    (by kernel_rfl) (by kernel_rfl) ?_
  refine nT ?_
  by_cases hq1 : e ≠ 0
  · exact absurd hc1 hq1
  · refine T.condF (b := (decide (e ≠ 0))) rfl (decide_eq_false hq1) ?_
    refine T.skip ?_
    refine nT ?_
    refine T.seq ?_
    refine T.seq ?_
    refine tR (s1 := ⟨[pv 0 0, dv (.int .i64 n), dv (.func (.func 41) #[] #[]), AV.any, AV.any, AV.any, dv (.slice none 0 0), AV.any, AV.any, AV.any, AV.any, AV.any, AV.any, AV.any, AV.any, AV.any, dv (.bool (decide (e ≠ 0))), AV.any, AV.any, AV.any, AV.any, AV.any, AV.any, dv (.bool (decide (n > ((rest.length : Nat) : Int))))], [.live (.box 37 [.d (dsl false false kU8 rest), .d (.val (.int .i64 e))])]⟩) [true, true, true, false, false, false, true, false, false, false, false, false, false, false, false, false, true, false, false, false, false, false, false, true] [true]
      (oC (oS rfl rfl (r_move (av := dv (.int .i64 n)) (lt_of rfl) trivial))
      (oC (oS rfl rfl (r_move (av := pv 0 0) (lt_of rfl) trivial))
      (oC (oS rfl rfl (r_nilCheck (av := pv 0 0) rfl (lt_of rfl) trivial))
      (oC (oS rfl rfl (r_fieldAddr (l := 0) (off := 0) fld_37_0 (lt_of rfl) trivial))
      (oC (oS rfl rfl (r_loadB (l := 0) (off := 0) (T := 37) (cs := [.d (dsl false false kU8 rest), .d (.val (.int .i64 e))]) (c := .d (dsl false false kU8 rest)) wide_24 rfl (lt_of rfl) trivial))
      (oC (oS rfl rfl (q_len false false kU8 rest Try.underlying24 (lt_of rfl) trivial))
      (oC (oS rfl rfl (r_bin (u1 := .int .i64 n) (u2 := .int .i64 ((rest.length : Nat) : Int)) (v := .bool (decide (n > ((rest.length : Nat) : Int)))) b_gtr (lt_of rfl) trivial)) (oZ rfl))))))))
      (by kernel_rfl) (by kernel_rfl) ?_
    refine nT ?_
    by_cases hq2 : n > ((rest.length : Nat) : Int)
    · exact absurd hc2 (by omega)
    · refine T.condF (b := (decide (n > ((rest.length : Nat) : Int)))) rfl (decide_eq_false hq2) ?_
      refine T.skip ?_
      refine nT ?_
      refine T.seq ?_
      refine tR (s1 := ⟨[pv 0 0, dv (.int .i64 n), dv (.func (.func 41) #[] #[]), AV.any, AV.any, AV.any, dv (.slice none 0 0), slV false false kU8 (rest.take (n).toNat), AV.any, AV.any, AV.any, AV.any, AV.any, AV.any, AV.any, AV.any, dv (.bool (decide (e ≠ 0))), AV.any, AV.any, AV.any, AV.any, AV.any, AV.any, dv (.bool (decide (n > ((rest.length : Nat) : Int))))], [.live (.box 37 [.d (dsl false false kU8 rest), .d (.val (.int .i64 e))])]⟩) [true, true, true, false, false, false, true, true, false, false, false, false, false, false, false, false, true, false, false, false, false, false, false, true] [true]
        (oC (oS rfl rfl (r_move (av := pv 0 0) (lt_of rfl) trivial))
        (oC (oS rfl rfl (r_nilCheck (av := pv 0 0) rfl (lt_of rfl) trivial))
        (oC (oS rfl rfl (r_fieldAddr (l := 0) (off := 0) fld_37_0 (lt_of rfl) trivial))
        (oC (oS rfl rfl (r_loadB (l := 0) (off := 0) (T := 37) (cs := [.d (dsl false false kU8 rest), .d (.val (.int .i64 e))]) (c := .d (dsl false false kU8 rest)) wide_24 rfl (lt_of rfl) trivial))
        (oC (oS rfl rfl (r_move (av := dv (.int .i64 n)) (lt_of rfl) trivial))
        (oC (oS rfl rfl (q_slice false false kU8 rest (rest.take (n).toNat) 0 (n).toNat (lo := none) (hi := some (.tmp 31, n)) Try.underlying24 iat_5 rfl rfl rfl rfl (by omega) (by first | assumption | omega | (simp only [maxLen, kU8_sz, kSl_sz, k_quaestorlaw01_Item_sz]; omega) | (simp only [maxLen, kU8_sz, kSl_sz, k_quaestorlaw01_Item_sz, List.length_append, List.length_cons, List.length_nil, List.length_take, List.length_drop, List.length_set]; omega) | decide) (by first | assumption | omega | (simp only [maxLen, kU8_sz, kSl_sz, k_quaestorlaw01_Item_sz]; omega) | (simp only [maxLen, kU8_sz, kSl_sz, k_quaestorlaw01_Item_sz, List.length_append, List.length_cons, List.length_nil, List.length_take, List.length_drop, List.length_set]; omega) | decide) rfl (lt_of rfl) trivial))
        (oC (oS rfl rfl (r_assign (av := slV false false kU8 (rest.take (n).toNat)) (lt_of rfl) trivial)) (oZ rfl))))))))
        (by kernel_rfl) (by kernel_rfl) ?_
      refine nT ?_
      refine T.seq ?_
      refine T.seq ?_
      refine tR (s1 := ⟨[pv 0 0, dv (.int .i64 n), dv (.func (.func 41) #[] #[]), AV.any, AV.any, AV.any, dv (.slice none 0 0), slV false false kU8 (rest.take (n).toNat), AV.any, AV.any, AV.any, AV.any, AV.any, AV.any, AV.any, AV.any, dv (.bool (decide (e ≠ 0))), AV.any, AV.any, AV.any, AV.any, AV.any, AV.any, dv (.bool (decide (n > ((rest.length : Nat) : Int))))], [.live (.box 37 [.d (dsl false false kU8 rest), .d (.val (.int .i64 0))])]⟩) [true, true, true, false, false, false, true, true, false, false, false, false, false, false, false, false, true, false, false, false, false, false, false, true] [true]
        (oC (oS rfl rfl (r_move (av := pv 0 0) (lt_of rfl) trivial))
        (oC (oS rfl rfl (r_move (av := dv (.func (.func 41) #[] #[])) (lt_of rfl) trivial))
        (oC (oS rfl rfl (r_move (av := slV false false kU8 (rest.take (n).toNat)) (lt_of rfl) trivial))
        (oC (oS rfl rfl (r_callV (fs := #[]) (cs := #[]) (wire_any false false (rest.take (n).toNat) ) Try.func41 rfl (by decide) [] [] (l := [(.tmp 35, slV false false kU8 (rest.take (n).toNat))]) [] rfl 0 0 rfl rfl rfl rfl rfl rfl rfl rfl rfl rfl rfl ⟨.inl ⟨rfl, rfl⟩, trivial⟩ rfl (fun b hb => by cases hb) (.inl rfl) (lt_of rfl) trivial))
        (oC (oS rfl rfl (r_nilCheck (av := pv 0 0) rfl (lt_of rfl) trivial))
        (oC (oS rfl rfl (r_fieldAddr (l := 0) (off := 0) fld_37_1 (lt_of rfl) trivial))
        (oC (oS rfl rfl (r_store (l := 0) (off := 1) (n := 1) (T := 37) (cs := [.d (dsl false false kU8 rest), .d (.val (.int .i64 e))]) (cs' := [.d (dsl false false kU8 rest), .d (.val (.int .i64 0))]) (tv := .one (.d (.val (.int .i64 0)))) cells_35 rfl (Nat.le_of_ble_eq_true rfl) rfl rfl trivial)) (oZ rfl))))))))
        (by kernel_rfl) (by kernel_rfl) ?_
      refine nT ?_
      refine T.seq ?_
      refine tR (s1 := ⟨[pv 0 0, dv (.int .i64 n), dv (.func (.func 41) #[] #[]), AV.any, AV.any, AV.any, dv (.slice none 0 0), slV false false kU8 (rest.take (n).toNat), AV.any, AV.any, AV.any, AV.any, AV.any, AV.any, AV.any, AV.any, dv (.bool (decide (e ≠ 0))), AV.any, AV.any, AV.any, AV.any, AV.any, AV.any, dv (.bool (decide (n > ((rest.length : Nat) : Int)))), AV.any, AV.any, AV.any, AV.any, AV.any, AV.any, AV.any, AV.any, AV.any, AV.any, AV.any, AV.any, AV.any, AV.any, AV.any, AV.any, AV.any, AV.any, AV.any, dv (.bool false)], [.live (.box 37 [.d (dsl false false kU8 rest), .d (.val (.int .i64 0))])]⟩) [true, true, true, false, false, false, true, true, false, false, false, false, false, false, false, false, true, false, false, false, false, false, false, true, false, false, false, false, false, false, false, false, false, false, false, false, false, false, false, false, false, false, false, true] [true]
        (oC (oS rfl rfl (r_move (av := pv 0 0) (lt_of rfl) trivial))
        (oC (oS rfl rfl (r_nilCheck (av := pv 0 0) rfl (lt_of rfl) trivial))
        (oC (oS rfl rfl (r_fieldAddr (l := 0) (off := 0) fld_37_1 (lt_of rfl) trivial))
        (oC (oS rfl rfl (r_loadB (l := 0) (off := 1) (T := 37) (cs := [.d (dsl false false kU8 rest), .d (.val (.int .i64 0))]) (c := .d (.val (.int .i64 0))) wide_35 rfl (lt_of rfl) trivial))
        (oC (oS rfl rfl (r_bin (u1 := .int .i64 0) (u2 := .int .i64 0) (v := .bool false) b_neq (lt_of rfl) ⟨rfl, trivial⟩)) (oZ rfl))))))
        (by kernel_rfl) (by kernel_rfl) ?_
      refine nT ?_
      refine T.condF (b := false) rfl rfl ?_
      refine T.skip ?_
      refine nT ?_
      refine T.seq ?_
      refine tR (s1 := ⟨[pv 0 0, dv (.int .i64 n), dv (.func (.func 41) #[] #[]), AV.any, AV.any, AV.any, dv (.slice none 0 0), slV false false kU8 (rest.take (n).toNat), AV.any, AV.any, AV.any, AV.any, AV.any, AV.any, AV.any, AV.any, dv (.bool (decide (e ≠ 0))), AV.any, AV.any, AV.any, AV.any, AV.any, AV.any, dv (.bool (decide (n > ((rest.length : Nat) : Int)))), AV.any, AV.any, AV.any, AV.any, AV.any, AV.any, AV.any, AV.any, AV.any, AV.any, AV.any, AV.any, AV.any, AV.any, AV.any, AV.any, AV.any, AV.any, AV.any, dv (.bool false)], [.live (.box 37 [.d (dsl false false kU8 (rest.drop (n).toNat)), .d (.val (.int .i64 0))])]⟩) [true, true, true, false, false, false, true, true, false, false, false, false, false, false, false, false, true, false, false, false, false, false, false, true, false, false, false, false, false, false, false, false, false, false, false, false, false, false, false, false, false, false, false, true] [true]
        (oC (oS rfl rfl (r_move (av := pv 0 0) (lt_of rfl) trivial))
        (oC (oS rfl rfl (r_move (av := pv 0 0) (lt_of rfl) trivial))
        (oC (oS rfl rfl (r_nilCheck (av := pv 0 0) rfl (lt_of rfl) trivial))
        (oC (oS rfl rfl (r_fieldAddr (l := 0) (off := 0) fld_37_0 (lt_of rfl) trivial))
        (oC (oS rfl rfl (r_loadB (l := 0) (off := 0) (T := 37) (cs := [.d (dsl false false kU8 rest), .d (.val (.int .i64 0))]) (c := .d (dsl false false kU8 rest)) wide_24 rfl (lt_of rfl) trivial))
        (oC (oS rfl rfl (r_move (av := dv (.int .i64 n)) (lt_of rfl) trivial))
        (oC (oS rfl rfl (q_slice false false kU8 rest (rest.drop (n).toNat) (n).toNat rest.length (lo := some (.tmp 49, n)) (hi := none) Try.underlying24 iat_5 rfl rfl rfl (by omega) rfl (by first | assumption | omega | (simp only [maxLen, kU8_sz, kSl_sz, k_quaestorlaw01_Item_sz]; omega) | (simp only [maxLen, kU8_sz, kSl_sz, k_quaestorlaw01_Item_sz, List.length_append, List.length_cons, List.length_nil, List.length_take, List.length_drop, List.length_set]; omega) | decide) (by first | assumption | omega | (simp only [maxLen, kU8_sz, kSl_sz, k_quaestorlaw01_Item_sz]; omega) | (simp only [maxLen, kU8_sz, kSl_sz, k_quaestorlaw01_Item_sz, List.length_append, List.length_cons, List.length_nil, List.length_take, List.length_drop, List.length_set]; omega) | decide) (by rw [List.take_length]) (lt_of rfl) trivial))
        (oC (oS rfl rfl (r_nilCheck (av := pv 0 0) rfl (lt_of rfl) trivial))
        (oC (oS rfl rfl (r_fieldAddr (l := 0) (off := 0) fld_37_0 (lt_of rfl) trivial))
        (oC (oS rfl rfl (r_store (l := 0) (off := 0) (n := 1) (T := 37) (cs := [.d (dsl false false kU8 rest), .d (.val (.int .i64 0))]) (cs' := [.d (dsl false false kU8 (rest.drop (n).toNat)), .d (.val (.int .i64 0))]) (tv := .one (.d (dsl false false kU8 (rest.drop (n).toNat)))) cells_24 rfl (Nat.le_of_ble_eq_true rfl) rfl rfl trivial)) (oZ rfl)))))))))))
        (by kernel_rfl) (by kernel_rfl) ?_
      refine nT ?_
      refine T.seq ?_
      refine tR (s1 := ⟨[pv 0 0, dv (.int .i64 n), dv (.func (.func 41) #[] #[]), AV.any, AV.any, AV.any, slV false false kU8 (rest.take (n).toNat), slV false false kU8 (rest.take (n).toNat), AV.any, AV.any, AV.any, AV.any, AV.any, AV.any, AV.any, AV.any, dv (.bool (decide (e ≠ 0))), AV.any, AV.any, AV.any, AV.any, AV.any, AV.any, dv (.bool (decide (n > ((rest.length : Nat) : Int)))), AV.any, AV.any, AV.any, AV.any, AV.any, AV.any, AV.any, AV.any, AV.any, AV.any, AV.any, AV.any, AV.any, AV.any, AV.any, AV.any, AV.any, AV.any, AV.any, dv (.bool false)], [.live (.box 37 [.d (dsl false false kU8 (rest.drop (n).toNat)), .d (.val (.int .i64 0))])]⟩) [true, true, true, false, false, false, true, true, false, false, false, false, false, false, false, false, true, false, false, false, false, false, false, true, false, false, false, false, false, false, false, false, false, false, false, false, false, false, false, false, false, false, false, true] [true]
        (oC (oS rfl rfl (r_move (av := slV false false kU8 (rest.take (n).toNat)) (lt_of rfl) trivial))
        (oC (oS rfl rfl (r_assign (av := slV false false kU8 (rest.take (n).toNat)) (lt_of rfl) trivial)) (oZ rfl)))
        (by kernel_rfl) (by kernel_rfl) ?_
      refine nT ?_
      refine T.ret ?_
      exact tE (.inl rfl) [.t 6 (.one (.d (dsl false false kU8 (rest.take (n).toNat))))] ⟨⟨rfl, rfl⟩, trivial⟩ [0] (by have e1 : ((rest.take n.toNat) : List UInt8) = (rest.take (n).toNat) := (by first | rfl | exact hc3 | exact hc3.symm); have hE := congrArg (fun (q1 : List UInt8) => (slV false false kU8 q1 : AV)) e1; exact hE) rfl rfl rfl rfl rfl ⟨⟨rfl, (by have e1 : ((rest.drop (n).toNat) : List UInt8) = (rest.drop n.toNat) := (by first | rfl | exact hc3 | exact hc3.symm); have hE := congrArg (fun (q1 : List UInt8) => (.live (.box 37 [.d (dsl false false kU8 q1), .d (.val (.int .i64 0))]) : HS)) e1; exact hE)⟩, trivial⟩
end Go.Proofs.Ytafkobdlcahdbaa.Q
