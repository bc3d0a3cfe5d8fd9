import Derived.Test.YtafkobdlcahdbaaC01n2
namespace Go.Proofs.Ytafkobdlcahdbaa.Q
open Go Go.RowKit
set_option linter.unusedVariables false
set_option linter.unusedSimpArgs false
set_option maxRecDepth 100000
set_option maxHeartbeats 4000000
-- quaestor/quaestorref01.Bool
theorem ref01_Bool (tb : Bool) (nb : Bool) (b : List UInt8) (x : Bool) (hb : b.length ≤ 140737488355000) : Holds Try.prog 26 ⟨[slV tb nb kU8 b, dv (.bool x)], [], ownV 0 kU8 0 (b ++ boolB x).length, [.live (arrK 5 kU8 (b ++ boolB x))]⟩ := by
  refine Holds.of Try.func26 rfl (N := 10) Try.ntmps26 rfl fun w0 B0 S0 U0 => ?_
  show T _ (mkBase 10 0 w0 S0 U0 B0) ⟨[slV tb nb kU8 b, dv (.bool x)], []⟩ _ _
  refine T.seq ?_
  refine tR (s1 := ⟨[slV tb nb kU8 b, dv (.bool x), AV.any, AV.any, dv (.slice none 0 0)], []⟩) [true, true, false, false, true] []
    (oC (oS rfl rfl (r_assign (av := dv (.slice none 0 0)) (lt_of rfl) ⟨rfl, trivial⟩)) (oZ rfl))
    (by kernel_rfl) (by kernel_rfl) ?_
  refine nT ?_
  refine T.seq ?_
  refine T.seq ?_
  refine tR (s1 := ⟨[slV tb nb kU8 b, dv (.bool x), AV.any, AV.any, dv (.slice none 0 0), dv (.bool x)], []⟩) [true, true, false, false, true, true] []
    (oC (oS rfl rfl (r_move (av := dv (.bool x)) (lt_of rfl) trivial)) (oZ rfl))
    (by kernel_rfl) (by kernel_rfl) ?_
  refine nT ?_
  by_cases hq1 : x = true
  · refine T.condT (b := x) rfl hq1 ?_
    refine T.seq ?_
    refine tR (s1 := ⟨[slV tb nb kU8 b, dv (.bool x), AV.any, AV.any, ownV 0 kU8 0 (b ++ (spellB 1 1)).length, dv (.bool x)], [.live (arrK 5 kU8 (b ++ (spellB 1 1)))]⟩) [true, true, false, false, true, true] [true]
      (oC (oS rfl rfl (r_move (av := slV tb nb kU8 b) (lt_of rfl) trivial))
      (oC (oS rfl rfl (r_call (ref01_bits tb nb b 1 1 (by first | assumption | omega | (simp only [maxLen, kU8_sz, kSl_sz, k_quaestorlaw01_Item_sz]; omega) | (simp only [maxLen, kU8_sz, kSl_sz, k_quaestorlaw01_Item_sz, List.length_append, List.length_cons, List.length_nil, List.length_take, List.length_drop, List.length_set]; omega) | decide) (by first | assumption | omega | (simp only [maxLen, kU8_sz, kSl_sz, k_quaestorlaw01_Item_sz]; omega) | (simp only [maxLen, kU8_sz, kSl_sz, k_quaestorlaw01_Item_sz, List.length_append, List.length_cons, List.length_nil, List.length_take, List.length_drop, List.length_set]; omega) | decide) (by first | assumption | omega | (simp only [maxLen, kU8_sz, kSl_sz, k_quaestorlaw01_Item_sz]; omega) | (simp only [maxLen, kU8_sz, kSl_sz, k_quaestorlaw01_Item_sz, List.length_append, List.length_cons, List.length_nil, List.length_take, List.length_drop, List.length_set]; omega) | decide)) Try.func49 rfl (by decide) [0] [] (l := [(.tmp 6, slV tb nb kU8 b), (.const (.int .u64 1), dv (.int .u64 1)), (.const (.int .i64 1), dv (.int .i64 1))]) [] rfl 0 1 rfl rfl rfl rfl rfl rfl rfl rfl rfl ⟨.inl ⟨rfl, rfl⟩, ⟨.inl ⟨rfl, rfl⟩, ⟨.inl ⟨rfl, rfl⟩, trivial⟩⟩⟩ rfl (fun b hb => by cases hb) (.inl rfl) (lt_of rfl) ⟨rfl, ⟨rfl, trivial⟩⟩))
      (oC (oS rfl rfl (r_assign (av := ownV 0 kU8 0 (b ++ (spellB 1 1)).length) (lt_of rfl) trivial)) (oZ rfl))))
      (by kernel_rfl) (by kernel_rfl) ?_
    refine nT ?_
    refine T.ret ?_
    refine rT ?_
    exact tE (.inl rfl) [.t 4 (.one (.own 0 kU8.sz 0 (b ++ (spellB 1 1)).length))] ⟨⟨rfl, rfl⟩, trivial⟩ [0] (by have e1 : ((b ++ boolB x).length : Nat) = (b ++ (spellB 1 1)).length := (by first | rfl | (simp [boolB, spell1, *]; done)); have hE := congrArg (fun (q1 : Nat) => (ownV 0 kU8 0 q1 : AV)) e1; exact hE) rfl rfl rfl rfl rfl ⟨⟨rfl, (by have e1 : (b ++ (spellB 1 1) : List UInt8) = b ++ boolB x := (by first | rfl | (simp [boolB, spell1, *]; done)); have hE := congrArg (fun (q1 : List UInt8) => (.live (arrK 5 kU8 q1) : HS)) e1; exact hE)⟩, trivial⟩
  · replace hq1 := Bool.eq_false_iff.2 hq1
    refine T.condF (b := x) rfl hq1 ?_
    refine T.skip ?_
    refine nT ?_
    refine T.seq ?_
    refine tR (s1 := ⟨[slV tb nb kU8 b, dv (.bool x), AV.any, AV.any, ownV 0 kU8 0 (b ++ (spellB 0 1)).length, dv (.bool x)], [.live (arrK 5 kU8 (b ++ (spellB 0 1)))]⟩) [true, true, false, false, true, true] [true]
      (oC (oS rfl rfl (r_move (av := slV tb nb kU8 b) (lt_of rfl) trivial))
      (oC (oS rfl rfl (r_call (ref01_bits tb nb b 0 1 (by first | assumption | omega | (simp only [maxLen, kU8_sz, kSl_sz, k_quaestorlaw01_Item_sz]; omega) | (simp only [maxLen, kU8_sz, kSl_sz, k_quaestorlaw01_Item_sz, List.length_append, List.length_cons, List.length_nil, List.length_take, List.length_drop, List.length_set]; omega) | decide) (by first | assumption | omega | (simp only [maxLen, kU8_sz, kSl_sz, k_quaestorlaw01_Item_sz]; omega) | (simp only [maxLen, kU8_sz, kSl_sz, k_quaestorlaw01_Item_sz, List.length_append, List.length_cons, List.length_nil, List.length_take, List.length_drop, List.length_set]; omega) | decide) (by first | assumption | omega | (simp only [maxLen, kU8_sz, kSl_sz, k_quaestorlaw01_Item_sz]; omega) | (simp only [maxLen, kU8_sz, kSl_sz, k_quaestorlaw01_Item_sz, List.length_append, List.length_cons, List.length_nil, List.length_take, List.length_drop, List.length_set]; omega) | decide)) Try.func49 rfl (by decide) [0] [] (l := [(.tmp 8, slV tb nb kU8 b), (.const (.int .u64 0), dv (.int .u64 0)), (.const (.int .i64 1), dv (.int .i64 1))]) [] rfl 0 1 rfl rfl rfl rfl rfl rfl rfl rfl rfl ⟨.inl ⟨rfl, rfl⟩, ⟨.inl ⟨rfl, rfl⟩, ⟨.inl ⟨rfl, rfl⟩, trivial⟩⟩⟩ rfl (fun b hb => by cases hb) (.inl rfl) (lt_of rfl) ⟨rfl, ⟨rfl, trivial⟩⟩))
      (oC (oS rfl rfl (r_assign (av := ownV 0 kU8 0 (b ++ (spellB 0 1)).length) (lt_of rfl) trivial)) (oZ rfl))))
      (by kernel_rfl) (by kernel_rfl) ?_
    refine nT ?_
    refine T.ret ?_
    exact tE (.inl rfl) [.t 4 (.one (.own 0 kU8.sz 0 (b ++ (spellB 0 1)).length))] ⟨⟨rfl, rfl⟩, trivial⟩ [0] (by have e1 : ((b ++ boolB x).length : Nat) = (b ++ (spellB 0 1)).length := (by first | rfl | (simp [boolB, spell1, *]; done)); have hE := congrArg (fun (q1 : Nat) => (ownV 0 kU8 0 q1 : AV)) e1; exact hE) rfl rfl rfl rfl rfl ⟨⟨rfl, (by have e1 : (b ++ (spellB 0 1) : List UInt8) = b ++ boolB x := (by first | rfl | (simp [boolB, spell1, *]; done)); have hE := congrArg (fun (q1 : List UInt8) => (.live (arrK 5 kU8 q1) : HS)) e1; exact hE)⟩, trivial⟩

-- quaestor/quaestorref01.Count
theorem ref01_Count (tb : Bool) (nb : Bool) (b : List UInt8) (n : Int) (hb : b.length ≤ 140737488355000) : Holds Try.prog 28 ⟨[slV tb nb kU8 b, dv (.int .i64 n)], [], ownV 0 kU8 0 (b ++ cntB n).length, [.live (arrK 5 kU8 (b ++ cntB n))]⟩ := by
  refine Holds.of Try.func28 rfl (N := 11) Try.ntmps28 rfl fun w0 B0 S0 U0 => ?_
  show T _ (mkBase 11 0 w0 S0 U0 B0) ⟨[slV tb nb kU8 b, dv (.int .i64 n)], []⟩ _ _
  have hn := cntN_lt n
  refine T.seq ?_
  refine tR (s1 := ⟨[slV tb nb kU8 b, dv (.int .i64 n), AV.any, AV.any, dv (.slice none 0 0)], []⟩) [true, true, false, false, true] []
    (oC (oS rfl rfl (r_assign (av := dv (.slice none 0 0)) (lt_of rfl) ⟨rfl, trivial⟩)) (oZ rfl))
    (by kernel_rfl) (by kernel_rfl) ?_
  refine nT ?_
  refine T.seq ?_
  refine tR (s1 := ⟨[slV tb nb kU8 b, dv (.int .i64 n), AV.any, AV.any, ownV 0 kU8 0 (b ++ (spellB (cntN n) 4)).length], [.live (arrK 5 kU8 (b ++ (spellB (cntN n) 4)))]⟩) [true, true, false, false, true] [true]
    (oC (oS rfl rfl (r_move (av := slV tb nb kU8 b) (lt_of rfl) trivial))
    (oC (oS rfl rfl (r_move (av := dv (.int .i64 n)) (lt_of rfl) trivial))
    (oC (oS rfl rfl (r_min (k := .i64) (a := n) (b := 4294967295) (lt_of rfl) ⟨rfl, trivial⟩))
    (oC (oS rfl rfl (r_max (k := .i64) (a := 0) (b := min n 4294967295) (lt_of rfl) ⟨rfl, trivial⟩))
    (oC (oS rfl rfl (r_conv (u := .int .i64 (max 0 (min n 4294967295))) (v := .int .u64 ((cntN n : Nat) : Int)) (c_int Try.underlying3 Try.underlying48 (by rw [IntKind.wrap_u64]; unfold cntN; omega)) (lt_of rfl) trivial))
    (oC (oS rfl rfl (r_call (ref01_bits tb nb b (cntN n) 4 (by first | assumption | omega | (simp only [maxLen, kU8_sz, kSl_sz, k_quaestorlaw01_Item_sz]; omega) | (simp only [maxLen, kU8_sz, kSl_sz, k_quaestorlaw01_Item_sz, List.length_append, List.length_cons, List.length_nil, List.length_take, List.length_drop, List.length_set]; omega) | decide) (by first | assumption | omega | (simp only [maxLen, kU8_sz, kSl_sz, k_quaestorlaw01_Item_sz]; omega) | (simp only [maxLen, kU8_sz, kSl_sz, k_quaestorlaw01_Item_sz, List.length_append, List.length_cons, List.length_nil, List.length_take, List.length_drop, List.length_set]; omega) | decide) (by first | assumption | omega | (simp only [maxLen, kU8_sz, kSl_sz, k_quaestorlaw01_Item_sz]; omega) | (simp only [maxLen, kU8_sz, kSl_sz, k_quaestorlaw01_Item_sz, List.length_append, List.length_cons, List.length_nil, List.length_take, List.length_drop, List.length_set]; omega) | decide)) Try.func49 rfl (by decide) [0] [] (l := [(.tmp 5, slV tb nb kU8 b), (.tmp 9, dv (.int .u64 ((cntN n : Nat) : Int))), (.const (.int .i64 4), dv (.int .i64 4))]) [] rfl 0 1 rfl rfl rfl rfl rfl rfl rfl rfl rfl ⟨.inl ⟨rfl, rfl⟩, ⟨.inl ⟨rfl, rfl⟩, ⟨.inl ⟨rfl, rfl⟩, trivial⟩⟩⟩ rfl (fun b hb => by cases hb) (.inl rfl) (lt_of rfl) ⟨rfl, trivial⟩))
    (oC (oS rfl rfl (r_assign (av := ownV 0 kU8 0 (b ++ (spellB (cntN n) 4)).length) (lt_of rfl) trivial)) (oZ rfl))))))))
    (by kernel_rfl) (by kernel_rfl) ?_
  refine nT ?_
  refine T.ret ?_
  exact tE (.inl rfl) [.t 4 (.one (.own 0 kU8.sz 0 (b ++ (spellB (cntN n) 4)).length))] ⟨⟨rfl, rfl⟩, trivial⟩ [0] (by have e1 : ((b ++ cntB n).length : Nat) = (b ++ (spellB (cntN n) 4)).length := (by first | rfl | (simp; done)); have hE := congrArg (fun (q1 : Nat) => (ownV 0 kU8 0 q1 : AV)) e1; exact hE) rfl rfl rfl rfl rfl ⟨⟨rfl, (by have e1 : (b ++ (spellB (cntN n) 4) : List UInt8) = b ++ cntB n := (by first | rfl | (simp; done)); have hE := congrArg (fun (q1 : List UInt8) => (.live (arrK 5 kU8 q1) : HS)) e1; exact hE)⟩, trivial⟩

-- quaestor/quaestorref01.Bytes
theorem ref01_Bytes (tb : Bool) (nb : Bool) (b : List UInt8) (tx : Bool) (nx : Bool) (x : List UInt8) (hb : b.length + x.length ≤ 140737488355000) : Holds Try.prog 30 ⟨[slV tb nb kU8 b, slV tx nx kU8 x], [], ownV 0 kU8 0 (b ++ bytesB x).length, [.live (arrK 5 kU8 (b ++ bytesB x))]⟩ := by
  refine Holds.of Try.func30 rfl (N := 13) Try.ntmps30 rfl fun w0 B0 S0 U0 => ?_
  show T _ (mkBase 13 0 w0 S0 U0 B0) ⟨[slV tb nb kU8 b, slV tx nx kU8 x], []⟩ _ _
  have hcl := cnt_len ((x.length : Nat) : Int)
  refine T.seq ?_
  refine tR (s1 := ⟨[slV tb nb kU8 b, slV tx nx kU8 x, AV.any, AV.any, dv (.slice none 0 0)], []⟩) [true, true, false, false, true] []
    (oC (oS rfl rfl (r_assign (av := dv (.slice none 0 0)) (lt_of rfl) ⟨rfl, trivial⟩)) (oZ rfl))
    (by kernel_rfl) (by kernel_rfl) ?_
  refine nT ?_
  refine T.seq ?_
  refine tR (s1 := ⟨[slV tb nb kU8 b, slV tx nx kU8 x, AV.any, AV.any, dv (.slice none 0 0), ownV 0 kU8 0 (b ++ cntB ((x.length : Nat) : Int)).length], [.live (arrK 5 kU8 (b ++ cntB ((x.length : Nat) : Int)))]⟩) [true, true, false, false, true, true] [true]
    (oC (oS rfl rfl (r_move (av := slV tb nb kU8 b) (lt_of rfl) trivial))
    (oC (oS rfl rfl (r_move (av := slV tx nx kU8 x) (lt_of rfl) trivial))
    (oC (oS rfl rfl (q_len tx nx kU8 x Try.underlying24 (lt_of rfl) trivial))
    (oC (oS rfl rfl (r_call (ref01_Count tb nb b ((x.length : Nat) : Int) (by first | assumption | omega | (simp only [maxLen, kU8_sz, kSl_sz, k_quaestorlaw01_Item_sz]; omega) | (simp only [maxLen, kU8_sz, kSl_sz, k_quaestorlaw01_Item_sz, List.length_append, List.length_cons, List.length_nil, List.length_take, List.length_drop, List.length_set]; omega) | decide)) Try.func28 rfl (by decide) [0] [] (l := [(.tmp 6, slV tb nb kU8 b), (.tmp 8, dv (.int .i64 ((x.length : Nat) : Int)))]) [] rfl 0 1 rfl rfl rfl rfl rfl rfl rfl rfl rfl ⟨.inl ⟨rfl, rfl⟩, ⟨.inl ⟨rfl, rfl⟩, trivial⟩⟩ rfl (fun b hb => by cases hb) (.inl rfl) (lt_of rfl) trivial))
    (oC (oS rfl rfl (r_assign (av := ownV 0 kU8 0 (b ++ cntB ((x.length : Nat) : Int)).length) (lt_of rfl) trivial)) (oZ rfl))))))
    (by kernel_rfl) (by kernel_rfl) ?_
  refine nT ?_
  refine T.seq ?_
  refine tR (s1 := ⟨[slV tb nb kU8 b, slV tx nx kU8 x, AV.any, AV.any, ownV 1 kU8 0 (b ++ cntB ((x.length : Nat) : Int) ++ x).length, ownV 0 kU8 0 (b ++ cntB ((x.length : Nat) : Int)).length], [.dead, .live (arrK 5 kU8 (b ++ cntB ((x.length : Nat) : Int) ++ x))]⟩) [true, true, false, false, true, true] [true, true]
    (oC (oS rfl rfl (r_move (av := ownV 0 kU8 0 (b ++ cntB ((x.length : Nat) : Int)).length) (lt_of rfl) trivial))
    (oC (oS rfl rfl (r_move (av := slV tx nx kU8 x) (lt_of rfl) trivial))
    (oC (oS rfl rfl (q_appendO 0 1 5 1 kU8 kU8_ok (b ++ cntB ((x.length : Nat) : Int)) x (b ++ cntB ((x.length : Nat) : Int) ++ x) (b ++ cntB ((x.length : Nat) : Int)).length (sy := (.d (dsl tx nx kU8 x))) (rhs := []) elem_24 (by first | assumption | omega | (simp only [maxLen, kU8_sz, kSl_sz, k_quaestorlaw01_Item_sz]; omega) | (simp only [maxLen, kU8_sz, kSl_sz, k_quaestorlaw01_Item_sz, List.length_append, List.length_cons, List.length_nil, List.length_take, List.length_drop, List.length_set]; omega) | decide) (src_sl tx nx kU8 x) (by rw [List.take_length]) (by first | assumption | omega | (simp only [maxLen, kU8_sz, kSl_sz, k_quaestorlaw01_Item_sz]; omega) | (simp only [maxLen, kU8_sz, kSl_sz, k_quaestorlaw01_Item_sz, List.length_append, List.length_cons, List.length_nil, List.length_take, List.length_drop, List.length_set]; omega) | decide) (by first | assumption | omega | (simp only [maxLen, kU8_sz, kSl_sz, k_quaestorlaw01_Item_sz]; omega) | (simp only [maxLen, kU8_sz, kSl_sz, k_quaestorlaw01_Item_sz, List.length_append, List.length_cons, List.length_nil, List.length_take, List.length_drop, List.length_set]; omega) | decide) (lt_of rfl) trivial))
    (oC (oS rfl rfl (r_assign (av := ownV 1 kU8 0 (b ++ cntB ((x.length : Nat) : Int) ++ x).length) (lt_of rfl) trivial)) (oZ rfl)))))
    (by kernel_rfl) (by kernel_rfl) ?_
  refine nT ?_
  refine T.ret ?_
  exact tE (.inl rfl) [.t 4 (.one (.own 1 kU8.sz 0 (b ++ cntB ((x.length : Nat) : Int) ++ x).length))] ⟨⟨rfl, rfl⟩, trivial⟩ [1] (by have e1 : ((b ++ bytesB x).length : Nat) = (b ++ cntB ((x.length : Nat) : Int) ++ x).length := (by first | rfl | (simp only [bytesB, List.append_assoc])); have hE := congrArg (fun (q1 : Nat) => (ownV 1 kU8 0 q1 : AV)) e1; exact hE) rfl rfl rfl rfl rfl ⟨⟨rfl, (by have e1 : (b ++ cntB ((x.length : Nat) : Int) ++ x : List UInt8) = b ++ bytesB x := (by first | rfl | (simp only [bytesB, List.append_assoc])); have hE := congrArg (fun (q1 : List UInt8) => (.live (arrK 5 kU8 q1) : HS)) e1; exact hE)⟩, trivial⟩

-- quaestor/quaestorref01.Bits
theorem ref01_Bits (x : Nat) : Holds Try.prog 21 ⟨[dv (.float .f64 x)], [], dv (.int .u64 ((bitsF x : Nat) : Int)), []⟩ := by
  refine Holds.of Try.func21 rfl (N := 8) Try.ntmps21 rfl fun w0 B0 S0 U0 => ?_
  show T _ (mkBase 8 0 w0 S0 U0 B0) ⟨[dv (.float .f64 x)], []⟩ _ _
  refine T.seq ?_
  refine tR (s1 := ⟨[dv (.float .f64 x), AV.any, dv (.int .u64 0)], []⟩) [true, false, true] []
    (oC (oS rfl rfl (r_assign (av := dv (.int .u64 0)) (lt_of rfl) ⟨rfl, trivial⟩)) (oZ rfl))
    (by kernel_rfl) (by kernel_rfl) ?_
  refine nT ?_
  refine T.seq ?_
  refine T.seq ?_
  refine tR (s1 := ⟨[dv (.float .f64 x), AV.any, dv (.int .u64 0), AV.any, AV.any, dv (.bool (nanB x))], []⟩) [true, false, true, false, false, true] []
    (oC (oS rfl rfl (r_move (av := dv (.float .f64 x)) (lt_of rfl) trivial))
    (oC (oS rfl rfl (r_move (av := dv (.float .f64 x)) (lt_of rfl) trivial))
    (oC (oS rfl rfl (r_bin (u1 := .float .f64 x) (u2 := .float .f64 x) (v := .bool (nanB x)) b_nan (lt_of rfl) trivial)) (oZ rfl))))
    (by kernel_rfl) (by kernel_rfl) ?_
  refine nT ?_
  by_cases hq1 : (nanB x) = true
  · refine T.condT (b := (nanB x)) rfl hq1 ?_
    refine T.seq ?_
    refine tR (s1 := ⟨[dv (.float .f64 x), AV.any, dv (.int .u64 9221120237041090561), AV.any, AV.any, dv (.bool (nanB x))], []⟩) [true, false, true, false, false, true] []
      (oC (oS rfl rfl (r_assign (av := dv (.int .u64 9221120237041090561)) (lt_of rfl) ⟨rfl, trivial⟩)) (oZ rfl))
      (by kernel_rfl) (by kernel_rfl) ?_
    refine nT ?_
    refine T.ret ?_
    refine rT ?_
    exact tE (.inl rfl) [.t 2 (.one (.d (.val (.int .u64 9221120237041090561))))] ⟨⟨rfl, rfl⟩, trivial⟩ [] (by have e1 : (((bitsF x : Nat) : Int) : Int) = 9221120237041090561 := (by first | rfl | (simp [bitsF, *]; done)); have hE := congrArg (fun (q1 : Int) => (dv (.int .u64 q1) : AV)) e1; exact hE) rfl rfl rfl rfl rfl trivial
  · replace hq1 := Bool.eq_false_iff.2 hq1
    refine T.condF (b := (nanB x)) rfl hq1 ?_
    refine T.skip ?_
    refine nT ?_
    refine T.seq ?_
    refine tR (s1 := ⟨[dv (.float .f64 x), AV.any, dv (.int .u64 ((x : Nat) : Int)), AV.any, AV.any, dv (.bool (nanB x))], []⟩) [true, false, true, false, false, true] []
      (oC (oS rfl rfl (r_move (av := dv (.float .f64 x)) (lt_of rfl) trivial))
      (oC (oS rfl rfl (r_ext1 (u := .float .f64 x) (v := .int .u64 ((x : Nat) : Int)) (e := Extern.MathFloatBits.float64bits) Try.func45 (by kernel_rfl) (by kernel_rfl) (by kernel_rfl) (by kernel_rfl) (fun w => rfl) (lt_of rfl) trivial))
      (oC (oS rfl rfl (r_assign (av := dv (.int .u64 ((x : Nat) : Int))) (lt_of rfl) trivial)) (oZ rfl))))
      (by kernel_rfl) (by kernel_rfl) ?_
    refine nT ?_
    refine T.ret ?_
    exact tE (.inl rfl) [.t 2 (.one (.d (.val (.int .u64 ((x : Nat) : Int)))))] ⟨⟨rfl, rfl⟩, trivial⟩ [] (by have e1 : (((bitsF x : Nat) : Int) : Int) = ((x : Nat) : Int) := (by first | rfl | (simp [bitsF, *]; done)); have hE := congrArg (fun (q1 : Int) => (dv (.int .u64 q1) : AV)) e1; exact hE) rfl rfl rfl rfl rfl trivial
end Go.Proofs.Ytafkobdlcahdbaa.Q
