import Derived.Test.YtafkobdlcahdbaaC01n7
namespace Go.Proofs.Ytafkobdlcahdbaa.Q
open Go Go.RowKit
set_option linter.unusedVariables false
set_option linter.unusedSimpArgs false
set_option maxRecDepth 100000
set_option maxHeartbeats 4000000
-- (*quaestor/wire.Reader).Bool
theorem rd_Bool (rest : List UInt8) (e : Int) (hr : rest.length ≤ 140737488355328) : Holds Try.prog 18 ⟨[pv 0 0], [.box 37 [.d (dsl false false kU8 rest), .d (.val (.int .i64 e))]], dv (.bool (rdB rest e)), [.live (.box 37 [.d (dsl false false kU8 (rdR rest e 1 (truthE (rest.take 1)))), .d (.val (.int .i64 (rdE rest e 1 (truthE (rest.take 1)))))])]⟩ := by
  refine Holds.of Try.func18 rfl (N := 14) Try.ntmps18 rfl fun w0 B0 S0 U0 => ?_
  show T _ (mkBase 14 1 w0 S0 U0 B0) ⟨[pv 0 0], [.live (.box 37 [.d (dsl false false kU8 rest), .d (.val (.int .i64 e))])]⟩ _ _
  refine T.seq ?_
  refine tR (s1 := ⟨[pv 0 0, AV.any, dv (.bool false)], [.live (.box 37 [.d (dsl false false kU8 rest), .d (.val (.int .i64 e))])]⟩) [true, false, true] [true]
    (oC (oS rfl rfl (r_assign (av := dv (.bool false)) (lt_of rfl) ⟨rfl, trivial⟩)) (oZ rfl))
    (by kernel_rfl) (by kernel_rfl) ?_
  refine nT ?_
  refine T.seq ?_
  by_cases hq1 : okT rest e 1 (truthE (rest.take 1))
  · have hk := id hq1; simp only [okT] at hk
    refine tR (s1 := ⟨[pv 0 0, AV.any, dv (.bool false), slV false false kU8 (rest.take 1)], [.live (.box 37 [.d (dsl false false kU8 (rest.drop 1)), .d (.val (.int .i64 0))])]⟩) [true, false, true, true] [true]
      (oC (oS rfl rfl (r_move (av := pv 0 0) (lt_of rfl) trivial))
      (oC (oS rfl rfl (r_call (take_truth_ok rest e 1 (by first | assumption | omega | (simp only [maxLen, kU8_sz, kSl_sz, k_quaestorlaw01_Item_sz]; omega) | (simp only [maxLen, kU8_sz, kSl_sz, k_quaestorlaw01_Item_sz, List.length_append, List.length_cons, List.length_nil, List.length_take, List.length_drop, List.length_set]; omega) | decide) (by first | assumption | omega | (simp only [maxLen, kU8_sz, kSl_sz, k_quaestorlaw01_Item_sz]; omega) | (simp only [maxLen, kU8_sz, kSl_sz, k_quaestorlaw01_Item_sz, List.length_append, List.length_cons, List.length_nil, List.length_take, List.length_drop, List.length_set]; omega) | decide) (by first | assumption | omega | (simp only [maxLen, kU8_sz, kSl_sz, k_quaestorlaw01_Item_sz]; omega) | (simp only [maxLen, kU8_sz, kSl_sz, k_quaestorlaw01_Item_sz, List.length_append, List.length_cons, List.length_nil, List.length_take, List.length_drop, List.length_set]; omega) | decide)) Try.func40 rfl (by decide) [0] [] (l := [(.tmp 4, pv 0 0), (.const (.int .i64 1), dv (.int .i64 1)), (.func 43, dv (.func (.func 43) #[] #[]))]) [] rfl 1 1 rfl rfl rfl rfl rfl rfl rfl rfl rfl ⟨.inl ⟨rfl, rfl⟩, ⟨.inl ⟨rfl, rfl⟩, ⟨.inl ⟨rfl, rfl⟩, trivial⟩⟩⟩ rfl (fun b hb => by cases hb) (.inl rfl) (lt_of rfl) ⟨rfl, ⟨rfl, trivial⟩⟩))
      (oC (oS rfl rfl (r_assign (av := slV false false kU8 (rest.take 1)) (lt_of rfl) trivial)) (oZ rfl))))
      (by kernel_rfl) (by kernel_rfl) ?_
    refine nT ?_
    refine T.seq ?_
    refine tR (s1 := ⟨[pv 0 0, AV.any, dv (.bool (decide (((((rest.take 1).getD 0 0).toNat : Nat) : Int) = 1))), slV false false kU8 (rest.take 1)], [.live (.box 37 [.d (dsl false false kU8 (rest.drop 1)), .d (.val (.int .i64 0))])]⟩) [true, false, true, true] [true]
      (oC (oS rfl rfl (r_move (av := slV false false kU8 (rest.take 1)) (lt_of rfl) trivial))
      (oC (oS rfl rfl (r_neNil (s := .d (dsl false false kU8 (rest.take 1))) Try.underlying24 (.inr (by first | assumption | omega | (simp only [maxLen, kU8_sz, kSl_sz, k_quaestorlaw01_Item_sz]; omega) | (simp only [maxLen, kU8_sz, kSl_sz, k_quaestorlaw01_Item_sz, List.length_append, List.length_cons, List.length_nil, List.length_take, List.length_drop, List.length_set]; omega) | decide)) (lt_of rfl) ⟨rfl, trivial⟩))
      (oC (oS rfl rfl (r_move (av := dv (.bool true)) (lt_of rfl) trivial))
      (oC (oY (b := true) rfl rfl rfl rfl (lt_of rfl) rfl (r_move (av := slV false false kU8 (rest.take 1)) (lt_of rfl) trivial))
      (oC (oY (b := true) rfl rfl rfl rfl (lt_of rfl) rfl (q_index false false kU8 (rest.take 1) 0 (k := .i64) (i := 0) Try.underlying24 iat_5 rfl rfl (by first | assumption | omega | (simp only [maxLen, kU8_sz, kSl_sz, k_quaestorlaw01_Item_sz]; omega) | (simp only [maxLen, kU8_sz, kSl_sz, k_quaestorlaw01_Item_sz, List.length_append, List.length_cons, List.length_nil, List.length_take, List.length_drop, List.length_set]; omega) | decide) (lt_of rfl) ⟨rfl, trivial⟩))
      (oC (oY (b := true) rfl rfl rfl rfl (lt_of rfl) rfl (r_loadE (tag := false) (n := 1) (el := kU8.cell ((rest.take 1).getD 0 kU8.z)) (e0 := .val (.int .u8 ((((rest.take 1).getD 0 0).toNat : Nat) : Int))) wide_5 (by decide) rfl (lt_of rfl) trivial))
      (oC (oY (b := true) rfl rfl rfl rfl (lt_of rfl) rfl (r_bin (u1 := .int .u8 ((((rest.take 1).getD 0 0).toNat : Nat) : Int)) (u2 := .int .u8 1) (v := .bool (decide (((((rest.take 1).getD 0 0).toNat : Nat) : Int) = 1))) b_eql (lt_of rfl) ⟨rfl, trivial⟩))
      (oC (oS rfl rfl (r_pickT (b := true) (av := dv (.bool (decide (((((rest.take 1).getD 0 0).toNat : Nat) : Int) = 1)))) (lt_of rfl) trivial rfl))
      (oC (oS rfl rfl (r_assign (av := dv (.bool (decide (((((rest.take 1).getD 0 0).toNat : Nat) : Int) = 1)))) (lt_of rfl) trivial)) (oZ rfl))))))))))
      (by kernel_rfl) (by kernel_rfl) ?_
    refine nT ?_
    refine T.ret ?_
    exact tE (.inl rfl) [.t 2 (.one (.d (.val (.bool (decide (((((rest.take 1).getD 0 0).toNat : Nat) : Int) = 1))))))] ⟨⟨rfl, rfl⟩, trivial⟩ [0] (by have e1 : ((rdB rest e) : Bool) = (decide (((((rest.take 1).getD 0 0).toNat : Nat) : Int) = 1)) := (by first | rfl | (rw [rdE_ok (by assumption)]) | (rw [rdR_ok (by assumption)]; first | done | rfl) | (rw [rdR_no (by assumption)]) | (rw [rdB_ok (by assumption)]) | (rw [rdB_no (by assumption)])); have hE := congrArg (fun (q1 : Bool) => (dv (.bool q1) : AV)) e1; exact hE) rfl rfl rfl rfl rfl ⟨⟨rfl, (by have e1 : ((rest.drop 1) : List UInt8) = (rdR rest e 1 (truthE (rest.take 1))) := (by first | rfl | (rw [rdE_ok (by assumption)]) | (rw [rdR_ok (by assumption)]; first | done | rfl) | (rw [rdR_no (by assumption)]) | (rw [rdB_ok (by assumption)]) | (rw [rdB_no (by assumption)])); have e2 : (0 : Int) = (rdE rest e 1 (truthE (rest.take 1))) := (by first | rfl | (rw [rdE_ok (by assumption)]) | (rw [rdR_ok (by assumption)]; first | done | rfl) | (rw [rdR_no (by assumption)]) | (rw [rdB_ok (by assumption)]) | (rw [rdB_no (by assumption)])); have hE := congr (congrArg (fun (q1 : List UInt8) (q2 : Int) => (.live (.box 37 [.d (dsl false false kU8 q1), .d (.val (.int .i64 q2))]) : HS)) e1) e2; exact hE)⟩, trivial⟩
  · refine tR (s1 := ⟨[pv 0 0, AV.any, dv (.bool false), dv (.slice none 0 0)], [.live (.box 37 [.d (dsl false false kU8 rest), .d (.val (.int .i64 (rdE rest e 1 (truthE (rest.take 1)))))])]⟩) [true, false, true, true] [true]
      (oC (oS rfl rfl (r_move (av := pv 0 0) (lt_of rfl) trivial))
      (oC (oS rfl rfl (r_call (take_truth_no rest e 1 (by first | assumption | omega | (simp only [maxLen, kU8_sz, kSl_sz, k_quaestorlaw01_Item_sz]; omega) | (simp only [maxLen, kU8_sz, kSl_sz, k_quaestorlaw01_Item_sz, List.length_append, List.length_cons, List.length_nil, List.length_take, List.length_drop, List.length_set]; omega) | decide) (by first | assumption | omega | (simp only [maxLen, kU8_sz, kSl_sz, k_quaestorlaw01_Item_sz]; omega) | (simp only [maxLen, kU8_sz, kSl_sz, k_quaestorlaw01_Item_sz, List.length_append, List.length_cons, List.length_nil, List.length_take, List.length_drop, List.length_set]; omega) | decide) (by first | assumption | omega | (simp only [maxLen, kU8_sz, kSl_sz, k_quaestorlaw01_Item_sz]; omega) | (simp only [maxLen, kU8_sz, kSl_sz, k_quaestorlaw01_Item_sz, List.length_append, List.length_cons, List.length_nil, List.length_take, List.length_drop, List.length_set]; omega) | decide)) Try.func40 rfl (by decide) [0] [] (l := [(.tmp 4, pv 0 0), (.const (.int .i64 1), dv (.int .i64 1)), (.func 43, dv (.func (.func 43) #[] #[]))]) [] rfl 1 1 rfl rfl rfl rfl rfl rfl rfl rfl rfl ⟨.inl ⟨rfl, rfl⟩, ⟨.inl ⟨rfl, rfl⟩, ⟨.inl ⟨rfl, rfl⟩, trivial⟩⟩⟩ rfl (fun b hb => by cases hb) (.inl rfl) (lt_of rfl) ⟨rfl, ⟨rfl, trivial⟩⟩))
      (oC (oS rfl rfl (r_assign (av := dv (.slice none 0 0)) (lt_of rfl) trivial)) (oZ rfl))))
      (by kernel_rfl) (by kernel_rfl) ?_
    refine nT ?_
    refine T.seq ?_
    refine tR (s1 := ⟨[pv 0 0, AV.any, dv (.bool false), dv (.slice none 0 0)], [.live (.box 37 [.d (dsl false false kU8 rest), .d (.val (.int .i64 (rdE rest e 1 (truthE (rest.take 1)))))])]⟩) [true, false, true, true] [true]
      (oC (oS rfl rfl (r_move (av := dv (.slice none 0 0)) (lt_of rfl) trivial))
      (oC (oS rfl rfl (r_bin (u1 := .slice none 0 0) (u2 := .slice none 0 0) (v := .bool false) (b_neqNilS Try.underlying24) (lt_of rfl) ⟨rfl, trivial⟩))
      (oC (oS rfl rfl (r_move (av := dv (.bool false)) (lt_of rfl) trivial))
      (oC (oN (b := false) rfl rfl rfl rfl (lt_of rfl) rfl rfl (lt_of rfl))
      (oC (oN (b := false) rfl rfl rfl rfl (lt_of rfl) rfl rfl (lt_of rfl))
      (oC (oN (b := false) rfl rfl rfl rfl (lt_of rfl) rfl rfl (lt_of rfl))
      (oC (oN (b := false) rfl rfl rfl rfl (lt_of rfl) rfl rfl (lt_of rfl))
      (oC (oS rfl rfl (r_pickF (b := false) (av := dv (.bool false)) (lt_of rfl) ⟨rfl, trivial⟩ rfl))
      (oC (oS rfl rfl (r_assign (av := dv (.bool false)) (lt_of rfl) trivial)) (oZ rfl))))))))))
      (by kernel_rfl) (by kernel_rfl) ?_
    refine nT ?_
    refine T.ret ?_
    exact tE (.inl rfl) [.t 2 (.one (.d (.val (.bool false))))] ⟨⟨rfl, rfl⟩, trivial⟩ [0] (by have e1 : ((rdB rest e) : Bool) = false := (by first | rfl | (rw [rdE_ok (by assumption)]) | (rw [rdR_ok (by assumption)]; first | done | rfl) | (rw [rdR_no (by assumption)]) | (rw [rdB_ok (by assumption)]) | (rw [rdB_no (by assumption)])); have hE := congrArg (fun (q1 : Bool) => (dv (.bool q1) : AV)) e1; exact hE) rfl rfl rfl rfl rfl ⟨⟨rfl, (by have e1 : (rest : List UInt8) = (rdR rest e 1 (truthE (rest.take 1))) := (by first | rfl | (rw [rdE_ok (by assumption)]) | (rw [rdR_ok (by assumption)]; first | done | rfl) | (rw [rdR_no (by assumption)]) | (rw [rdB_ok (by assumption)]) | (rw [rdB_no (by assumption)])); have hE := congrArg (fun (q1 : List UInt8) => (.live (.box 37 [.d (dsl false false kU8 q1), .d (.val (.int .i64 (rdE rest e 1 (truthE (rest.take 1)))))]) : HS)) e1; exact hE)⟩, trivial⟩

-- (*quaestor/wire.Reader).Count
theorem rd_Count (rest : List UInt8) (e : Int) (most : Int) (hr : rest.length ≤ 140737488355328) : Holds Try.prog 19 ⟨[pv 0 0, dv (.int .i64 most)], [.box 37 [.d (dsl false false kU8 rest), .d (.val (.int .i64 e))]], dv (.int .i64 ((rdC rest e most : Nat) : Int)), [.live (.box 37 [.d (dsl false false kU8 (rdR rest e 4 (limE most (rest.take 4)))), .d (.val (.int .i64 (rdE rest e 4 (limE most (rest.take 4)))))])]⟩ := by
  refine Holds.of Try.func19 rfl (N := 15) Try.ntmps19 rfl fun w0 B0 S0 U0 => ?_
  show T _ (mkBase 15 1 w0 S0 U0 B0) ⟨[pv 0 0, dv (.int .i64 most)], [.live (.box 37 [.d (dsl false false kU8 rest), .d (.val (.int .i64 e))])]⟩ _ _
  have hi4 : numL (rest.take 4) < 4294967296 := numL_lt4 (List.length_take_le _ _)
  refine T.seq ?_
  refine tR (s1 := ⟨[pv 0 0, dv (.int .i64 most), AV.any, AV.any, dv (.int .i64 0)], [.live (.box 37 [.d (dsl false false kU8 rest), .d (.val (.int .i64 e))])]⟩) [true, true, false, false, true] [true]
    (oC (oS rfl rfl (r_assign (av := dv (.int .i64 0)) (lt_of rfl) ⟨rfl, trivial⟩)) (oZ rfl))
    (by kernel_rfl) (by kernel_rfl) ?_
  refine nT ?_
  refine T.seq ?_
  refine T.seq ?_
  by_cases hq1 : okT rest e 4 (limE most (rest.take 4))
  · have hk := id hq1; simp only [okT] at hk
    refine tR (s1 := ⟨[pv 0 0, dv (.int .i64 most), AV.any, AV.any, dv (.int .i64 0), slV false false kU8 (rest.take 4)], [.live (.box 37 [.d (dsl false false kU8 (rest.drop 4)), .d (.val (.int .i64 0))])]⟩) [true, true, false, false, true, true] [true]
      (oC (oS rfl rfl (r_move (av := pv 0 0) (lt_of rfl) trivial))
      (oC (oS rfl rfl (r_move (av := dv (.int .i64 most)) (lt_of rfl) trivial))
      (oC (oS rfl rfl (r_makeFunc (fs := [(.tmp 7, .int .i64 most)]) (cs := []) rfl rfl (lt_of rfl) trivial))
      (oC (oS rfl rfl (r_call (take_limit_ok rest e 4 most (by first | assumption | omega | (simp only [maxLen, kU8_sz, kSl_sz, k_quaestorlaw01_Item_sz]; omega) | (simp only [maxLen, kU8_sz, kSl_sz, k_quaestorlaw01_Item_sz, List.length_append, List.length_cons, List.length_nil, List.length_take, List.length_drop, List.length_set]; omega) | decide) (by first | assumption | omega | (simp only [maxLen, kU8_sz, kSl_sz, k_quaestorlaw01_Item_sz]; omega) | (simp only [maxLen, kU8_sz, kSl_sz, k_quaestorlaw01_Item_sz, List.length_append, List.length_cons, List.length_nil, List.length_take, List.length_drop, List.length_set]; omega) | decide) (by first | assumption | omega | (simp only [maxLen, kU8_sz, kSl_sz, k_quaestorlaw01_Item_sz]; omega) | (simp only [maxLen, kU8_sz, kSl_sz, k_quaestorlaw01_Item_sz, List.length_append, List.length_cons, List.length_nil, List.length_take, List.length_drop, List.length_set]; omega) | decide)) Try.func40 rfl (by decide) [0] [] (l := [(.tmp 6, pv 0 0), (.const (.int .i64 4), dv (.int .i64 4)), (.tmp 8, dv (.func (.func 44) #[.int .i64 most] #[]))]) [] rfl 1 1 rfl rfl rfl rfl rfl rfl rfl rfl rfl ⟨.inl ⟨rfl, rfl⟩, ⟨.inl ⟨rfl, rfl⟩, ⟨.inl ⟨rfl, rfl⟩, trivial⟩⟩⟩ rfl (fun b hb => by cases hb) (.inl rfl) (lt_of rfl) ⟨rfl, trivial⟩))
      (oC (oS rfl rfl (r_assign (av := slV false false kU8 (rest.take 4)) (lt_of rfl) trivial)) (oZ rfl))))))
      (by kernel_rfl) (by kernel_rfl) ?_
    refine nT ?_
    refine T.seq ?_
    refine tR (s1 := ⟨[pv 0 0, dv (.int .i64 most), AV.any, AV.any, dv (.int .i64 0), slV false false kU8 (rest.take 4), AV.any, AV.any, AV.any, AV.any, AV.any, dv (.bool true)], [.live (.box 37 [.d (dsl false false kU8 (rest.drop 4)), .d (.val (.int .i64 0))])]⟩) [true, true, false, false, true, true, false, false, false, false, false, true] [true]
      (oC (oS rfl rfl (r_move (av := slV false false kU8 (rest.take 4)) (lt_of rfl) trivial))
      (oC (oS rfl rfl (r_neNil (s := .d (dsl false false kU8 (rest.take 4))) Try.underlying24 (.inr (by first | assumption | omega | (simp only [maxLen, kU8_sz, kSl_sz, k_quaestorlaw01_Item_sz]; omega) | (simp only [maxLen, kU8_sz, kSl_sz, k_quaestorlaw01_Item_sz, List.length_append, List.length_cons, List.length_nil, List.length_take, List.length_drop, List.length_set]; omega) | decide)) (lt_of rfl) ⟨rfl, trivial⟩)) (oZ rfl)))
      (by kernel_rfl) (by kernel_rfl) ?_
    refine nT ?_
    refine T.condT (b := true) rfl rfl ?_
    refine T.seq ?_
    refine tR (s1 := ⟨[pv 0 0, dv (.int .i64 most), AV.any, AV.any, dv (.int .i64 ((numL (rest.take 4) : Nat) : Int)), slV false false kU8 (rest.take 4), AV.any, AV.any, AV.any, AV.any, AV.any, dv (.bool true)], [.live (.box 37 [.d (dsl false false kU8 (rest.drop 4)), .d (.val (.int .i64 0))])]⟩) [true, true, false, false, true, true, false, false, false, false, false, true] [true]
      (oC (oS rfl rfl (r_move (av := slV false false kU8 (rest.take 4)) (lt_of rfl) trivial))
      (oC (oS rfl rfl (r_call (wire_number false false (rest.take 4) (by first | assumption | omega | (simp only [maxLen, kU8_sz, kSl_sz, k_quaestorlaw01_Item_sz]; omega) | (simp only [maxLen, kU8_sz, kSl_sz, k_quaestorlaw01_Item_sz, List.length_append, List.length_cons, List.length_nil, List.length_take, List.length_drop, List.length_set]; omega) | decide)) Try.func42 rfl (by decide) [] [] (l := [(.tmp 12, slV false false kU8 (rest.take 4))]) [] rfl 0 0 rfl rfl rfl rfl rfl rfl rfl rfl rfl ⟨.inl ⟨rfl, rfl⟩, trivial⟩ rfl (fun b hb => by cases hb) (.inl rfl) (lt_of rfl) trivial))
      (oC (oS rfl rfl (r_conv (u := .int .u64 ((numL (rest.take 4) : Nat) : Int)) (v := .int .i64 ((numL (rest.take 4) : Nat) : Int)) (c_int Try.underlying48 Try.underlying3 (by rw [IntKind.wrap_i64]; omega)) (lt_of rfl) trivial))
      (oC (oS rfl rfl (r_assign (av := dv (.int .i64 ((numL (rest.take 4) : Nat) : Int))) (lt_of rfl) trivial)) (oZ rfl)))))
      (by kernel_rfl) (by kernel_rfl) ?_
    refine nT ?_
    refine T.ret ?_
    refine rT ?_
    exact tE (.inl rfl) [.t 4 (.one (.d (.val (.int .i64 ((numL (rest.take 4) : Nat) : Int)))))] ⟨⟨rfl, rfl⟩, trivial⟩ [0] (by have e1 : (((rdC rest e most : Nat) : Int) : Int) = ((numL (rest.take 4) : Nat) : Int) := (by first | rfl | (rw [rdE_ok (by assumption)]) | (rw [rdR_ok (by assumption)]; first | done | rfl) | (rw [rdR_no (by assumption)]) | (simp only [rdC]; first | (rw [if_pos (by assumption)]; done) | (rw [if_pos (by assumption)]; rfl) | (rw [if_neg (by assumption)]; first | done | rfl) | (simp [*]; done)) | (simp [rdB, *]; done)); have hE := congrArg (fun (q1 : Int) => (dv (.int .i64 q1) : AV)) e1; exact hE) rfl rfl rfl rfl rfl ⟨⟨rfl, (by have e1 : ((rest.drop 4) : List UInt8) = (rdR rest e 4 (limE most (rest.take 4))) := (by first | rfl | (rw [rdE_ok (by assumption)]) | (rw [rdR_ok (by assumption)]; first | done | rfl) | (rw [rdR_no (by assumption)]) | (simp only [rdC]; first | (rw [if_pos (by assumption)]; done) | (rw [if_pos (by assumption)]; rfl) | (rw [if_neg (by assumption)]; first | done | rfl) | (simp [*]; done)) | (simp [rdB, *]; done)); have e2 : (0 : Int) = (rdE rest e 4 (limE most (rest.take 4))) := (by first | rfl | (rw [rdE_ok (by assumption)]) | (rw [rdR_ok (by assumption)]; first | done | rfl) | (rw [rdR_no (by assumption)]) | (simp only [rdC]; first | (rw [if_pos (by assumption)]; done) | (rw [if_pos (by assumption)]; rfl) | (rw [if_neg (by assumption)]; first | done | rfl) | (simp [*]; done)) | (simp [rdB, *]; done)); have hE := congr (congrArg (fun (q1 : List UInt8) (q2 : Int) => (.live (.box 37 [.d (dsl false false kU8 q1), .d (.val (.int .i64 q2))]) : HS)) e1) e2; exact hE)⟩, trivial⟩
  · refine tR (s1 := ⟨[pv 0 0, dv (.int .i64 most), AV.any, AV.any, dv (.int .i64 0), dv (.slice none 0 0)], [.live (.box 37 [.d (dsl false false kU8 rest), .d (.val (.int .i64 (rdE rest e 4 (limE most (rest.take 4)))))])]⟩) [true, true, false, false, true, true] [true]
      (oC (oS rfl rfl (r_move (av := pv 0 0) (lt_of rfl) trivial))
      (oC (oS rfl rfl (r_move (av := dv (.int .i64 most)) (lt_of rfl) trivial))
      (oC (oS rfl rfl (r_makeFunc (fs := [(.tmp 7, .int .i64 most)]) (cs := []) rfl rfl (lt_of rfl) trivial))
      (oC (oS rfl rfl (r_call (take_limit_no rest e 4 most (by first | assumption | omega | (simp only [maxLen, kU8_sz, kSl_sz, k_quaestorlaw01_Item_sz]; omega) | (simp only [maxLen, kU8_sz, kSl_sz, k_quaestorlaw01_Item_sz, List.length_append, List.length_cons, List.length_nil, List.length_take, List.length_drop, List.length_set]; omega) | decide) (by first | assumption | omega | (simp only [maxLen, kU8_sz, kSl_sz, k_quaestorlaw01_Item_sz]; omega) | (simp only [maxLen, kU8_sz, kSl_sz, k_quaestorlaw01_Item_sz, List.length_append, List.length_cons, List.length_nil, List.length_take, List.length_drop, List.length_set]; omega) | decide) (by first | assumption | omega | (simp only [maxLen, kU8_sz, kSl_sz, k_quaestorlaw01_Item_sz]; omega) | (simp only [maxLen, kU8_sz, kSl_sz, k_quaestorlaw01_Item_sz, List.length_append, List.length_cons, List.length_nil, List.length_take, List.length_drop, List.length_set]; omega) | decide)) Try.func40 rfl (by decide) [0] [] (l := [(.tmp 6, pv 0 0), (.const (.int .i64 4), dv (.int .i64 4)), (.tmp 8, dv (.func (.func 44) #[.int .i64 most] #[]))]) [] rfl 1 1 rfl rfl rfl rfl rfl rfl rfl rfl rfl ⟨.inl ⟨rfl, rfl⟩, ⟨.inl ⟨rfl, rfl⟩, ⟨.inl ⟨rfl, rfl⟩, trivial⟩⟩⟩ rfl (fun b hb => by cases hb) (.inl rfl) (lt_of rfl) ⟨rfl, trivial⟩))
      (oC (oS rfl rfl (r_assign (av := dv (.slice none 0 0)) (lt_of rfl) trivial)) (oZ rfl))))))
      (by kernel_rfl) (by kernel_rfl) ?_
    refine nT ?_
    refine T.seq ?_
    refine tR (s1 := ⟨[pv 0 0, dv (.int .i64 most), AV.any, AV.any, dv (.int .i64 0), dv (.slice none 0 0), AV.any, AV.any, AV.any, AV.any, AV.any, dv (.bool false)], [.live (.box 37 [.d (dsl false false kU8 rest), .d (.val (.int .i64 (rdE rest e 4 (limE most (rest.take 4)))))])]⟩) [true, true, false, false, true, true, false, false, false, false, false, true] [true]
      (oC (oS rfl rfl (r_move (av := dv (.slice none 0 0)) (lt_of rfl) trivial))
      (oC (oS rfl rfl (r_bin (u1 := .slice none 0 0) (u2 := .slice none 0 0) (v := .bool false) (b_neqNilS Try.underlying24) (lt_of rfl) ⟨rfl, trivial⟩)) (oZ rfl)))
      (by kernel_rfl) (by kernel_rfl) ?_
    refine nT ?_
    refine T.condF (b := false) rfl rfl ?_
    refine T.skip ?_
    refine nT ?_
    refine T.seq ?_
    refine tR (s1 := ⟨[pv 0 0, dv (.int .i64 most), AV.any, AV.any, dv (.int .i64 0), dv (.slice none 0 0), AV.any, AV.any, AV.any, AV.any, AV.any, dv (.bool false)], [.live (.box 37 [.d (dsl false false kU8 rest), .d (.val (.int .i64 (rdE rest e 4 (limE most (rest.take 4)))))])]⟩) [true, true, false, false, true, true, false, false, false, false, false, true] [true]
      (oC (oS rfl rfl (r_assign (av := dv (.int .i64 0)) (lt_of rfl) ⟨rfl, trivial⟩)) (oZ rfl))
      (by kernel_rfl) (by kernel_rfl) ?_
    refine nT ?_
    refine T.ret ?_
    exact tE (.inl rfl) [.t 4 (.one (.d (.val (.int .i64 0))))] ⟨⟨rfl, rfl⟩, trivial⟩ [0] (by have e1 : (((rdC rest e most : Nat) : Int) : Int) = 0 := (by first | rfl | (rw [rdE_ok (by assumption)]) | (rw [rdR_ok (by assumption)]; first | done | rfl) | (rw [rdR_no (by assumption)]) | (simp only [rdC]; first | (rw [if_pos (by assumption)]; done) | (rw [if_pos (by assumption)]; rfl) | (rw [if_neg (by assumption)]; first | done | rfl) | (simp [*]; done)) | (simp [rdB, *]; done)); have hE := congrArg (fun (q1 : Int) => (dv (.int .i64 q1) : AV)) e1; exact hE) rfl rfl rfl rfl rfl ⟨⟨rfl, (by have e1 : (rest : List UInt8) = (rdR rest e 4 (limE most (rest.take 4))) := (by first | rfl | (rw [rdE_ok (by assumption)]) | (rw [rdR_ok (by assumption)]; first | done | rfl) | (rw [rdR_no (by assumption)]) | (simp only [rdC]; first | (rw [if_pos (by assumption)]; done) | (rw [if_pos (by assumption)]; rfl) | (rw [if_neg (by assumption)]; first | done | rfl) | (simp [*]; done)) | (simp [rdB, *]; done)); have hE := congrArg (fun (q1 : List UInt8) => (.live (.box 37 [.d (dsl false false kU8 q1), .d (.val (.int .i64 (rdE rest e 4 (limE most (rest.take 4)))))]) : HS)) e1; exact hE)⟩, trivial⟩

-- (*quaestor/wire.Reader).Num
theorem rd_Num (rest : List UInt8) (e : Int) (hr : rest.length ≤ 140737488355328) : Holds Try.prog 22 ⟨[pv 0 0], [.box 37 [.d (dsl false false kU8 rest), .d (.val (.int .i64 e))]], dv (.float .f64 (rdN rest e)), [.live (.box 37 [.d (dsl false false kU8 (rdR rest e 8 (floatE (rest.take 8)))), .d (.val (.int .i64 (rdE rest e 8 (floatE (rest.take 8)))))])]⟩ := by
  refine Holds.of Try.func22 rfl (N := 11) Try.ntmps22 rfl fun w0 B0 S0 U0 => ?_
  show T _ (mkBase 11 1 w0 S0 U0 B0) ⟨[pv 0 0], [.live (.box 37 [.d (dsl false false kU8 rest), .d (.val (.int .i64 e))])]⟩ _ _
  have hi8 : numL (rest.take 8) < 18446744073709551616 := numL_lt8 (List.length_take_le _ _)
  refine T.seq ?_
  refine tR (s1 := ⟨[pv 0 0, AV.any, dv (.float .f64 0)], [.live (.box 37 [.d (dsl false false kU8 rest), .d (.val (.int .i64 e))])]⟩) [true, false, true] [true]
    (oC (oS rfl rfl (r_assign (av := dv (.float .f64 0)) (lt_of rfl) ⟨rfl, trivial⟩)) (oZ rfl))
    (by kernel_rfl) (by kernel_rfl) ?_
  refine nT ?_
  refine T.seq ?_
  refine T.seq ?_
  by_cases hq1 : okT rest e 8 (floatE (rest.take 8))
  · have hk := id hq1; simp only [okT] at hk
    refine tR (s1 := ⟨[pv 0 0, AV.any, dv (.float .f64 0), slV false false kU8 (rest.take 8)], [.live (.box 37 [.d (dsl false false kU8 (rest.drop 8)), .d (.val (.int .i64 0))])]⟩) [true, false, true, true] [true]
      (oC (oS rfl rfl (r_move (av := pv 0 0) (lt_of rfl) trivial))
      (oC (oS rfl rfl (r_call (take_float_ok rest e 8 (by first | assumption | omega | (simp only [maxLen, kU8_sz, kSl_sz, k_quaestorlaw01_Item_sz]; omega) | (simp only [maxLen, kU8_sz, kSl_sz, k_quaestorlaw01_Item_sz, List.length_append, List.length_cons, List.length_nil, List.length_take, List.length_drop, List.length_set]; omega) | decide) (by first | assumption | omega | (simp only [maxLen, kU8_sz, kSl_sz, k_quaestorlaw01_Item_sz]; omega) | (simp only [maxLen, kU8_sz, kSl_sz, k_quaestorlaw01_Item_sz, List.length_append, List.length_cons, List.length_nil, List.length_take, List.length_drop, List.length_set]; omega) | decide) (by first | assumption | omega | (simp only [maxLen, kU8_sz, kSl_sz, k_quaestorlaw01_Item_sz]; omega) | (simp only [maxLen, kU8_sz, kSl_sz, k_quaestorlaw01_Item_sz, List.length_append, List.length_cons, List.length_nil, List.length_take, List.length_drop, List.length_set]; omega) | decide)) Try.func40 rfl (by decide) [0] [] (l := [(.tmp 4, pv 0 0), (.const (.int .i64 8), dv (.int .i64 8)), (.func 46, dv (.func (.func 46) #[] #[]))]) [] rfl 1 1 rfl rfl rfl rfl rfl rfl rfl rfl rfl ⟨.inl ⟨rfl, rfl⟩, ⟨.inl ⟨rfl, rfl⟩, ⟨.inl ⟨rfl, rfl⟩, trivial⟩⟩⟩ rfl (fun b hb => by cases hb) (.inl rfl) (lt_of rfl) ⟨rfl, ⟨rfl, trivial⟩⟩))
      (oC (oS rfl rfl (r_assign (av := slV false false kU8 (rest.take 8)) (lt_of rfl) trivial)) (oZ rfl))))
      (by kernel_rfl) (by kernel_rfl) ?_
    refine nT ?_
    refine T.seq ?_
    refine tR (s1 := ⟨[pv 0 0, AV.any, dv (.float .f64 0), slV false false kU8 (rest.take 8), AV.any, AV.any, AV.any, dv (.bool true)], [.live (.box 37 [.d (dsl false false kU8 (rest.drop 8)), .d (.val (.int .i64 0))])]⟩) [true, false, true, true, false, false, false, true] [true]
      (oC (oS rfl rfl (r_move (av := slV false false kU8 (rest.take 8)) (lt_of rfl) trivial))
      (oC (oS rfl rfl (r_neNil (s := .d (dsl false false kU8 (rest.take 8))) Try.underlying24 (.inr (by first | assumption | omega | (simp only [maxLen, kU8_sz, kSl_sz, k_quaestorlaw01_Item_sz]; omega) | (simp only [maxLen, kU8_sz, kSl_sz, k_quaestorlaw01_Item_sz, List.length_append, List.length_cons, List.length_nil, List.length_take, List.length_drop, List.length_set]; omega) | decide)) (lt_of rfl) ⟨rfl, trivial⟩)) (oZ rfl)))
      (by kernel_rfl) (by kernel_rfl) ?_
    refine nT ?_
    refine T.condT (b := true) rfl rfl ?_
    refine T.seq ?_
    refine tR (s1 := ⟨[pv 0 0, AV.any, dv (.float .f64 (numL (rest.take 8))), slV false false kU8 (rest.take 8), AV.any, AV.any, AV.any, dv (.bool true)], [.live (.box 37 [.d (dsl false false kU8 (rest.drop 8)), .d (.val (.int .i64 0))])]⟩) [true, false, true, true, false, false, false, true] [true]
      (oC (oS rfl rfl (r_move (av := slV false false kU8 (rest.take 8)) (lt_of rfl) trivial))
      (oC (oS rfl rfl (r_call (wire_number false false (rest.take 8) (by first | assumption | omega | (simp only [maxLen, kU8_sz, kSl_sz, k_quaestorlaw01_Item_sz]; omega) | (simp only [maxLen, kU8_sz, kSl_sz, k_quaestorlaw01_Item_sz, List.length_append, List.length_cons, List.length_nil, List.length_take, List.length_drop, List.length_set]; omega) | decide)) Try.func42 rfl (by decide) [] [] (l := [(.tmp 8, slV false false kU8 (rest.take 8))]) [] rfl 0 0 rfl rfl rfl rfl rfl rfl rfl rfl rfl ⟨.inl ⟨rfl, rfl⟩, trivial⟩ rfl (fun b hb => by cases hb) (.inl rfl) (lt_of rfl) trivial))
      (oC (oS rfl rfl (r_ext1 (u := .int .u64 ((numL (rest.take 8) : Nat) : Int)) (v := .float .f64 (numL (rest.take 8))) (e := Extern.MathFloatBits.float64frombits) Try.func47 (by kernel_rfl) (by kernel_rfl) (by kernel_rfl) (by kernel_rfl) (fun w => rfl) (lt_of rfl) trivial))
      (oC (oS rfl rfl (r_assign (av := dv (.float .f64 (numL (rest.take 8)))) (lt_of rfl) trivial)) (oZ rfl)))))
      (by kernel_rfl) (by kernel_rfl) ?_
    refine nT ?_
    refine T.ret ?_
    refine rT ?_
    exact tE (.inl rfl) [.t 2 (.one (.d (.val (.float .f64 (numL (rest.take 8))))))] ⟨⟨rfl, rfl⟩, trivial⟩ [0] (by have e1 : ((rdN rest e) : Nat) = numL (rest.take 8) := (by first | rfl | (rw [rdE_ok (by assumption)]) | (rw [rdR_ok (by assumption)]; first | done | rfl) | (rw [rdR_no (by assumption)]) | (simp only [rdN]; first | (rw [if_pos (by assumption)]; done) | (rw [if_pos (by assumption)]; rfl) | (rw [if_neg (by assumption)]; first | done | rfl) | (simp [*]; done)) | (simp [rdB, *]; done)); have hE := congrArg (fun (q1 : Nat) => (dv (.float .f64 q1) : AV)) e1; exact hE) rfl rfl rfl rfl rfl ⟨⟨rfl, (by have e1 : ((rest.drop 8) : List UInt8) = (rdR rest e 8 (floatE (rest.take 8))) := (by first | rfl | (rw [rdE_ok (by assumption)]) | (rw [rdR_ok (by assumption)]; first | done | rfl) | (rw [rdR_no (by assumption)]) | (simp only [rdN]; first | (rw [if_pos (by assumption)]; done) | (rw [if_pos (by assumption)]; rfl) | (rw [if_neg (by assumption)]; first | done | rfl) | (simp [*]; done)) | (simp [rdB, *]; done)); have e2 : (0 : Int) = (rdE rest e 8 (floatE (rest.take 8))) := (by first | rfl | (rw [rdE_ok (by assumption)]) | (rw [rdR_ok (by assumption)]; first | done | rfl) | (rw [rdR_no (by assumption)]) | (simp only [rdN]; first | (rw [if_pos (by assumption)]; done) | (rw [if_pos (by assumption)]; rfl) | (rw [if_neg (by assumption)]; first | done | rfl) | (simp [*]; done)) | (simp [rdB, *]; done)); have hE := congr (congrArg (fun (q1 : List UInt8) (q2 : Int) => (.live (.box 37 [.d (dsl false false kU8 q1), .d (.val (.int .i64 q2))]) : HS)) e1) e2; exact hE)⟩, trivial⟩
  · refine tR (s1 := ⟨[pv 0 0, AV.any, dv (.float .f64 0), dv (.slice none 0 0)], [.live (.box 37 [.d (dsl false false kU8 rest), .d (.val (.int .i64 (rdE rest e 8 (floatE (rest.take 8)))))])]⟩) [true, false, true, true] [true]
      (oC (oS rfl rfl (r_move (av := pv 0 0) (lt_of rfl) trivial))
      (oC (oS rfl rfl (r_call (take_float_no rest e 8 (by first | assumption | omega | (simp only [maxLen, kU8_sz, kSl_sz, k_quaestorlaw01_Item_sz]; omega) | (simp only [maxLen, kU8_sz, kSl_sz, k_quaestorlaw01_Item_sz, List.length_append, List.length_cons, List.length_nil, List.length_take, List.length_drop, List.length_set]; omega) | decide) (by first | assumption | omega | (simp only [maxLen, kU8_sz, kSl_sz, k_quaestorlaw01_Item_sz]; omega) | (simp only [maxLen, kU8_sz, kSl_sz, k_quaestorlaw01_Item_sz, List.length_append, List.length_cons, List.length_nil, List.length_take, List.length_drop, List.length_set]; omega) | decide) (by first | assumption | omega | (simp only [maxLen, kU8_sz, kSl_sz, k_quaestorlaw01_Item_sz]; omega) | (simp only [maxLen, kU8_sz, kSl_sz, k_quaestorlaw01_Item_sz, List.length_append, List.length_cons, List.length_nil, List.length_take, List.length_drop, List.length_set]; omega) | decide)) Try.func40 rfl (by decide) [0] [] (l := [(.tmp 4, pv 0 0), (.const (.int .i64 8), dv (.int .i64 8)), (.func 46, dv (.func (.func 46) #[] #[]))]) [] rfl 1 1 rfl rfl rfl rfl rfl rfl rfl rfl rfl ⟨.inl ⟨rfl, rfl⟩, ⟨.inl ⟨rfl, rfl⟩, ⟨.inl ⟨rfl, rfl⟩, trivial⟩⟩⟩ rfl (fun b hb => by cases hb) (.inl rfl) (lt_of rfl) ⟨rfl, ⟨rfl, trivial⟩⟩))
      (oC (oS rfl rfl (r_assign (av := dv (.slice none 0 0)) (lt_of rfl) trivial)) (oZ rfl))))
      (by kernel_rfl) (by kernel_rfl) ?_
    refine nT ?_
    refine T.seq ?_
    refine tR (s1 := ⟨[pv 0 0, AV.any, dv (.float .f64 0), dv (.slice none 0 0), AV.any, AV.any, AV.any, dv (.bool false)], [.live (.box 37 [.d (dsl false false kU8 rest), .d (.val (.int .i64 (rdE rest e 8 (floatE (rest.take 8)))))])]⟩) [true, false, true, true, false, false, false, true] [true]
      (oC (oS rfl rfl (r_move (av := dv (.slice none 0 0)) (lt_of rfl) trivial))
      (oC (oS rfl rfl (r_bin (u1 := .slice none 0 0) (u2 := .slice none 0 0) (v := .bool false) (b_neqNilS Try.underlying24) (lt_of rfl) ⟨rfl, trivial⟩)) (oZ rfl)))
      (by kernel_rfl) (by kernel_rfl) ?_
    refine nT ?_
    refine T.condF (b := false) rfl rfl ?_
    refine T.skip ?_
    refine nT ?_
    refine T.seq ?_
    refine tR (s1 := ⟨[pv 0 0, AV.any, dv (.float .f64 0), dv (.slice none 0 0), AV.any, AV.any, AV.any, dv (.bool false)], [.live (.box 37 [.d (dsl false false kU8 rest), .d (.val (.int .i64 (rdE rest e 8 (floatE (rest.take 8)))))])]⟩) [true, false, true, true, false, false, false, true] [true]
      (oC (oS rfl rfl (r_assign (av := dv (.float .f64 0)) (lt_of rfl) ⟨rfl, trivial⟩)) (oZ rfl))
      (by kernel_rfl) (by kernel_rfl) ?_
    refine nT ?_
    refine T.ret ?_
    exact tE (.inl rfl) [.t 2 (.one (.d (.val (.float .f64 0))))] ⟨⟨rfl, rfl⟩, trivial⟩ [0] (by have e1 : ((rdN rest e) : Nat) = 0 := (by first | rfl | (rw [rdE_ok (by assumption)]) | (rw [rdR_ok (by assumption)]; first | done | rfl) | (rw [rdR_no (by assumption)]) | (simp only [rdN]; first | (rw [if_pos (by assumption)]; done) | (rw [if_pos (by assumption)]; rfl) | (rw [if_neg (by assumption)]; first | done | rfl) | (simp [*]; done)) | (simp [rdB, *]; done)); have hE := congrArg (fun (q1 : Nat) => (dv (.float .f64 q1) : AV)) e1; exact hE) rfl rfl rfl rfl rfl ⟨⟨rfl, (by have e1 : (rest : List UInt8) = (rdR rest e 8 (floatE (rest.take 8))) := (by first | rfl | (rw [rdE_ok (by assumption)]) | (rw [rdR_ok (by assumption)]; first | done | rfl) | (rw [rdR_no (by assumption)]) | (simp only [rdN]; first | (rw [if_pos (by assumption)]; done) | (rw [if_pos (by assumption)]; rfl) | (rw [if_neg (by assumption)]; first | done | rfl) | (simp [*]; done)) | (simp [rdB, *]; done)); have hE := congrArg (fun (q1 : List UInt8) => (.live (.box 37 [.d (dsl false false kU8 q1), .d (.val (.int .i64 (rdE rest e 8 (floatE (rest.take 8)))))]) : HS)) e1; exact hE)⟩, trivial⟩

-- (*quaestor/wire.Reader).End
theorem rd_End (rest : List UInt8) (e : Int) (hr : rest.length ≤ 140737488355328) : Holds Try.prog 14 ⟨[pv 0 0], [.box 37 [.d (dsl false false kU8 rest), .d (.val (.int .i64 e))]], .tup [], [.live (.box 37 [.d (dsl false false kU8 rest), .d (.val (.int .i64 (rdX rest e)))])]⟩ := by
  refine Holds.of Try.func14 rfl (N := 22) Try.ntmps14 rfl fun w0 B0 S0 U0 => ?_
  show T _ (mkBase 22 1 w0 S0 U0 B0) ⟨[pv 0 0], [.live (.box 37 [.d (dsl false false kU8 rest), .d (.val (.int .i64 e))])]⟩ _ _
  refine T.seq ?_
  by_cases hq1 : e = 0
  · refine tR (s1 := ⟨[pv 0 0, AV.any, AV.any, AV.any, AV.any, AV.any, AV.any, AV.any, AV.any, AV.any, AV.any, AV.any, AV.any, AV.any, AV.any, AV.any, AV.any, AV.any, dv (.bool (decide (((rest.length : Nat) : Int) > 0)))], [.live (.box 37 [.d (dsl false false kU8 rest), .d (.val (.int .i64 e))])]⟩) [true, false, false, false, false, false, false, false, false, false, false, false, false, false, false, false, false, false, true] [true]
      (oC (oS rfl rfl (r_move (av := pv 0 0) (lt_of rfl) trivial))
      (oC (oS rfl rfl (r_neNilP (av := pv 0 0) Try.underlying34 rfl (lt_of rfl) ⟨rfl, trivial⟩))
      (oC (oS rfl rfl (r_move (av := dv (.bool true)) (lt_of rfl) trivial))
      (oC (oY (b := true) rfl rfl rfl rfl (lt_of rfl) rfl (r_move (av := pv 0 0) (lt_of rfl) trivial))
      (oC (oY (b := true) rfl rfl rfl rfl (lt_of rfl) rfl (r_nilCheck (av := pv 0 0) rfl (lt_of rfl) trivial))
      (oC (oY (b := true) rfl rfl rfl rfl (lt_of rfl) rfl (r_fieldAddr (l := 0) (off := 0) fld_37_1 (lt_of rfl) trivial))
      (oC (oY (b := true) rfl rfl rfl rfl (lt_of rfl) rfl (r_loadB (l := 0) (off := 1) (T := 37) (cs := [.d (dsl false false kU8 rest), .d (.val (.int .i64 e))]) (c := .d (.val (.int .i64 e))) wide_35 rfl (lt_of rfl) trivial))
      (oC (oY (b := true) rfl rfl rfl rfl (lt_of rfl) rfl (r_bin (u1 := .int .i64 e) (u2 := .int .i64 0) (v := .bool (decide (e = 0))) b_eql (lt_of rfl) ⟨rfl, trivial⟩))
      (oC (oS rfl rfl (r_pickT (b := true) (av := dv (.bool (decide (e = 0)))) (lt_of rfl) trivial rfl))
      (oC (oS rfl rfl (r_move (av := dv (.bool (decide (e = 0)))) (lt_of rfl) trivial))
      (oC (oY (b := (decide (e = 0))) rfl rfl rfl rfl (lt_of rfl) (decide_eq_true hq1) (r_move (av := pv 0 0) (lt_of rfl) trivial))
      (oC (oY (b := (decide (e = 0))) rfl rfl rfl rfl (lt_of rfl) (decide_eq_true hq1) (r_nilCheck (av := pv 0 0) rfl (lt_of rfl) trivial))
      (oC (oY (b := (decide (e = 0))) rfl rfl rfl rfl (lt_of rfl) (decide_eq_true hq1) (r_fieldAddr (l := 0) (off := 0) fld_37_0 (lt_of rfl) trivial))
      (oC (oY (b := (decide (e = 0))) rfl rfl rfl rfl (lt_of rfl) (decide_eq_true hq1) (r_loadB (l := 0) (off := 0) (T := 37) (cs := [.d (dsl false false kU8 rest), .d (.val (.int .i64 e))]) (c := .d (dsl false false kU8 rest)) wide_24 rfl (lt_of rfl) trivial))
      (oC (oY (b := (decide (e = 0))) rfl rfl rfl rfl (lt_of rfl) (decide_eq_true hq1) (q_len false false kU8 rest Try.underlying24 (lt_of rfl) trivial))
      (oC (oY (b := (decide (e = 0))) rfl rfl rfl rfl (lt_of rfl) (decide_eq_true hq1) (r_bin (u1 := .int .i64 ((rest.length : Nat) : Int)) (u2 := .int .i64 0) (v := .bool (decide (((rest.length : Nat) : Int) > 0))) b_gtr (lt_of rfl) ⟨rfl, trivial⟩))
      (oC (oS rfl rfl (r_pickT (b := (decide (e = 0))) (av := dv (.bool (decide (((rest.length : Nat) : Int) > 0)))) (lt_of rfl) trivial (decide_eq_true hq1))) (oZ rfl))))))))))))))))))
      (by kernel_rfl) (by kernel_rfl) ?_
    refine nT ?_
    by_cases hq2 : ((rest.length : Nat) : Int) > 0
    · refine T.condT (b := (decide (((rest.length : Nat) : Int) > 0))) rfl (decide_eq_true hq2) ?_
      refine tR (s1 := ⟨[pv 0 0, AV.any, AV.any, AV.any, AV.any, AV.any, AV.any, AV.any, AV.any, AV.any, AV.any, AV.any, AV.any, AV.any, AV.any, AV.any, AV.any, AV.any, dv (.bool (decide (((rest.length : Nat) : Int) > 0)))], [.live (.box 37 [.d (dsl false false kU8 rest), .d (.val (.int .i64 13))])]⟩) [true, false, false, false, false, false, false, false, false, false, false, false, false, false, false, false, false, false, true] [true]
        (oC (oS rfl rfl (r_move (av := pv 0 0) (lt_of rfl) trivial))
        (oC (oS rfl rfl (r_nilCheck (av := pv 0 0) rfl (lt_of rfl) trivial))
        (oC (oS rfl rfl (r_fieldAddr (l := 0) (off := 0) fld_37_1 (lt_of rfl) trivial))
        (oC (oS rfl rfl (r_store (l := 0) (off := 1) (n := 1) (T := 37) (cs := [.d (dsl false false kU8 rest), .d (.val (.int .i64 e))]) (cs' := [.d (dsl false false kU8 rest), .d (.val (.int .i64 13))]) (tv := .one (.d (.val (.int .i64 13)))) cells_35 rfl (Nat.le_of_ble_eq_true rfl) rfl rfl ⟨rfl, trivial⟩)) (oZ rfl)))))
        (by kernel_rfl) (by kernel_rfl) ?_
      exact tE (.inr rfl) [] trivial [0] rfl rfl rfl rfl rfl rfl ⟨⟨rfl, (by have e1 : (13 : Int) = (rdX rest e) := (by first | rfl | (simp only [rdX]; first | rw [if_pos ⟨by assumption, by assumption⟩] | rw [if_neg (fun h => by first | exact absurd h.1 (by assumption) | exact absurd h.2 (by assumption))])); have hE := congrArg (fun (q1 : Int) => (.live (.box 37 [.d (dsl false false kU8 rest), .d (.val (.int .i64 q1))]) : HS)) e1; exact hE)⟩, trivial⟩
    · refine T.condF (b := (decide (((rest.length : Nat) : Int) > 0))) rfl (decide_eq_false hq2) ?_
      refine T.skip ?_
      exact tE (.inr rfl) [] trivial [0] rfl rfl rfl rfl rfl rfl ⟨⟨rfl, (by have e1 : (e : Int) = (rdX rest e) := (by first | rfl | (simp only [rdX]; first | rw [if_pos ⟨by assumption, by assumption⟩] | rw [if_neg (fun h => by first | exact absurd h.1 (by assumption) | exact absurd h.2 (by assumption))])); have hE := congrArg (fun (q1 : Int) => (.live (.box 37 [.d (dsl false false kU8 rest), .d (.val (.int .i64 q1))]) : HS)) e1; exact hE)⟩, trivial⟩
  · refine tR (s1 := ⟨[pv 0 0, AV.any, AV.any, AV.any, AV.any, AV.any, AV.any, AV.any, AV.any, AV.any, AV.any, AV.any, AV.any, AV.any, AV.any, AV.any, AV.any, AV.any, dv (.bool false)], [.live (.box 37 [.d (dsl false false kU8 rest), .d (.val (.int .i64 e))])]⟩) [true, false, false, false, false, false, false, false, false, false, false, false, false, false, false, false, false, false, true] [true]
      (oC (oS rfl rfl (r_move (av := pv 0 0) (lt_of rfl) trivial))
      (oC (oS rfl rfl (r_neNilP (av := pv 0 0) Try.underlying34 rfl (lt_of rfl) ⟨rfl, trivial⟩))
      (oC (oS rfl rfl (r_move (av := dv (.bool true)) (lt_of rfl) trivial))
      (oC (oY (b := true) rfl rfl rfl rfl (lt_of rfl) rfl (r_move (av := pv 0 0) (lt_of rfl) trivial))
      (oC (oY (b := true) rfl rfl rfl rfl (lt_of rfl) rfl (r_nilCheck (av := pv 0 0) rfl (lt_of rfl) trivial))
      (oC (oY (b := true) rfl rfl rfl rfl (lt_of rfl) rfl (r_fieldAddr (l := 0) (off := 0) fld_37_1 (lt_of rfl) trivial))
      (oC (oY (b := true) rfl rfl rfl rfl (lt_of rfl) rfl (r_loadB (l := 0) (off := 1) (T := 37) (cs := [.d (dsl false false kU8 rest), .d (.val (.int .i64 e))]) (c := .d (.val (.int .i64 e))) wide_35 rfl (lt_of rfl) trivial))
      (oC (oY (b := true) rfl rfl rfl rfl (lt_of rfl) rfl (r_bin (u1 := .int .i64 e) (u2 := .int .i64 0) (v := .bool (decide (e = 0))) b_eql (lt_of rfl) ⟨rfl, trivial⟩))
      (oC (oS rfl rfl (r_pickT (b := true) (av := dv (.bool (decide (e = 0)))) (lt_of rfl) trivial rfl))
      (oC (oS rfl rfl (r_move (av := dv (.bool (decide (e = 0)))) (lt_of rfl) trivial))
      (oC (oN (b := (decide (e = 0))) rfl rfl rfl rfl (lt_of rfl) (decide_eq_false hq1) rfl (lt_of rfl))
      (oC (oN (b := (decide (e = 0))) rfl rfl rfl rfl (lt_of rfl) (decide_eq_false hq1) rfl (lt_of rfl))
      (oC (oN (b := (decide (e = 0))) rfl rfl rfl rfl (lt_of rfl) (decide_eq_false hq1) rfl (lt_of rfl))
      (oC (oN (b := (decide (e = 0))) rfl rfl rfl rfl (lt_of rfl) (decide_eq_false hq1) rfl (lt_of rfl))
      (oC (oN (b := (decide (e = 0))) rfl rfl rfl rfl (lt_of rfl) (decide_eq_false hq1) rfl (lt_of rfl))
      (oC (oN (b := (decide (e = 0))) rfl rfl rfl rfl (lt_of rfl) (decide_eq_false hq1) rfl (lt_of rfl))
      (oC (oS rfl rfl (r_pickF (b := (decide (e = 0))) (av := dv (.bool false)) (lt_of rfl) ⟨rfl, trivial⟩ (decide_eq_false hq1))) (oZ rfl))))))))))))))))))
      (by kernel_rfl) (by kernel_rfl) ?_
    refine nT ?_
    refine T.condF (b := false) rfl rfl ?_
    refine T.skip ?_
    exact tE (.inr rfl) [] trivial [0] rfl rfl rfl rfl rfl rfl ⟨⟨rfl, (by have e1 : (e : Int) = (rdX rest e) := (by first | rfl | (simp only [rdX]; first | rw [if_pos ⟨by assumption, by assumption⟩] | rw [if_neg (fun h => by first | exact absurd h.1 (by assumption) | exact absurd h.2 (by assumption))])); have hE := congrArg (fun (q1 : Int) => (.live (.box 37 [.d (dsl false false kU8 rest), .d (.val (.int .i64 q1))]) : HS)) e1; exact hE)⟩, trivial⟩
end Go.Proofs.Ytafkobdlcahdbaa.Q
