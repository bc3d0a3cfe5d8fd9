import Derived.Test.YtlabmehgcfgigaaC04n17
namespace Go.Proofs.Ytlabmehgcfgigaa.Q
open Go Go.RowKit
set_option linter.unusedVariables false
set_option linter.unusedSimpArgs false
set_option maxRecDepth 100000
set_option maxHeartbeats 4000000
-- (*quaestor/wire.Reader).Int
theorem rd_Int (rest : List UInt8) (e : Int) (hr : rest.length ≤ 140737488355328) : Holds Try.prog 62 ⟨[pv 0 0], [.box 76 [.d (dsl false false kU8 rest), .d (.val (.int .i64 e))]], dv (.int .i64 (rdI rest e)), [.live (.box 76 [.d (dsl false false kU8 (rdR rest e 8 0)), .d (.val (.int .i64 (rdE rest e 8 0)))])]⟩ := by
  refine Holds.of Try.func62 rfl (N := 11) Try.ntmps62 rfl fun w0 B0 S0 U0 => ?_
  show T _ (mkBase 11 1 w0 S0 U0 B0) ⟨[pv 0 0], [.live (.box 76 [.d (dsl false false kU8 rest), .d (.val (.int .i64 e))])]⟩ _ _
  have hi8 : numL (rest.take 8) < 18446744073709551616 := numL_lt8 (List.length_take_le _ _)
  refine T.seq ?_
  refine xR [] (by kernel_rfl) (by kernel_rfl) ?_
  refine nT ?_
  refine T.seq ?_
  refine T.seq ?_
  by_cases hq1 : okT rest e 8 0
  · have hk := id hq1; simp only [okT] at hk
    refine xR [hR 1 rfl rfl (r_call (take_any_ok rest e 8 (by first | assumption | omega | (unfold maxLen; omega) | (simp [maxLen, -List.getD_eq_getElem?_getD] <;> omega) | decide) (by first | assumption | omega | (unfold maxLen; omega) | (simp [maxLen, -List.getD_eq_getElem?_getD] <;> omega) | decide) (by first | assumption | omega | (unfold maxLen; omega) | (simp [maxLen, -List.getD_eq_getElem?_getD] <;> omega) | decide)) Try.func89 rfl (by decide) [0] [] (l := [(.tmp 4, pv 0 0), (.const (.int .i64 8), dv (.int .i64 8)), (.func 90, dv (.func (.func 90) #[] #[]))]) [] rfl 1 1 rfl rfl rfl rfl rfl rfl rfl rfl rfl ⟨.inl ⟨rfl, rfl⟩, ⟨.inl ⟨rfl, rfl⟩, ⟨.inl ⟨rfl, rfl⟩, trivial⟩⟩⟩ rfl (fun b hb => by cases hb) (.inl rfl) (lt_of rfl) ⟨rfl, ⟨rfl, trivial⟩⟩)] (by kernel_rfl) (by kernel_rfl) ?_
    refine nT ?_
    refine T.seq ?_
    refine xR [hR 1 rfl rfl (r_neNil (s := .d (dsl false false kU8 (rest.take 8))) Try.underlying47 (.inr (by first | assumption | omega | (unfold maxLen; omega) | (simp [maxLen, -List.getD_eq_getElem?_getD] <;> omega) | decide)) (lt_of rfl) ⟨rfl, trivial⟩)] (by kernel_rfl) (by kernel_rfl) ?_
    refine nT ?_
    refine T.condT (b := true) (by kernel_rfl) rfl ?_
    refine T.seq ?_
    refine xR [hR 1 rfl rfl (r_call (wire_number false false (rest.take 8) (by first | assumption | omega | (unfold maxLen; omega) | (simp [maxLen, -List.getD_eq_getElem?_getD] <;> omega) | decide)) Try.func91 rfl (by decide) [] [] (l := [(.tmp 8, slV false false kU8 (rest.take 8))]) [] rfl 0 0 rfl rfl rfl rfl rfl rfl rfl rfl rfl ⟨.inl ⟨rfl, rfl⟩, trivial⟩ rfl (fun b hb => by cases hb) (.inl rfl) (lt_of rfl) trivial),
      hR 2 rfl rfl (r_conv (u := .int .u64 ((numL (rest.take 8) : Nat) : Int)) (v := .int .i64 (toI64 (numL (rest.take 8)))) (c_i64 (by first | assumption | omega | (unfold maxLen; omega) | (simp [maxLen, -List.getD_eq_getElem?_getD] <;> omega) | decide) Try.underlying64 Try.underlying2) (lt_of rfl) trivial)] (by kernel_rfl) (by kernel_rfl) ?_
    refine nT ?_
    refine T.ret ?_
    refine rT ?_
    exact tE (.inl rfl) [.t 2 (.one (.d (.val (.int .i64 (toI64 (numL (rest.take 8)))))))] ⟨⟨rfl, by kernel_rfl⟩, trivial⟩ [0] (by have e1 : (rdI rest e : Int) = toI64 (numL (rest.take 8)) := (by first | rfl | (rw [rdE_ok (by assumption)]) | (rw [rdR_ok (by assumption)]; first | done | rfl) | (rw [rdR_no (by assumption)]) | (simp only [rdI]; first | (rw [if_pos (by assumption)]; done) | (rw [if_pos (by assumption)]; rfl) | (rw [if_neg (by assumption)]; first | done | rfl) | (simp [*]; done)) | (simp [rdB, *]; done)); have hE := congrArg (fun (q1 : Int) => (dv (.int .i64 q1) : AV)) e1; exact hE) rfl rfl rfl rfl rfl ⟨⟨rfl, (by have e1 : ((rest.drop 8) : List UInt8) = (rdR rest e 8 0) := (by first | rfl | (rw [rdE_ok (by assumption)]) | (rw [rdR_ok (by assumption)]; first | done | rfl) | (rw [rdR_no (by assumption)]) | (simp only [rdI]; first | (rw [if_pos (by assumption)]; done) | (rw [if_pos (by assumption)]; rfl) | (rw [if_neg (by assumption)]; first | done | rfl) | (simp [*]; done)) | (simp [rdB, *]; done)); have e2 : (0 : Int) = (rdE rest e 8 0) := (by first | rfl | (rw [rdE_ok (by assumption)]) | (rw [rdR_ok (by assumption)]; first | done | rfl) | (rw [rdR_no (by assumption)]) | (simp only [rdI]; first | (rw [if_pos (by assumption)]; done) | (rw [if_pos (by assumption)]; rfl) | (rw [if_neg (by assumption)]; first | done | rfl) | (simp [*]; done)) | (simp [rdB, *]; done)); have hE := congr (congrArg (fun (q1 : List UInt8) (q2 : Int) => (.live (.box 76 [.d (dsl false false kU8 q1), .d (.val (.int .i64 q2))]) : HS)) e1) e2; exact Eq.trans (by kernel_rfl) hE)⟩, trivial⟩
  · refine xR [hR 1 rfl rfl (r_call (take_any_no rest e 8 (by first | assumption | omega | (unfold maxLen; omega) | (simp [maxLen, -List.getD_eq_getElem?_getD] <;> omega) | decide) (by first | assumption | omega | (unfold maxLen; omega) | (simp [maxLen, -List.getD_eq_getElem?_getD] <;> omega) | decide) (by first | assumption | omega | (unfold maxLen; omega) | (simp [maxLen, -List.getD_eq_getElem?_getD] <;> omega) | decide)) Try.func89 rfl (by decide) [0] [] (l := [(.tmp 4, pv 0 0), (.const (.int .i64 8), dv (.int .i64 8)), (.func 90, dv (.func (.func 90) #[] #[]))]) [] rfl 1 1 rfl rfl rfl rfl rfl rfl rfl rfl rfl ⟨.inl ⟨rfl, rfl⟩, ⟨.inl ⟨rfl, rfl⟩, ⟨.inl ⟨rfl, rfl⟩, trivial⟩⟩⟩ rfl (fun b hb => by cases hb) (.inl rfl) (lt_of rfl) ⟨rfl, ⟨rfl, trivial⟩⟩)] (by kernel_rfl) (by kernel_rfl) ?_
    refine nT ?_
    refine T.seq ?_
    refine xR [hR 1 rfl rfl (r_bin (u1 := .slice none 0 0) (u2 := .slice none 0 0) (v := .bool false) (b_neqNilS Try.underlying47) (lt_of rfl) ⟨rfl, trivial⟩)] (by kernel_rfl) (by kernel_rfl) ?_
    refine nT ?_
    refine T.condF (b := false) (by kernel_rfl) rfl ?_
    refine T.skip ?_
    refine nT ?_
    refine T.seq ?_
    refine xR [] (by kernel_rfl) (by kernel_rfl) ?_
    refine nT ?_
    refine T.ret ?_
    exact tE (.inl rfl) [.t 2 (.one (.d (.val (.int .i64 0))))] ⟨⟨rfl, by kernel_rfl⟩, trivial⟩ [0] (by have e1 : (rdI rest e : Int) = 0 := (by first | rfl | (rw [rdE_ok (by assumption)]) | (rw [rdR_ok (by assumption)]; first | done | rfl) | (rw [rdR_no (by assumption)]) | (simp only [rdI]; first | (rw [if_pos (by assumption)]; done) | (rw [if_pos (by assumption)]; rfl) | (rw [if_neg (by assumption)]; first | done | rfl) | (simp [*]; done)) | (simp [rdB, *]; done)); have hE := congrArg (fun (q1 : Int) => (dv (.int .i64 q1) : AV)) e1; exact hE) rfl rfl rfl rfl rfl ⟨⟨rfl, (by have e1 : (rest : List UInt8) = (rdR rest e 8 0) := (by first | rfl | (rw [rdE_ok (by assumption)]) | (rw [rdR_ok (by assumption)]; first | done | rfl) | (rw [rdR_no (by assumption)]) | (simp only [rdI]; first | (rw [if_pos (by assumption)]; done) | (rw [if_pos (by assumption)]; rfl) | (rw [if_neg (by assumption)]; first | done | rfl) | (simp [*]; done)) | (simp [rdB, *]; done)); have hE := congrArg (fun (q1 : List UInt8) => (.live (.box 76 [.d (dsl false false kU8 q1), .d (.val (.int .i64 (rdE rest e 8 0)))]) : HS)) e1; exact Eq.trans (by kernel_rfl) hE)⟩, trivial⟩
end Go.Proofs.Ytlabmehgcfgigaa.Q
namespace Go.Proofs.Ytlabmehgcfgigaa.Q
open Go Go.RowKit
set_option linter.unusedVariables false
set_option linter.unusedSimpArgs false
set_option maxRecDepth 100000
set_option maxHeartbeats 4000000
-- (*quaestor/wire.Reader).Bool
theorem rd_Bool (rest : List UInt8) (e : Int) (hr : rest.length ≤ 140737488355328) : Holds Try.prog 64 ⟨[pv 0 0], [.box 76 [.d (dsl false false kU8 rest), .d (.val (.int .i64 e))]], dv (.bool (rdB rest e)), [.live (.box 76 [.d (dsl false false kU8 (rdR rest e 1 (truthE (rest.take 1)))), .d (.val (.int .i64 (rdE rest e 1 (truthE (rest.take 1)))))])]⟩ := by
  refine Holds.of Try.func64 rfl (N := 14) Try.ntmps64 rfl fun w0 B0 S0 U0 => ?_
  show T _ (mkBase 14 1 w0 S0 U0 B0) ⟨[pv 0 0], [.live (.box 76 [.d (dsl false false kU8 rest), .d (.val (.int .i64 e))])]⟩ _ _
  refine T.seq ?_
  refine xR [] (by kernel_rfl) (by kernel_rfl) ?_
  refine nT ?_
  refine T.seq ?_
  by_cases hq1 : okT rest e 1 (truthE (rest.take 1))
  · have hk := id hq1; simp only [okT] at hk
    refine xR [hR 1 rfl rfl (r_call (take_truth_ok rest e 1 (by first | assumption | omega | (unfold maxLen; omega) | (simp [maxLen, -List.getD_eq_getElem?_getD] <;> omega) | decide) (by first | assumption | omega | (unfold maxLen; omega) | (simp [maxLen, -List.getD_eq_getElem?_getD] <;> omega) | decide) (by first | assumption | omega | (unfold maxLen; omega) | (simp [maxLen, -List.getD_eq_getElem?_getD] <;> omega) | decide)) Try.func89 rfl (by decide) [0] [] (l := [(.tmp 4, pv 0 0), (.const (.int .i64 1), dv (.int .i64 1)), (.func 92, dv (.func (.func 92) #[] #[]))]) [] rfl 1 1 rfl rfl rfl rfl rfl rfl rfl rfl rfl ⟨.inl ⟨rfl, rfl⟩, ⟨.inl ⟨rfl, rfl⟩, ⟨.inl ⟨rfl, rfl⟩, trivial⟩⟩⟩ rfl (fun b hb => by cases hb) (.inl rfl) (lt_of rfl) ⟨rfl, ⟨rfl, trivial⟩⟩)] (by kernel_rfl) (by kernel_rfl) ?_
    refine nT ?_
    refine T.seq ?_
    refine xR [hR 1 rfl rfl (r_neNil (s := .d (dsl false false kU8 (rest.take 1))) Try.underlying47 (.inr (by first | assumption | omega | (unfold maxLen; omega) | (simp [maxLen, -List.getD_eq_getElem?_getD] <;> omega) | decide)) (lt_of rfl) ⟨rfl, trivial⟩),
      hY 3 (b := true) (w := true) rfl,
      hS 4 (oY (b := true) rfl rfl rfl rfl (lt_of rfl) rfl (q_index false false kU8 (rest.take 1) 0 (k := .i64) (i := 0) Try.underlying47 iat_5 rfl rfl (by first | assumption | omega | (unfold maxLen; omega) | (simp [maxLen, -List.getD_eq_getElem?_getD] <;> omega) | decide) (lt_of rfl) ⟨rfl, trivial⟩)),
      hY 5 (b := true) (w := true) rfl,
      hY 6 (b := true) (w := true) rfl,
      hP 7 (b := true) (w := true) rfl] (by kernel_rfl) (by kernel_rfl) ?_
    refine nT ?_
    refine T.ret ?_
    exact tE (.inl rfl) [.t 2 (.one (.d (.val (.bool (decide (((((rest.take 1).getD 0 0).toNat : Nat) : Int) = 1))))))] ⟨⟨rfl, by kernel_rfl⟩, trivial⟩ [0] (by have e1 : ((rdB rest e) : Bool) = (decide (((((rest.take 1).getD 0 0).toNat : Nat) : Int) = 1)) := (by first | rfl | (rw [rdE_ok (by assumption)]) | (rw [rdR_ok (by assumption)]; first | done | rfl) | (rw [rdR_no (by assumption)]) | (rw [rdB_ok (by assumption)]) | (rw [rdB_no (by assumption)])); have hE := congrArg (fun (q1 : Bool) => (dv (.bool q1) : AV)) e1; exact hE) rfl rfl rfl rfl rfl ⟨⟨rfl, (by have e1 : ((rest.drop 1) : List UInt8) = (rdR rest e 1 (truthE (rest.take 1))) := (by first | rfl | (rw [rdE_ok (by assumption)]) | (rw [rdR_ok (by assumption)]; first | done | rfl) | (rw [rdR_no (by assumption)]) | (rw [rdB_ok (by assumption)]) | (rw [rdB_no (by assumption)])); have e2 : (0 : Int) = (rdE rest e 1 (truthE (rest.take 1))) := (by first | rfl | (rw [rdE_ok (by assumption)]) | (rw [rdR_ok (by assumption)]; first | done | rfl) | (rw [rdR_no (by assumption)]) | (rw [rdB_ok (by assumption)]) | (rw [rdB_no (by assumption)])); have hE := congr (congrArg (fun (q1 : List UInt8) (q2 : Int) => (.live (.box 76 [.d (dsl false false kU8 q1), .d (.val (.int .i64 q2))]) : HS)) e1) e2; exact Eq.trans (by kernel_rfl) hE)⟩, trivial⟩
  · refine xR [hR 1 rfl rfl (r_call (take_truth_no rest e 1 (by first | assumption | omega | (unfold maxLen; omega) | (simp [maxLen, -List.getD_eq_getElem?_getD] <;> omega) | decide) (by first | assumption | omega | (unfold maxLen; omega) | (simp [maxLen, -List.getD_eq_getElem?_getD] <;> omega) | decide) (by first | assumption | omega | (unfold maxLen; omega) | (simp [maxLen, -List.getD_eq_getElem?_getD] <;> omega) | decide)) Try.func89 rfl (by decide) [0] [] (l := [(.tmp 4, pv 0 0), (.const (.int .i64 1), dv (.int .i64 1)), (.func 92, dv (.func (.func 92) #[] #[]))]) [] rfl 1 1 rfl rfl rfl rfl rfl rfl rfl rfl rfl ⟨.inl ⟨rfl, rfl⟩, ⟨.inl ⟨rfl, rfl⟩, ⟨.inl ⟨rfl, rfl⟩, trivial⟩⟩⟩ rfl (fun b hb => by cases hb) (.inl rfl) (lt_of rfl) ⟨rfl, ⟨rfl, trivial⟩⟩)] (by kernel_rfl) (by kernel_rfl) ?_
    refine nT ?_
    refine T.seq ?_
    refine xR [hR 1 rfl rfl (r_bin (u1 := .slice none 0 0) (u2 := .slice none 0 0) (v := .bool false) (b_neqNilS Try.underlying47) (lt_of rfl) ⟨rfl, trivial⟩),
      hN 3 (b := false) true rfl,
      hN 4 (b := false) true rfl,
      hN 5 (b := false) true rfl,
      hN 6 (b := false) true rfl,
      hP 7 (b := false) (w := false) rfl] (by kernel_rfl) (by kernel_rfl) ?_
    refine nT ?_
    refine T.ret ?_
    exact tE (.inl rfl) [.t 2 (.one (.d (.val (.bool false))))] ⟨⟨rfl, by kernel_rfl⟩, trivial⟩ [0] (by have e1 : ((rdB rest e) : Bool) = false := (by first | rfl | (rw [rdE_ok (by assumption)]) | (rw [rdR_ok (by assumption)]; first | done | rfl) | (rw [rdR_no (by assumption)]) | (rw [rdB_ok (by assumption)]) | (rw [rdB_no (by assumption)])); have hE := congrArg (fun (q1 : Bool) => (dv (.bool q1) : AV)) e1; exact hE) rfl rfl rfl rfl rfl ⟨⟨rfl, (by have e1 : (rest : List UInt8) = (rdR rest e 1 (truthE (rest.take 1))) := (by first | rfl | (rw [rdE_ok (by assumption)]) | (rw [rdR_ok (by assumption)]; first | done | rfl) | (rw [rdR_no (by assumption)]) | (rw [rdB_ok (by assumption)]) | (rw [rdB_no (by assumption)])); have hE := congrArg (fun (q1 : List UInt8) => (.live (.box 76 [.d (dsl false false kU8 q1), .d (.val (.int .i64 (rdE rest e 1 (truthE (rest.take 1)))))]) : HS)) e1; exact Eq.trans (by kernel_rfl) hE)⟩, trivial⟩
end Go.Proofs.Ytlabmehgcfgigaa.Q
namespace Go.Proofs.Ytlabmehgcfgigaa.Q
open Go Go.RowKit
set_option linter.unusedVariables false
set_option linter.unusedSimpArgs false
set_option maxRecDepth 100000
set_option maxHeartbeats 4000000
-- (*quaestor/wire.Reader).Count
theorem rd_Count (rest : List UInt8) (e : Int) (most : Int) (hr : rest.length ≤ 140737488355328) : Holds Try.prog 93 ⟨[pv 0 0, dv (.int .i64 most)], [.box 76 [.d (dsl false false kU8 rest), .d (.val (.int .i64 e))]], dv (.int .i64 ((rdC rest e most : Nat) : Int)), [.live (.box 76 [.d (dsl false false kU8 (rdR rest e 4 (limE most (rest.take 4)))), .d (.val (.int .i64 (rdE rest e 4 (limE most (rest.take 4)))))])]⟩ := by
  refine Holds.of Try.func93 rfl (N := 15) Try.ntmps93 rfl fun w0 B0 S0 U0 => ?_
  show T _ (mkBase 15 1 w0 S0 U0 B0) ⟨[pv 0 0, dv (.int .i64 most)], [.live (.box 76 [.d (dsl false false kU8 rest), .d (.val (.int .i64 e))])]⟩ _ _
  have hi4 : numL (rest.take 4) < 4294967296 := numL_lt4 (List.length_take_le _ _)
  refine T.seq ?_
  refine xR [] (by kernel_rfl) (by kernel_rfl) ?_
  refine nT ?_
  refine T.seq ?_
  refine T.seq ?_
  by_cases hq1 : okT rest e 4 (limE most (rest.take 4))
  · have hk := id hq1; simp only [okT] at hk
    refine xR [hR 2 rfl rfl (r_makeFunc (fs := [(.tmp 7, .int .i64 most)]) (cs := []) rfl rfl (lt_of rfl) trivial),
      hR 3 rfl rfl (r_call (take_limit_ok rest e 4 most (by first | assumption | omega | (unfold maxLen; omega) | (simp [maxLen, -List.getD_eq_getElem?_getD] <;> omega) | decide) (by first | assumption | omega | (unfold maxLen; omega) | (simp [maxLen, -List.getD_eq_getElem?_getD] <;> omega) | decide) (by first | assumption | omega | (unfold maxLen; omega) | (simp [maxLen, -List.getD_eq_getElem?_getD] <;> omega) | decide)) Try.func89 rfl (by decide) [0] [] (l := [(.tmp 6, pv 0 0), (.const (.int .i64 4), dv (.int .i64 4)), (.tmp 8, dv (.func (.func 105) #[.int .i64 most] #[]))]) [] rfl 1 1 rfl rfl rfl rfl rfl rfl rfl rfl rfl ⟨.inl ⟨rfl, rfl⟩, ⟨.inl ⟨rfl, rfl⟩, ⟨.inl ⟨rfl, rfl⟩, trivial⟩⟩⟩ rfl (fun b hb => by cases hb) (.inl rfl) (lt_of rfl) ⟨rfl, trivial⟩)] (by kernel_rfl) (by kernel_rfl) ?_
    refine nT ?_
    refine T.seq ?_
    refine xR [hR 1 rfl rfl (r_neNil (s := .d (dsl false false kU8 (rest.take 4))) Try.underlying47 (.inr (by first | assumption | omega | (unfold maxLen; omega) | (simp [maxLen, -List.getD_eq_getElem?_getD] <;> omega) | decide)) (lt_of rfl) ⟨rfl, trivial⟩)] (by kernel_rfl) (by kernel_rfl) ?_
    refine nT ?_
    refine T.condT (b := true) (by kernel_rfl) rfl ?_
    refine T.seq ?_
    refine xR [hR 1 rfl rfl (r_call (wire_number false false (rest.take 4) (by first | assumption | omega | (unfold maxLen; omega) | (simp [maxLen, -List.getD_eq_getElem?_getD] <;> omega) | decide)) Try.func91 rfl (by decide) [] [] (l := [(.tmp 12, slV false false kU8 (rest.take 4))]) [] rfl 0 0 rfl rfl rfl rfl rfl rfl rfl rfl rfl ⟨.inl ⟨rfl, rfl⟩, trivial⟩ rfl (fun b hb => by cases hb) (.inl rfl) (lt_of rfl) trivial),
      hR 2 rfl rfl (r_conv (u := .int .u64 ((numL (rest.take 4) : Nat) : Int)) (v := .int .i64 ((numL (rest.take 4) : Nat) : Int)) (c_int Try.underlying64 Try.underlying3 (by rw [IntKind.wrap_i64]; omega)) (lt_of rfl) trivial)] (by kernel_rfl) (by kernel_rfl) ?_
    refine nT ?_
    refine T.ret ?_
    refine rT ?_
    exact tE (.inl rfl) [.t 4 (.one (.d (.val (.int .i64 ((numL (rest.take 4) : Nat) : Int)))))] ⟨⟨rfl, by kernel_rfl⟩, trivial⟩ [0] (by have e1 : (((rdC rest e most : Nat) : Int) : Int) = ((numL (rest.take 4) : Nat) : Int) := (by first | rfl | (rw [rdE_ok (by assumption)]) | (rw [rdR_ok (by assumption)]; first | done | rfl) | (rw [rdR_no (by assumption)]) | (simp only [rdC]; first | (rw [if_pos (by assumption)]; done) | (rw [if_pos (by assumption)]; rfl) | (rw [if_neg (by assumption)]; first | done | rfl) | (simp [*]; done)) | (simp [rdB, *]; done)); have hE := congrArg (fun (q1 : Int) => (dv (.int .i64 q1) : AV)) e1; exact hE) rfl rfl rfl rfl rfl ⟨⟨rfl, (by have e1 : ((rest.drop 4) : List UInt8) = (rdR rest e 4 (limE most (rest.take 4))) := (by first | rfl | (rw [rdE_ok (by assumption)]) | (rw [rdR_ok (by assumption)]; first | done | rfl) | (rw [rdR_no (by assumption)]) | (simp only [rdC]; first | (rw [if_pos (by assumption)]; done) | (rw [if_pos (by assumption)]; rfl) | (rw [if_neg (by assumption)]; first | done | rfl) | (simp [*]; done)) | (simp [rdB, *]; done)); have e2 : (0 : Int) = (rdE rest e 4 (limE most (rest.take 4))) := (by first | rfl | (rw [rdE_ok (by assumption)]) | (rw [rdR_ok (by assumption)]; first | done | rfl) | (rw [rdR_no (by assumption)]) | (simp only [rdC]; first | (rw [if_pos (by assumption)]; done) | (rw [if_pos (by assumption)]; rfl) | (rw [if_neg (by assumption)]; first | done | rfl) | (simp [*]; done)) | (simp [rdB, *]; done)); have hE := congr (congrArg (fun (q1 : List UInt8) (q2 : Int) => (.live (.box 76 [.d (dsl false false kU8 q1), .d (.val (.int .i64 q2))]) : HS)) e1) e2; exact Eq.trans (by kernel_rfl) hE)⟩, trivial⟩
  · refine xR [hR 2 rfl rfl (r_makeFunc (fs := [(.tmp 7, .int .i64 most)]) (cs := []) rfl rfl (lt_of rfl) trivial),
      hR 3 rfl rfl (r_call (take_limit_no rest e 4 most (by first | assumption | omega | (unfold maxLen; omega) | (simp [maxLen, -List.getD_eq_getElem?_getD] <;> omega) | decide) (by first | assumption | omega | (unfold maxLen; omega) | (simp [maxLen, -List.getD_eq_getElem?_getD] <;> omega) | decide) (by first | assumption | omega | (unfold maxLen; omega) | (simp [maxLen, -List.getD_eq_getElem?_getD] <;> omega) | decide)) Try.func89 rfl (by decide) [0] [] (l := [(.tmp 6, pv 0 0), (.const (.int .i64 4), dv (.int .i64 4)), (.tmp 8, dv (.func (.func 105) #[.int .i64 most] #[]))]) [] rfl 1 1 rfl rfl rfl rfl rfl rfl rfl rfl rfl ⟨.inl ⟨rfl, rfl⟩, ⟨.inl ⟨rfl, rfl⟩, ⟨.inl ⟨rfl, rfl⟩, trivial⟩⟩⟩ rfl (fun b hb => by cases hb) (.inl rfl) (lt_of rfl) ⟨rfl, trivial⟩)] (by kernel_rfl) (by kernel_rfl) ?_
    refine nT ?_
    refine T.seq ?_
    refine xR [hR 1 rfl rfl (r_bin (u1 := .slice none 0 0) (u2 := .slice none 0 0) (v := .bool false) (b_neqNilS Try.underlying47) (lt_of rfl) ⟨rfl, trivial⟩)] (by kernel_rfl) (by kernel_rfl) ?_
    refine nT ?_
    refine T.condF (b := false) (by kernel_rfl) rfl ?_
    refine T.skip ?_
    refine nT ?_
    refine T.seq ?_
    refine xR [] (by kernel_rfl) (by kernel_rfl) ?_
    refine nT ?_
    refine T.ret ?_
    exact tE (.inl rfl) [.t 4 (.one (.d (.val (.int .i64 0))))] ⟨⟨rfl, by kernel_rfl⟩, trivial⟩ [0] (by have e1 : (((rdC rest e most : Nat) : Int) : Int) = 0 := (by first | rfl | (rw [rdE_ok (by assumption)]) | (rw [rdR_ok (by assumption)]; first | done | rfl) | (rw [rdR_no (by assumption)]) | (simp only [rdC]; first | (rw [if_pos (by assumption)]; done) | (rw [if_pos (by assumption)]; rfl) | (rw [if_neg (by assumption)]; first | done | rfl) | (simp [*]; done)) | (simp [rdB, *]; done)); have hE := congrArg (fun (q1 : Int) => (dv (.int .i64 q1) : AV)) e1; exact hE) rfl rfl rfl rfl rfl ⟨⟨rfl, (by have e1 : (rest : List UInt8) = (rdR rest e 4 (limE most (rest.take 4))) := (by first | rfl | (rw [rdE_ok (by assumption)]) | (rw [rdR_ok (by assumption)]; first | done | rfl) | (rw [rdR_no (by assumption)]) | (simp only [rdC]; first | (rw [if_pos (by assumption)]; done) | (rw [if_pos (by assumption)]; rfl) | (rw [if_neg (by assumption)]; first | done | rfl) | (simp [*]; done)) | (simp [rdB, *]; done)); have hE := congrArg (fun (q1 : List UInt8) => (.live (.box 76 [.d (dsl false false kU8 q1), .d (.val (.int .i64 (rdE rest e 4 (limE most (rest.take 4)))))]) : HS)) e1; exact Eq.trans (by kernel_rfl) hE)⟩, trivial⟩
end Go.Proofs.Ytlabmehgcfgigaa.Q
namespace Go.Proofs.Ytlabmehgcfgigaa.Q
open Go Go.RowKit
set_option linter.unusedVariables false
set_option linter.unusedSimpArgs false
set_option maxRecDepth 100000
set_option maxHeartbeats 4000000
-- (*quaestor/wire.Reader).Num
theorem rd_Num (rest : List UInt8) (e : Int) (hr : rest.length ≤ 140737488355328) : Holds Try.prog 66 ⟨[pv 0 0], [.box 76 [.d (dsl false false kU8 rest), .d (.val (.int .i64 e))]], dv (.float .f64 (rdN rest e)), [.live (.box 76 [.d (dsl false false kU8 (rdR rest e 8 (floatE (rest.take 8)))), .d (.val (.int .i64 (rdE rest e 8 (floatE (rest.take 8)))))])]⟩ := by
  refine Holds.of Try.func66 rfl (N := 11) Try.ntmps66 rfl fun w0 B0 S0 U0 => ?_
  show T _ (mkBase 11 1 w0 S0 U0 B0) ⟨[pv 0 0], [.live (.box 76 [.d (dsl false false kU8 rest), .d (.val (.int .i64 e))])]⟩ _ _
  have hi8 : numL (rest.take 8) < 18446744073709551616 := numL_lt8 (List.length_take_le _ _)
  refine T.seq ?_
  refine xR [] (by kernel_rfl) (by kernel_rfl) ?_
  refine nT ?_
  refine T.seq ?_
  refine T.seq ?_
  by_cases hq1 : okT rest e 8 (floatE (rest.take 8))
  · have hk := id hq1; simp only [okT] at hk
    refine xR [hR 1 rfl rfl (r_call (take_float_ok rest e 8 (by first | assumption | omega | (unfold maxLen; omega) | (simp [maxLen, -List.getD_eq_getElem?_getD] <;> omega) | decide) (by first | assumption | omega | (unfold maxLen; omega) | (simp [maxLen, -List.getD_eq_getElem?_getD] <;> omega) | decide) (by first | assumption | omega | (unfold maxLen; omega) | (simp [maxLen, -List.getD_eq_getElem?_getD] <;> omega) | decide)) Try.func89 rfl (by decide) [0] [] (l := [(.tmp 4, pv 0 0), (.const (.int .i64 8), dv (.int .i64 8)), (.func 94, dv (.func (.func 94) #[] #[]))]) [] rfl 1 1 rfl rfl rfl rfl rfl rfl rfl rfl rfl ⟨.inl ⟨rfl, rfl⟩, ⟨.inl ⟨rfl, rfl⟩, ⟨.inl ⟨rfl, rfl⟩, trivial⟩⟩⟩ rfl (fun b hb => by cases hb) (.inl rfl) (lt_of rfl) ⟨rfl, ⟨rfl, trivial⟩⟩)] (by kernel_rfl) (by kernel_rfl) ?_
    refine nT ?_
    refine T.seq ?_
    refine xR [hR 1 rfl rfl (r_neNil (s := .d (dsl false false kU8 (rest.take 8))) Try.underlying47 (.inr (by first | assumption | omega | (unfold maxLen; omega) | (simp [maxLen, -List.getD_eq_getElem?_getD] <;> omega) | decide)) (lt_of rfl) ⟨rfl, trivial⟩)] (by kernel_rfl) (by kernel_rfl) ?_
    refine nT ?_
    refine T.condT (b := true) (by kernel_rfl) rfl ?_
    refine T.seq ?_
    refine xR [hR 1 rfl rfl (r_call (wire_number false false (rest.take 8) (by first | assumption | omega | (unfold maxLen; omega) | (simp [maxLen, -List.getD_eq_getElem?_getD] <;> omega) | decide)) Try.func91 rfl (by decide) [] [] (l := [(.tmp 8, slV false false kU8 (rest.take 8))]) [] rfl 0 0 rfl rfl rfl rfl rfl rfl rfl rfl rfl ⟨.inl ⟨rfl, rfl⟩, trivial⟩ rfl (fun b hb => by cases hb) (.inl rfl) (lt_of rfl) trivial),
      hR 2 rfl rfl (r_ext1 (u := .int .u64 ((numL (rest.take 8) : Nat) : Int)) (v := .float .f64 (numL (rest.take 8))) (e := Extern.MathFloatBits.float64frombits) Try.func85 (by kernel_rfl) (by kernel_rfl) (by kernel_rfl) (by kernel_rfl) (fun w => rfl) (lt_of rfl) trivial)] (by kernel_rfl) (by kernel_rfl) ?_
    refine nT ?_
    refine T.ret ?_
    refine rT ?_
    exact tE (.inl rfl) [.t 2 (.one (.d (.val (.float .f64 (numL (rest.take 8))))))] ⟨⟨rfl, by kernel_rfl⟩, trivial⟩ [0] (by have e1 : ((rdN rest e) : Nat) = numL (rest.take 8) := (by first | rfl | (rw [rdE_ok (by assumption)]) | (rw [rdR_ok (by assumption)]; first | done | rfl) | (rw [rdR_no (by assumption)]) | (simp only [rdN]; first | (rw [if_pos (by assumption)]; done) | (rw [if_pos (by assumption)]; rfl) | (rw [if_neg (by assumption)]; first | done | rfl) | (simp [*]; done)) | (simp [rdB, *]; done)); have hE := congrArg (fun (q1 : Nat) => (dv (.float .f64 q1) : AV)) e1; exact hE) rfl rfl rfl rfl rfl ⟨⟨rfl, (by have e1 : ((rest.drop 8) : List UInt8) = (rdR rest e 8 (floatE (rest.take 8))) := (by first | rfl | (rw [rdE_ok (by assumption)]) | (rw [rdR_ok (by assumption)]; first | done | rfl) | (rw [rdR_no (by assumption)]) | (simp only [rdN]; first | (rw [if_pos (by assumption)]; done) | (rw [if_pos (by assumption)]; rfl) | (rw [if_neg (by assumption)]; first | done | rfl) | (simp [*]; done)) | (simp [rdB, *]; done)); have e2 : (0 : Int) = (rdE rest e 8 (floatE (rest.take 8))) := (by first | rfl | (rw [rdE_ok (by assumption)]) | (rw [rdR_ok (by assumption)]; first | done | rfl) | (rw [rdR_no (by assumption)]) | (simp only [rdN]; first | (rw [if_pos (by assumption)]; done) | (rw [if_pos (by assumption)]; rfl) | (rw [if_neg (by assumption)]; first | done | rfl) | (simp [*]; done)) | (simp [rdB, *]; done)); have hE := congr (congrArg (fun (q1 : List UInt8) (q2 : Int) => (.live (.box 76 [.d (dsl false false kU8 q1), .d (.val (.int .i64 q2))]) : HS)) e1) e2; exact Eq.trans (by kernel_rfl) hE)⟩, trivial⟩
  · refine xR [hR 1 rfl rfl (r_call (take_float_no rest e 8 (by first | assumption | omega | (unfold maxLen; omega) | (simp [maxLen, -List.getD_eq_getElem?_getD] <;> omega) | decide) (by first | assumption | omega | (unfold maxLen; omega) | (simp [maxLen, -List.getD_eq_getElem?_getD] <;> omega) | decide) (by first | assumption | omega | (unfold maxLen; omega) | (simp [maxLen, -List.getD_eq_getElem?_getD] <;> omega) | decide)) Try.func89 rfl (by decide) [0] [] (l := [(.tmp 4, pv 0 0), (.const (.int .i64 8), dv (.int .i64 8)), (.func 94, dv (.func (.func 94) #[] #[]))]) [] rfl 1 1 rfl rfl rfl rfl rfl rfl rfl rfl rfl ⟨.inl ⟨rfl, rfl⟩, ⟨.inl ⟨rfl, rfl⟩, ⟨.inl ⟨rfl, rfl⟩, trivial⟩⟩⟩ rfl (fun b hb => by cases hb) (.inl rfl) (lt_of rfl) ⟨rfl, ⟨rfl, trivial⟩⟩)] (by kernel_rfl) (by kernel_rfl) ?_
    refine nT ?_
    refine T.seq ?_
    refine xR [hR 1 rfl rfl (r_bin (u1 := .slice none 0 0) (u2 := .slice none 0 0) (v := .bool false) (b_neqNilS Try.underlying47) (lt_of rfl) ⟨rfl, trivial⟩)] (by kernel_rfl) (by kernel_rfl) ?_
    refine nT ?_
    refine T.condF (b := false) (by kernel_rfl) rfl ?_
    refine T.skip ?_
    refine nT ?_
    refine T.seq ?_
    refine xR [] (by kernel_rfl) (by kernel_rfl) ?_
    refine nT ?_
    refine T.ret ?_
    exact tE (.inl rfl) [.t 2 (.one (.d (.val (.float .f64 0))))] ⟨⟨rfl, by kernel_rfl⟩, trivial⟩ [0] (by have e1 : ((rdN rest e) : Nat) = 0 := (by first | rfl | (rw [rdE_ok (by assumption)]) | (rw [rdR_ok (by assumption)]; first | done | rfl) | (rw [rdR_no (by assumption)]) | (simp only [rdN]; first | (rw [if_pos (by assumption)]; done) | (rw [if_pos (by assumption)]; rfl) | (rw [if_neg (by assumption)]; first | done | rfl) | (simp [*]; done)) | (simp [rdB, *]; done)); have hE := congrArg (fun (q1 : Nat) => (dv (.float .f64 q1) : AV)) e1; exact hE) rfl rfl rfl rfl rfl ⟨⟨rfl, (by have e1 : (rest : List UInt8) = (rdR rest e 8 (floatE (rest.take 8))) := (by first | rfl | (rw [rdE_ok (by assumption)]) | (rw [rdR_ok (by assumption)]; first | done | rfl) | (rw [rdR_no (by assumption)]) | (simp only [rdN]; first | (rw [if_pos (by assumption)]; done) | (rw [if_pos (by assumption)]; rfl) | (rw [if_neg (by assumption)]; first | done | rfl) | (simp [*]; done)) | (simp [rdB, *]; done)); have hE := congrArg (fun (q1 : List UInt8) => (.live (.box 76 [.d (dsl false false kU8 q1), .d (.val (.int .i64 (rdE rest e 8 (floatE (rest.take 8)))))]) : HS)) e1; exact Eq.trans (by kernel_rfl) hE)⟩, trivial⟩
end Go.Proofs.Ytlabmehgcfgigaa.Q
namespace Go.Proofs.Ytlabmehgcfgigaa.Q
open Go Go.RowKit
set_option linter.unusedVariables false
set_option linter.unusedSimpArgs false
set_option maxRecDepth 100000
set_option maxHeartbeats 4000000
-- (*quaestor/wire.Reader).Left
theorem rd_Left (rest : List UInt8) (e : Int) : Holds Try.prog 40 ⟨[pv 0 0], [.box 76 [.d (dsl false false kU8 rest), .d (.val (.int .i64 e))]], dv (.int .i64 ((rest.length : Nat) : Int)), [.live (.box 76 [.d (dsl false false kU8 rest), .d (.val (.int .i64 e))])]⟩ := by
  refine Holds.of Try.func40 rfl (N := 10) Try.ntmps40 rfl fun w0 B0 S0 U0 => ?_
  show T _ (mkBase 10 1 w0 S0 U0 B0) ⟨[pv 0 0], [.live (.box 76 [.d (dsl false false kU8 rest), .d (.val (.int .i64 e))])]⟩ _ _
  refine T.seq ?_
  refine xR [] (by kernel_rfl) (by kernel_rfl) ?_
  refine nT ?_
  refine T.seq ?_
  refine T.seq ?_
  refine xR [] (by kernel_rfl) (by kernel_rfl) ?_
  refine nT ?_
  refine T.condF (b := false) (by kernel_rfl) rfl ?_
  refine T.skip ?_
  refine nT ?_
  refine T.seq ?_
  refine xR [] (by kernel_rfl) (by kernel_rfl) ?_
  refine nT ?_
  refine T.ret ?_
  exact tE (.inl rfl) [.t 2 (.one (.d (.val (.int .i64 ((rest.length : Nat) : Int)))))] ⟨⟨rfl, by kernel_rfl⟩, trivial⟩ [0] rfl rfl rfl rfl rfl rfl ⟨⟨rfl, (by kernel_rfl)⟩, trivial⟩
end Go.Proofs.Ytlabmehgcfgigaa.Q
namespace Go.Proofs.Ytlabmehgcfgigaa.Q
open Go Go.RowKit
set_option linter.unusedVariables false
set_option linter.unusedSimpArgs false
set_option maxRecDepth 100000
set_option maxHeartbeats 4000000
-- (*quaestor/wire.Reader).Err
theorem rd_Err (rest : List UInt8) (e : Int) : Holds Try.prog 63 ⟨[pv 0 0], [.box 76 [.d (dsl false false kU8 rest), .d (.val (.int .i64 e))]], dv (.int .i64 e), [.live (.box 76 [.d (dsl false false kU8 rest), .d (.val (.int .i64 e))])]⟩ := by
  refine Holds.of Try.func63 rfl (N := 9) Try.ntmps63 rfl fun w0 B0 S0 U0 => ?_
  show T _ (mkBase 9 1 w0 S0 U0 B0) ⟨[pv 0 0], [.live (.box 76 [.d (dsl false false kU8 rest), .d (.val (.int .i64 e))])]⟩ _ _
  refine T.seq ?_
  refine xR [] (by kernel_rfl) (by kernel_rfl) ?_
  refine nT ?_
  refine T.seq ?_
  refine T.seq ?_
  refine xR [] (by kernel_rfl) (by kernel_rfl) ?_
  refine nT ?_
  refine T.condF (b := false) (by kernel_rfl) rfl ?_
  refine T.skip ?_
  refine nT ?_
  refine T.seq ?_
  refine xR [] (by kernel_rfl) (by kernel_rfl) ?_
  refine nT ?_
  refine T.ret ?_
  exact tE (.inl rfl) [.t 2 (.one (.d (.val (.int .i64 e))))] ⟨⟨rfl, by kernel_rfl⟩, trivial⟩ [0] rfl rfl rfl rfl rfl rfl ⟨⟨rfl, (by kernel_rfl)⟩, trivial⟩
end Go.Proofs.Ytlabmehgcfgigaa.Q
namespace Go.Proofs.Ytlabmehgcfgigaa.Q
open Go Go.RowKit
set_option linter.unusedVariables false
set_option linter.unusedSimpArgs false
set_option maxRecDepth 100000
set_option maxHeartbeats 4000000
-- (*quaestor/wire.Reader).Bytes
theorem rd_Bytes (rest : List UInt8) (e : Int) (most : Int) (hr : rest.length ≤ 140737488355328) : Holds Try.prog 65 ⟨[pv 0 0, dv (.int .i64 most)], [.box 76 [.d (dsl false false kU8 rest), .d (.val (.int .i64 e))]], ownV 1 kU8 0 (rdY rest e most).length, [.live (.box 76 [.d (dsl false false kU8 (rdYR rest e most)), .d (.val (.int .i64 (rdYE rest e most)))]), .live (arrK 5 kU8 (rdY rest e most))]⟩ := by
  refine Holds.of Try.func65 rfl (N := 36) Try.ntmps65 rfl fun w0 B0 S0 U0 => ?_
  show T _ (mkBase 36 1 w0 S0 U0 B0) ⟨[pv 0 0, dv (.int .i64 most)], [.live (.box 76 [.d (dsl false false kU8 rest), .d (.val (.int .i64 e))])]⟩ _ _
  have hrc := rdC_lt rest e most
  have hrl := rdR_len rest e 4 (limE most (rest.take 4))
  refine T.seq ?_
  refine xR [] (by kernel_rfl) (by kernel_rfl) ?_
  refine nT ?_
  refine T.seq ?_
  refine T.seq ?_
  refine xR [] (by kernel_rfl) (by kernel_rfl) ?_
  refine nT ?_
  refine T.condF (b := false) (by kernel_rfl) rfl ?_
  refine T.skip ?_
  refine nT ?_
  refine T.seq ?_
  refine xR [] (by kernel_rfl) (by kernel_rfl) ?_
  refine nT ?_
  refine T.seq ?_
  refine xR [hR 2 rfl rfl (r_call (rd_Count rest e most (by first | assumption | omega | (unfold maxLen; omega) | (simp [maxLen, -List.getD_eq_getElem?_getD] <;> omega) | decide)) Try.func93 rfl (by decide) [0] [] (l := [(.tmp 14, pv 0 0), (.tmp 15, dv (.int .i64 most))]) [] rfl 1 1 rfl rfl rfl rfl rfl rfl rfl rfl rfl ⟨.inl ⟨rfl, rfl⟩, ⟨.inl ⟨rfl, rfl⟩, trivial⟩⟩ rfl (fun b hb => by cases hb) (.inl rfl) (lt_of rfl) trivial)] (by kernel_rfl) (by kernel_rfl) ?_
  refine nT ?_
  refine T.seq ?_
  refine T.seq ?_
  refine xR [] (by kernel_rfl) (by kernel_rfl) ?_
  refine nT ?_
  by_cases hq1 : (rdE rest e 4 (limE most (rest.take 4))) ≠ 0
  · have hy := rdY_fail hq1
    refine T.condT (by kernel_rfl) (decide_eq_true hq1) ?_
    refine T.seq ?_
    refine xR [] (by kernel_rfl) (by kernel_rfl) ?_
    refine nT ?_
    refine T.ret ?_
    refine rT ?_
    refine Ends.turn (s' := ⟨[pv 0 0, dv (.int .i64 most), aa, aa, dv (.slice none 0 0), slV false false kU8 rest, dv (.int .i64 ((rdC rest e most : Nat) : Int)), aa, aa, dv (.bool false), aa, aa, aa, aa, aa, aa, aa, aa, aa, aa, aa, dv (.bool (decide ((rdE rest e 4 (limE most (rest.take 4))) ≠ 0)))], [.live (.box 76 [.d (dsl false false kU8 (rdR rest e 4 (limE most (rest.take 4)))), .d (.val (.int .i64 (rdE rest e 4 (limE most (rest.take 4)))))])]⟩) (fun _ _ hG => Gs.norm (by kernel_rfl) hG) ?_
    refine Ends.turn (s' := ⟨[pv 0 0, dv (.int .i64 most), aa, aa, ownV 1 kU8 0 0, slV false false kU8 rest, dv (.int .i64 ((rdC rest e most : Nat) : Int)), aa, aa, dv (.bool false), aa, aa, aa, aa, aa, aa, aa, aa, aa, aa, aa, dv (.bool (decide ((rdE rest e 4 (limE most (rest.take 4))) ≠ 0)))], [.live (.box 76 [.d (dsl false false kU8 (rdR rest e 4 (limE most (rest.take 4)))), .d (.val (.int .i64 (rdE rest e 4 (limE most (rest.take 4)))))]), .live (arrK 5 kU8 ([] : List UInt8))]⟩) (fun _ _ hG => Gs.absent 1 4 5 kU8 rfl rfl hG) ?_
    exact tE (.inl rfl) [.t 4 (.one (.own 1 kU8.sz 0 0))] ⟨⟨rfl, by kernel_rfl⟩, trivial⟩ [0, 1] (by have e1 : ((rdY rest e most).length : Nat) = 0 := (by first | rfl | (rw [hy.1]; done) | (rw [hy.1]; rfl) | (rw [hy.2.1]; first | done | rfl) | (rw [hy.2.1, hy.2.2.2]) | (rw [hy.2.2]; first | done | rfl) | (rw [hy.2.2.1]; first | done | rfl) | exact hy.1 | exact hy.1.symm | exact hy.2.1 | exact hy.2.1.symm | exact hy.2.1.trans hy.2.2.2.symm); have hE := congrArg (fun (q1 : Nat) => (ownV 1 kU8 0 q1 : AV)) e1; exact hE) rfl rfl rfl rfl rfl ⟨⟨rfl, (by have e1 : ((rdR rest e 4 (limE most (rest.take 4))) : List UInt8) = (rdYR rest e most) := (by first | rfl | (rw [hy.1]; done) | (rw [hy.1]; rfl) | (rw [hy.2.1]; first | done | rfl) | (rw [hy.2.1, hy.2.2.2]) | (rw [hy.2.2]; first | done | rfl) | (rw [hy.2.2.1]; first | done | rfl) | exact hy.1 | exact hy.1.symm | exact hy.2.1 | exact hy.2.1.symm | exact hy.2.1.trans hy.2.2.2.symm); have e2 : ((rdE rest e 4 (limE most (rest.take 4))) : Int) = (rdYE rest e most) := (by first | rfl | (rw [hy.1]; done) | (rw [hy.1]; rfl) | (rw [hy.2.1]; first | done | rfl) | (rw [hy.2.1, hy.2.2.2]) | (rw [hy.2.2]; first | done | rfl) | (rw [hy.2.2.1]; first | done | rfl) | exact hy.1 | exact hy.1.symm | exact hy.2.1 | exact hy.2.1.symm | exact hy.2.1.trans hy.2.2.2.symm); have hE := congr (congrArg (fun (q1 : List UInt8) (q2 : Int) => (.live (.box 76 [.d (dsl false false kU8 q1), .d (.val (.int .i64 q2))]) : HS)) e1) e2; exact Eq.trans (by kernel_rfl) hE)⟩, ⟨⟨rfl, (by have e1 : (([] : List UInt8) : List UInt8) = (rdY rest e most) := (by first | rfl | (rw [hy.1]; done) | (rw [hy.1]; rfl) | (rw [hy.2.1]; first | done | rfl) | (rw [hy.2.1, hy.2.2.2]) | (rw [hy.2.2]; first | done | rfl) | (rw [hy.2.2.1]; first | done | rfl) | exact hy.1 | exact hy.1.symm | exact hy.2.1 | exact hy.2.1.symm | exact hy.2.1.trans hy.2.2.2.symm); have hE := congrArg (fun (q1 : List UInt8) => (.live (arrK 5 kU8 q1) : HS)) e1; exact Eq.trans (by kernel_rfl) hE)⟩, trivial⟩⟩
  · have hz := Classical.not_not.1 hq1
    refine T.condF (by kernel_rfl) (decide_eq_false hq1) ?_
    refine T.skip ?_
    refine nT ?_
    refine T.seq ?_
    by_cases hq2 : okT (rdR rest e 4 (limE most (rest.take 4))) (rdE rest e 4 (limE most (rest.take 4))) ((rdC rest e most : Nat) : Int) 0
    · have hy := rdY_ok hz hq2
      refine xR [hR 2 rfl rfl (r_call (take_any_ok (rdR rest e 4 (limE most (rest.take 4))) (rdE rest e 4 (limE most (rest.take 4))) ((rdC rest e most : Nat) : Int) (by first | assumption | omega | (unfold maxLen; omega) | (simp [maxLen, -List.getD_eq_getElem?_getD] <;> omega) | decide) (by first | assumption | omega | (unfold maxLen; omega) | (simp [maxLen, -List.getD_eq_getElem?_getD] <;> omega) | decide) (by first | assumption | omega | (unfold maxLen; omega) | (simp [maxLen, -List.getD_eq_getElem?_getD] <;> omega) | decide)) Try.func89 rfl (by decide) [0] [] (l := [(.tmp 22, pv 0 0), (.tmp 23, dv (.int .i64 ((rdC rest e most : Nat) : Int))), (.func 90, dv (.func (.func 90) #[] #[]))]) [] rfl 1 1 rfl rfl rfl rfl rfl rfl rfl rfl rfl ⟨.inl ⟨rfl, rfl⟩, ⟨.inl ⟨rfl, rfl⟩, ⟨.inl ⟨rfl, rfl⟩, trivial⟩⟩⟩ rfl (fun b hb => by cases hb) (.inl rfl) (lt_of rfl) ⟨rfl, trivial⟩)] (by kernel_rfl) (by kernel_rfl) ?_
      refine nT ?_
      refine T.seq ?_
      refine T.seq ?_
      refine xR [] (by kernel_rfl) (by kernel_rfl) ?_
      refine nT ?_
      refine T.condF (b := false) (by kernel_rfl) rfl ?_
      refine T.skip ?_
      refine nT ?_
      refine T.seq ?_
      refine xR [hR 1 rfl rfl (r_call (clone_u8 false false ((rdR rest e 4 (limE most (rest.take 4))).take ((rdC rest e most : Nat) : Int).toNat) (by first | assumption | omega | (unfold maxLen; omega) | (simp [maxLen, -List.getD_eq_getElem?_getD] <;> omega) | decide)) Try.func61 rfl (by decide) [1] [] (l := [(.tmp 34, slV false false kU8 ((rdR rest e 4 (limE most (rest.take 4))).take ((rdC rest e most : Nat) : Int).toNat))]) [] rfl 0 1 rfl rfl rfl rfl rfl rfl rfl rfl rfl ⟨.inl ⟨rfl, rfl⟩, trivial⟩ rfl (fun b hb => by cases hb) (.inl rfl) (lt_of rfl) trivial)] (by kernel_rfl) (by kernel_rfl) ?_
      refine nT ?_
      refine T.ret ?_
      exact tE (.inl rfl) [.t 4 (.one (.own 1 kU8.sz 0 ((rdR rest e 4 (limE most (rest.take 4))).take ((rdC rest e most : Nat) : Int).toNat).length))] ⟨⟨rfl, by kernel_rfl⟩, trivial⟩ [0, 1] (by have e1 : ((rdY rest e most).length : Nat) = ((rdR rest e 4 (limE most (rest.take 4))).take ((rdC rest e most : Nat) : Int).toNat).length := (by first | rfl | (rw [hy.1]; done) | (rw [hy.1]; rfl) | (rw [hy.2.1]; first | done | rfl) | (rw [hy.2.1, hy.2.2.2]) | (rw [hy.2.2]; first | done | rfl) | (rw [hy.2.2.1]; first | done | rfl) | exact hy.1 | exact hy.1.symm | exact hy.2.1 | exact hy.2.1.symm | exact hy.2.1.trans hy.2.2.2.symm); have hE := congrArg (fun (q1 : Nat) => (ownV 1 kU8 0 q1 : AV)) e1; exact hE) rfl rfl rfl rfl rfl ⟨⟨rfl, (by have e1 : (((rdR rest e 4 (limE most (rest.take 4))).drop ((rdC rest e most : Nat) : Int).toNat) : List UInt8) = (rdYR rest e most) := (by first | rfl | (rw [hy.1]; done) | (rw [hy.1]; rfl) | (rw [hy.2.1]; first | done | rfl) | (rw [hy.2.1, hy.2.2.2]) | (rw [hy.2.2]; first | done | rfl) | (rw [hy.2.2.1]; first | done | rfl) | exact hy.1 | exact hy.1.symm | exact hy.2.1 | exact hy.2.1.symm | exact hy.2.1.trans hy.2.2.2.symm); have e2 : (0 : Int) = (rdYE rest e most) := (by first | rfl | (rw [hy.1]; done) | (rw [hy.1]; rfl) | (rw [hy.2.1]; first | done | rfl) | (rw [hy.2.1, hy.2.2.2]) | (rw [hy.2.2]; first | done | rfl) | (rw [hy.2.2.1]; first | done | rfl) | exact hy.1 | exact hy.1.symm | exact hy.2.1 | exact hy.2.1.symm | exact hy.2.1.trans hy.2.2.2.symm); have hE := congr (congrArg (fun (q1 : List UInt8) (q2 : Int) => (.live (.box 76 [.d (dsl false false kU8 q1), .d (.val (.int .i64 q2))]) : HS)) e1) e2; exact Eq.trans (by kernel_rfl) hE)⟩, ⟨⟨rfl, (by have e1 : (((rdR rest e 4 (limE most (rest.take 4))).take ((rdC rest e most : Nat) : Int).toNat) : List UInt8) = (rdY rest e most) := (by first | rfl | (rw [hy.1]; done) | (rw [hy.1]; rfl) | (rw [hy.2.1]; first | done | rfl) | (rw [hy.2.1, hy.2.2.2]) | (rw [hy.2.2]; first | done | rfl) | (rw [hy.2.2.1]; first | done | rfl) | exact hy.1 | exact hy.1.symm | exact hy.2.1 | exact hy.2.1.symm | exact hy.2.1.trans hy.2.2.2.symm); have hE := congrArg (fun (q1 : List UInt8) => (.live (arrK 5 kU8 q1) : HS)) e1; exact Eq.trans (by kernel_rfl) hE)⟩, trivial⟩⟩
    · have hy := rdY_short hz hq2
      refine xR [hR 2 rfl rfl (r_call (take_any_no (rdR rest e 4 (limE most (rest.take 4))) (rdE rest e 4 (limE most (rest.take 4))) ((rdC rest e most : Nat) : Int) (by first | assumption | omega | (unfold maxLen; omega) | (simp [maxLen, -List.getD_eq_getElem?_getD] <;> omega) | decide) (by first | assumption | omega | (unfold maxLen; omega) | (simp [maxLen, -List.getD_eq_getElem?_getD] <;> omega) | decide) (by first | assumption | omega | (unfold maxLen; omega) | (simp [maxLen, -List.getD_eq_getElem?_getD] <;> omega) | decide)) Try.func89 rfl (by decide) [0] [] (l := [(.tmp 22, pv 0 0), (.tmp 23, dv (.int .i64 ((rdC rest e most : Nat) : Int))), (.func 90, dv (.func (.func 90) #[] #[]))]) [] rfl 1 1 rfl rfl rfl rfl rfl rfl rfl rfl rfl ⟨.inl ⟨rfl, rfl⟩, ⟨.inl ⟨rfl, rfl⟩, ⟨.inl ⟨rfl, rfl⟩, trivial⟩⟩⟩ rfl (fun b hb => by cases hb) (.inl rfl) (lt_of rfl) ⟨rfl, trivial⟩)] (by kernel_rfl) (by kernel_rfl) ?_
      refine nT ?_
      refine T.seq ?_
      refine T.seq ?_
      refine xR [] (by kernel_rfl) (by kernel_rfl) ?_
      refine nT ?_
      by_cases hq3 : (rdE (rdR rest e 4 (limE most (rest.take 4))) (rdE rest e 4 (limE most (rest.take 4))) ((rdC rest e most : Nat) : Int) 0) ≠ 0
      · refine T.condT (by kernel_rfl) (decide_eq_true hq3) ?_
        refine xR [] (by kernel_rfl) (by kernel_rfl) ?_
        refine nT ?_
        refine T.seq ?_
        refine xR [hR 1 rfl rfl (r_call (clone_u8 false false ([] : List UInt8) (by first | assumption | omega | (unfold maxLen; omega) | (simp [maxLen, -List.getD_eq_getElem?_getD] <;> omega) | decide)) Try.func61 rfl (by decide) [1] [] (l := [(.tmp 34, dv (.slice none 0 0))]) [] rfl 0 1 rfl rfl rfl rfl rfl rfl rfl rfl rfl ⟨.inr (.inr ⟨rfl, rfl, rfl⟩), trivial⟩ rfl (fun b hb => by cases hb) (.inl rfl) (lt_of rfl) trivial)] (by kernel_rfl) (by kernel_rfl) ?_
        refine nT ?_
        refine T.ret ?_
        exact tE (.inl rfl) [.t 4 (.one (.own 1 kU8.sz 0 ([] : List UInt8).length))] ⟨⟨rfl, by kernel_rfl⟩, trivial⟩ [0, 1] (by have e1 : ((rdY rest e most).length : Nat) = ([] : List UInt8).length := (by first | rfl | (rw [hy.1]; done) | (rw [hy.1]; rfl) | (rw [hy.2.1]; first | done | rfl) | (rw [hy.2.1, hy.2.2.2]) | (rw [hy.2.2]; first | done | rfl) | (rw [hy.2.2.1]; first | done | rfl) | exact hy.1 | exact hy.1.symm | exact hy.2.1 | exact hy.2.1.symm | exact hy.2.1.trans hy.2.2.2.symm); have hE := congrArg (fun (q1 : Nat) => (ownV 1 kU8 0 q1 : AV)) e1; exact hE) rfl rfl rfl rfl rfl ⟨⟨rfl, (by have e1 : (rest : List UInt8) = (rdYR rest e most) := (by first | rfl | (rw [hy.1]; done) | (rw [hy.1]; rfl) | (rw [hy.2.1]; first | done | rfl) | (rw [hy.2.1, hy.2.2.2]) | (rw [hy.2.2]; first | done | rfl) | (rw [hy.2.2.1]; first | done | rfl) | exact hy.1 | exact hy.1.symm | exact hy.2.1 | exact hy.2.1.symm | exact hy.2.1.trans hy.2.2.2.symm); have e2 : ((rdE (rdR rest e 4 (limE most (rest.take 4))) (rdE rest e 4 (limE most (rest.take 4))) ((rdC rest e most : Nat) : Int) 0) : Int) = (rdYE rest e most) := (by first | rfl | (rw [hy.1]; done) | (rw [hy.1]; rfl) | (rw [hy.2.1]; first | done | rfl) | (rw [hy.2.1, hy.2.2.2]) | (rw [hy.2.2]; first | done | rfl) | (rw [hy.2.2.1]; first | done | rfl) | exact hy.1 | exact hy.1.symm | exact hy.2.1 | exact hy.2.1.symm | exact hy.2.1.trans hy.2.2.2.symm); have hE := congr (congrArg (fun (q1 : List UInt8) (q2 : Int) => (.live (.box 76 [.d (dsl false false kU8 q1), .d (.val (.int .i64 q2))]) : HS)) e1) e2; exact Eq.trans (by kernel_rfl) hE)⟩, ⟨⟨rfl, (by have e1 : (([] : List UInt8) : List UInt8) = (rdY rest e most) := (by first | rfl | (rw [hy.1]; done) | (rw [hy.1]; rfl) | (rw [hy.2.1]; first | done | rfl) | (rw [hy.2.1, hy.2.2.2]) | (rw [hy.2.2]; first | done | rfl) | (rw [hy.2.2.1]; first | done | rfl) | exact hy.1 | exact hy.1.symm | exact hy.2.1 | exact hy.2.1.symm | exact hy.2.1.trans hy.2.2.2.symm); have hE := congrArg (fun (q1 : List UInt8) => (.live (arrK 5 kU8 q1) : HS)) e1; exact Eq.trans (by kernel_rfl) hE)⟩, trivial⟩⟩
      · exact absurd (rdE_no hq2) hq3
end Go.Proofs.Ytlabmehgcfgigaa.Q
namespace Go.Proofs.Ytlabmehgcfgigaa.Q
set_option linter.unusedVariables false
set_option linter.unusedSimpArgs false
set_option maxRecDepth 100000

/-! ### Values as bytes -/

def valB (v : Val) : List UInt8 := intB v.f_Kind ++ (if v.f_Kind = 1 then intB v.f_Int else if v.f_Kind = 2 then boolB v.f_Bool else if v.f_Kind = 3 then bytesB v.f_Text else if v.f_Kind = 4 then numB v.f_Num else [])
section
variable {v : Val}
theorem val_1 (h : v.f_Kind = 1) : valB v = intB v.f_Kind ++ intB v.f_Int := by rw [valB, if_pos h]
theorem val_2 (h : v.f_Kind = 2) : valB v = intB v.f_Kind ++ boolB v.f_Bool := by rw [valB, if_neg (by omega), if_pos h]
theorem val_3 (h : v.f_Kind = 3) : valB v = intB v.f_Kind ++ bytesB v.f_Text := by rw [valB, if_neg (by omega), if_neg (by omega), if_pos h]
theorem val_4 (h : v.f_Kind = 4) : valB v = intB v.f_Kind ++ numB v.f_Num := by rw [valB, if_neg (by omega), if_neg (by omega), if_neg (by omega), if_pos h]
theorem val_0 (h1 : ¬ v.f_Kind = 1) (h2 : ¬ v.f_Kind = 2) (h3 : ¬ v.f_Kind = 3) (h4 : ¬ v.f_Kind = 4) : valB v = intB v.f_Kind := by rw [valB, if_neg h1, if_neg h2, if_neg h3, if_neg h4, List.append_nil]
end
theorem val_len (v : Val) : (valB v).length ≤ v.f_Text.length + 20 := by
  unfold valB
  rw [List.length_append, int_len]
  split
  · rw [int_len]; omega
  · split
    · rw [bool_len]; omega
    · split
      · rw [bytes_len]; omega
      · split
        · rw [num_len]; omega
        · simp
section
variable (r : List UInt8) (e : Int)
def gv1 : List UInt8 := rdR r e 8 0
def ge1 : Int := rdE r e 8 0
def gv2 : List UInt8 := if rdI r e = 1 then rdR (gv1 r e) (ge1 r e) 8 0 else if rdI r e = 2 then rdR (gv1 r e) (ge1 r e) 1 (truthE ((gv1 r e).take 1)) else if rdI r e = 3 then rdYR (gv1 r e) (ge1 r e) 32 else rdR (gv1 r e) (ge1 r e) 8 (floatE ((gv1 r e).take 8))
def ge2 : Int := if rdI r e = 1 then rdE (gv1 r e) (ge1 r e) 8 0 else if rdI r e = 2 then rdE (gv1 r e) (ge1 r e) 1 (truthE ((gv1 r e).take 1)) else if rdI r e = 3 then rdYE (gv1 r e) (ge1 r e) 32 else rdE (gv1 r e) (ge1 r e) 8 (floatE ((gv1 r e).take 8))
def gvv : Val := if rdI r e = 1 then ⟨1, rdI (gv1 r e) (ge1 r e), false, [], 0⟩ else if rdI r e = 2 then ⟨2, 0, rdB (gv1 r e) (ge1 r e), [], 0⟩ else if rdI r e = 3 then ⟨3, 0, false, rdY (gv1 r e) (ge1 r e) 32, 0⟩ else ⟨4, 0, false, [], rdN (gv1 r e) (ge1 r e)⟩
def badG : Prop := ge1 r e ≠ 0 ∨ ¬ (1 ≤ rdI r e ∧ rdI r e ≤ 4)
instance : Decidable (badG r e) := inferInstanceAs (Decidable (_ ∨ _))
def gvRest : List UInt8 := if badG r e then gv1 r e else gv2 r e
def gvEnd : Int := if badG r e then ge1 r e else ge2 r e
def gvErr : Int := if ge1 r e ≠ 0 then ge1 r e else if ¬ (1 ≤ rdI r e ∧ rdI r e ≤ 4) then 12 else ge2 r e
def gvVal : Val := if badG r e ∨ ge2 r e ≠ 0 then z_api_Value else gvv r e
end
section
variable {r : List UInt8} {e : Int}
theorem gv_fail (h : rdE r e 8 0 ≠ 0) : gvVal r e = z_api_Value ∧ gvErr r e = rdE r e 8 0 ∧ gvRest r e = rdR r e 8 0 ∧ gvEnd r e = rdE r e 8 0 :=
  ⟨if_pos (.inl (.inl h)), if_pos h, if_pos (.inl h), if_pos (.inl h)⟩
theorem gv_kind (h : ¬ rdE r e 8 0 ≠ 0) (hk : ¬ (1 ≤ rdI r e ∧ rdI r e ≤ 4)) : gvVal r e = z_api_Value ∧ gvErr r e = 12 ∧ gvRest r e = rdR r e 8 0 ∧ gvEnd r e = rdE r e 8 0 :=
  ⟨if_pos (.inl (.inr hk)), (if_neg h).trans (if_pos hk), if_pos (.inr hk), if_pos (.inr hk)⟩
theorem gv_good (h : ¬ rdE r e 8 0 ≠ 0) (hk : 1 ≤ rdI r e ∧ rdI r e ≤ 4) : gvRest r e = gv2 r e ∧ gvEnd r e = ge2 r e ∧ gvErr r e = ge2 r e ∧ (ge2 r e ≠ 0 → gvVal r e = z_api_Value) ∧ (¬ ge2 r e ≠ 0 → gvVal r e = gvv r e) := by
  have hb : ¬ badG r e := fun q => q.elim (fun q => h q) (fun q => q hk)
  refine ⟨if_neg hb, if_neg hb, (if_neg h).trans (if_neg (fun q => q hk)), fun q => if_pos (.inr q), fun q => if_neg (fun w => w.elim hb q)⟩
def GvO (r : List UInt8) (e : Int) (R2 : List UInt8) (E2 : Int) (V : Val) : Prop := gvRest r e = R2 ∧ gvEnd r e = E2 ∧ (E2 ≠ 0 → gvVal r e = z_api_Value ∧ gvErr r e = E2) ∧ (¬ E2 ≠ 0 → gvVal r e = V ∧ gvErr r e = 0)
theorem gv_case {R2 : List UInt8} {E2 : Int} {V : Val} (h : ¬ rdE r e 8 0 ≠ 0) (hk : 1 ≤ rdI r e ∧ rdI r e ≤ 4) (h2 : gv2 r e = R2) (h3 : ge2 r e = E2) (h4 : gvv r e = V) : GvO r e R2 E2 V := by
  obtain ⟨a, b, c, d, f⟩ := gv_good h hk
  subst h2 h3 h4
  exact ⟨a, b, fun q => ⟨d q, c⟩, fun q => ⟨f q, c.trans (Classical.not_not.1 q)⟩⟩
theorem gv_1 (h : ¬ rdE r e 8 0 ≠ 0) (hk : rdI r e = 1) : GvO r e (rdR (rdR r e 8 0) (rdE r e 8 0) 8 0) (rdE (rdR r e 8 0) (rdE r e 8 0) 8 0) ⟨1, rdI (rdR r e 8 0) (rdE r e 8 0), false, [], 0⟩ := gv_case (r := r) (e := e) h ⟨by omega, by omega⟩ (show gv2 r e = rdR (rdR r e 8 0) (rdE r e 8 0) 8 0 from if_pos hk) (show ge2 r e = rdE (rdR r e 8 0) (rdE r e 8 0) 8 0 from if_pos hk) (show gvv r e = ⟨1, rdI (rdR r e 8 0) (rdE r e 8 0), false, [], 0⟩ from if_pos hk)
theorem gv_2 (h : ¬ rdE r e 8 0 ≠ 0) (hk : rdI r e = 2) : GvO r e (rdR (rdR r e 8 0) (rdE r e 8 0) 1 (truthE ((rdR r e 8 0).take 1))) (rdE (rdR r e 8 0) (rdE r e 8 0) 1 (truthE ((rdR r e 8 0).take 1))) ⟨2, 0, rdB (rdR r e 8 0) (rdE r e 8 0), [], 0⟩ := gv_case (r := r) (e := e) h ⟨by omega, by omega⟩ (show gv2 r e = rdR (rdR r e 8 0) (rdE r e 8 0) 1 (truthE ((rdR r e 8 0).take 1)) from (if_neg (by omega)).trans (if_pos hk)) (show ge2 r e = rdE (rdR r e 8 0) (rdE r e 8 0) 1 (truthE ((rdR r e 8 0).take 1)) from (if_neg (by omega)).trans (if_pos hk)) (show gvv r e = ⟨2, 0, rdB (rdR r e 8 0) (rdE r e 8 0), [], 0⟩ from (if_neg (by omega)).trans (if_pos hk))
theorem gv_3 (h : ¬ rdE r e 8 0 ≠ 0) (hk : rdI r e = 3) : GvO r e (rdYR (rdR r e 8 0) (rdE r e 8 0) 32) (rdYE (rdR r e 8 0) (rdE r e 8 0) 32) ⟨3, 0, false, rdY (rdR r e 8 0) (rdE r e 8 0) 32, 0⟩ := gv_case (r := r) (e := e) h ⟨by omega, by omega⟩ (show gv2 r e = rdYR (rdR r e 8 0) (rdE r e 8 0) 32 from (if_neg (by omega)).trans ((if_neg (by omega)).trans (if_pos hk))) (show ge2 r e = rdYE (rdR r e 8 0) (rdE r e 8 0) 32 from (if_neg (by omega)).trans ((if_neg (by omega)).trans (if_pos hk))) (show gvv r e = ⟨3, 0, false, rdY (rdR r e 8 0) (rdE r e 8 0) 32, 0⟩ from (if_neg (by omega)).trans ((if_neg (by omega)).trans (if_pos hk)))
theorem gv_4 (h : ¬ rdE r e 8 0 ≠ 0) (hk : rdI r e = 4) : GvO r e (rdR (rdR r e 8 0) (rdE r e 8 0) 8 (floatE ((rdR r e 8 0).take 8))) (rdE (rdR r e 8 0) (rdE r e 8 0) 8 (floatE ((rdR r e 8 0).take 8))) ⟨4, 0, false, [], rdN (rdR r e 8 0) (rdE r e 8 0)⟩ := gv_case (r := r) (e := e) h ⟨by omega, by omega⟩ (show gv2 r e = rdR (rdR r e 8 0) (rdE r e 8 0) 8 (floatE ((rdR r e 8 0).take 8)) from (if_neg (by omega)).trans ((if_neg (by omega)).trans (if_neg (by omega)))) (show ge2 r e = rdE (rdR r e 8 0) (rdE r e 8 0) 8 (floatE ((rdR r e 8 0).take 8)) from (if_neg (by omega)).trans ((if_neg (by omega)).trans (if_neg (by omega)))) (show gvv r e = ⟨4, 0, false, [], rdN (rdR r e 8 0) (rdE r e 8 0)⟩ from (if_neg (by omega)).trans ((if_neg (by omega)).trans (if_neg (by omega))))
end
theorem nan_bits {x : Nat} (h : ¬ (nanB x = true ∧ ((x : Nat) : Int) ≠ 9221120237041090561)) : bitsF x = x := by
  unfold bitsF
  split
  · rename_i hn
    exact Classical.byContradiction fun q => h ⟨hn, fun e => q (by omega)⟩
  · rfl
theorem rdN_bits (r : List UInt8) (e : Int) : bitsF (rdN r e) = rdN r e := by
  unfold rdN
  split
  · rename_i h
    have h3 := h.2.2
    unfold floatE at h3
    split at h3
    · cases h3
    · exact nan_bits (by assumption)
  · exact bits_zero
theorem rdN_lt (r : List UInt8) (e : Int) : rdN r e < 18446744073709551616 := by
  unfold rdN
  split
  · exact numL_lt8 (List.length_take_le _ _)
  · decide
theorem bits_bits (x : Nat) : bitsF (bitsF x) = bitsF x := by
  by_cases h : nanB x = true
  · rw [show bitsF x = 9221120237041090561 from if_pos h]; decide +kernel
  · rw [show bitsF x = x from if_neg h]; exact if_neg h
theorem num_of_bits {x : Nat} (h : x < 18446744073709551616) (q : List UInt8) : rdN (numB x ++ q) 0 = bitsF x ∧ rdR (numB x ++ q) 0 8 (floatE ((numB x ++ q).take 8)) = q ∧ rdE (numB x ++ q) 0 8 (floatE ((numB x ++ q).take 8)) = 0 := by
  have hb := bitsF_lt h
  have ht : (numB x ++ q).take 8 = numB x := take_app (num_len x)
  have hn : numL (numB x) = bitsF x := num_spell (Nat.lt_of_lt_of_le hb (by decide))
  have hf : floatE (numB x) = 0 := by
    unfold floatE
    rw [hn]
    refine if_neg fun w => ?_
    by_cases hx : nanB x = true
    · exact w.2 (by rw [show bitsF x = 9221120237041090561 from if_pos hx]; rfl)
    · rw [show bitsF x = x from if_neg hx] at w; exact hx w.1
  have hk : okT (numB x ++ q) 0 8 (floatE ((numB x ++ q).take 8)) := by rw [ht, hf]; exact okT_app (num_len x)
  refine ⟨?_, ?_, rdE_ok hk⟩
  · rw [rdN, if_pos hk, ht, hn]
  · rw [rdR_ok hk]; exact drop_app (num_len x)
theorem back_boolX (b : Bool) (r : List UInt8) : rdB (boolB b ++ r) 0 = b ∧ rdR (boolB b ++ r) 0 1 (truthE ((boolB b ++ r).take 1)) = r ∧ rdE (boolB b ++ r) 0 1 (truthE ((boolB b ++ r).take 1)) = 0 := by
  have ht : (boolB b ++ r).take 1 = boolB b := take_app (bool_len b)
  have h0 : truthE (boolB b) = 0 := by cases b <;> decide
  have hk : okT (boolB b ++ r) 0 1 (truthE ((boolB b ++ r).take 1)) := by rw [ht, h0]; exact okT_app (bool_len b)
  refine ⟨?_, ?_, rdE_ok hk⟩
  · rw [rdB_ok hk, ht]; cases b <;> decide
  · rw [rdR_ok hk]; exact drop_app (bool_len b)
/-- A good value is read as it was put. -/
theorem value_back {v : Val} (hg : goodV v) (hi : i64R v.f_Int) (hn : v.f_Num < 18446744073709551616) (q : List UInt8) : gvErr (valB v ++ q) 0 = 0 ∧ sameV v (gvVal (valB v ++ q) 0) ∧ gvRest (valB v ++ q) 0 = q := by
  have hr := (good_iff.1 hg).1
  have ht := (good_iff.1 hg).2.1
  have key : ∀ p, valB v = intB v.f_Kind ++ p → rdI (valB v ++ q) 0 = v.f_Kind ∧ rdR (valB v ++ q) 0 8 0 = p ++ q ∧ rdE (valB v ++ q) 0 8 0 = 0 := fun p hp => by
    rw [hp, List.append_assoc]
    exact back_intX ⟨by omega, by omega⟩ (p ++ q)
  by_cases h1 : v.f_Kind = 1
  · obtain ⟨a1, a2, a3⟩ := key _ (val_1 h1)
    obtain ⟨b1, b2, b3⟩ := back_intX hi q
    obtain ⟨c1, c2, c3, c4⟩ := gv_1 (r := valB v ++ q) (e := 0) (by rw [a3]; simp) (by rw [a1]; exact h1)
    rw [a2, a3] at c1 c2 c3 c4
    rw [b2] at c1
    obtain ⟨d1, d2⟩ := c4 (by rw [b3]; simp)
    rw [b1] at d1
    refine ⟨d2, ?_, c1⟩
    rw [d1]
    exact ⟨h1, rfl, good_bool hg (by omega), good_text hg (by omega), by rw [good_num hg (by omega)]⟩
  · by_cases h2 : v.f_Kind = 2
    · obtain ⟨a1, a2, a3⟩ := key _ (val_2 h2)
      obtain ⟨b1, b2, b3⟩ := back_boolX v.f_Bool q
      obtain ⟨c1, c2, c3, c4⟩ := gv_2 (r := valB v ++ q) (e := 0) (by rw [a3]; simp) (by rw [a1]; exact h2)
      rw [a2, a3] at c1 c2 c3 c4
      rw [b2] at c1
      obtain ⟨d1, d2⟩ := c4 (by rw [b3]; simp)
      rw [b1] at d1
      refine ⟨d2, ?_, c1⟩
      rw [d1]
      exact ⟨h2, good_int hg (by omega), rfl, good_text hg (by omega), by rw [good_num hg (by omega)]⟩
    · by_cases h3 : v.f_Kind = 3
      · obtain ⟨a1, a2, a3⟩ := key _ (val_3 h3)
        obtain ⟨b1, b2, b3⟩ := back_bytesM (most := 32) (x := v.f_Text) (by omega) q ht
        obtain ⟨c1, c2, c3, c4⟩ := gv_3 (r := valB v ++ q) (e := 0) (by rw [a3]; simp) (by rw [a1]; exact h3)
        rw [a2, a3] at c1 c2 c3 c4
        rw [b2] at c1
        obtain ⟨d1, d2⟩ := c4 (by rw [b3]; simp)
        rw [b1] at d1
        refine ⟨d2, ?_, c1⟩
        rw [d1]
        exact ⟨h3, good_int hg (by omega), good_bool hg (by omega), rfl, by rw [good_num hg (by omega)]⟩
      · have h4 : v.f_Kind = 4 := by omega
        obtain ⟨a1, a2, a3⟩ := key _ (val_4 h4)
        obtain ⟨b1, b2, b3⟩ := num_of_bits hn q
        obtain ⟨c1, c2, c3, c4⟩ := gv_4 (r := valB v ++ q) (e := 0) (by rw [a3]; simp) (by rw [a1]; exact h4)
        rw [a2, a3] at c1 c2 c3 c4
        rw [b2] at c1
        obtain ⟨d1, d2⟩ := c4 (by rw [b3]; simp)
        rw [b1] at d1
        refine ⟨d2, ?_, c1⟩
        rw [d1]
        exact ⟨h4, good_int hg (by omega), good_bool hg (by omega), good_text hg (by omega), (bits_bits _).symm⟩
/-- How far the document's reader is. -/
def gvA (B : List UInt8) (a : Nat) (e : Int) : Nat := if badG (B.drop a) e then rfA B a e 8 0 else if rdI (B.drop a) e = 1 then rfA B (rfA B a e 8 0) (rdE (B.drop a) e 8 0) 8 0 else if rdI (B.drop a) e = 2 then rfA B (rfA B a e 8 0) (rdE (B.drop a) e 8 0) 1 (truthE ((B.drop (rfA B a e 8 0)).take 1)) else if rdI (B.drop a) e = 3 then rfYA B (rfA B a e 8 0) (rdE (B.drop a) e 8 0) 32 else rfA B (rfA B a e 8 0) (rdE (B.drop a) e 8 0) 8 (floatE ((B.drop (rfA B a e 8 0)).take 8))
section
variable {B : List UInt8} {a : Nat} {e : Int}
theorem gvA_bad (h : badG (B.drop a) e) : gvA B a e = rfA B a e 8 0 := if_pos h
theorem gvA_1 (h : ¬ rdE (B.drop a) e 8 0 ≠ 0) (hk : rdI (B.drop a) e = 1) : gvA B a e = rfA B (rfA B a e 8 0) (rdE (B.drop a) e 8 0) 8 0 := by
  rw [gvA, if_neg (fun q => q.elim (fun q => h q) (fun q => q (by omega))), if_pos hk]
theorem gvA_2 (h : ¬ rdE (B.drop a) e 8 0 ≠ 0) (hk : rdI (B.drop a) e = 2) : gvA B a e = rfA B (rfA B a e 8 0) (rdE (B.drop a) e 8 0) 1 (truthE ((B.drop (rfA B a e 8 0)).take 1)) := by
  rw [gvA, if_neg (fun q => q.elim (fun q => h q) (fun q => q (by omega))), if_neg (by omega), if_pos hk]
theorem gvA_3 (h : ¬ rdE (B.drop a) e 8 0 ≠ 0) (hk : rdI (B.drop a) e = 3) : gvA B a e = rfYA B (rfA B a e 8 0) (rdE (B.drop a) e 8 0) 32 := by
  rw [gvA, if_neg (fun q => q.elim (fun q => h q) (fun q => q (by omega))), if_neg (by omega), if_neg (by omega), if_pos hk]
theorem gvA_4 (h : ¬ rdE (B.drop a) e 8 0 ≠ 0) (hk : rdI (B.drop a) e = 4) : gvA B a e = rfA B (rfA B a e 8 0) (rdE (B.drop a) e 8 0) 8 (floatE ((B.drop (rfA B a e 8 0)).take 8)) := by
  rw [gvA, if_neg (fun q => q.elim (fun q => h q) (fun q => q (by omega))), if_neg (by omega), if_neg (by omega), if_neg (by omega)]
theorem gvA_drop : B.drop (gvA B a e) = gvRest (B.drop a) e := by
  unfold gvA gvRest
  split
  · exact rfA_drop ..
  · unfold gv2 gv1 ge1
    rw [← rfA_drop]
    split
    · exact rfA_drop ..
    · split
      · exact rfA_drop ..
      · split
        · exact rfYA_drop ..
        · exact rfA_drop ..
theorem gvA_le (h : a ≤ B.length) : gvA B a e ≤ B.length := by
  unfold gvA
  split
  · exact rfA_le h
  · split
    · exact rfA_le (rfA_le h)
    · split
      · exact rfA_le (rfA_le h)
      · split
        · exact rfYA_le (rfA_le h)
        · exact rfA_le (rfA_le h)
end
end Go.Proofs.Ytlabmehgcfgigaa.Q
