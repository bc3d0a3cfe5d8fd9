import Derived.Test.YtacikihlgpnjhaaC10n16
namespace Go.Proofs.Ytacikihlgpnjhaa.Q
open Go Go.RowKit
set_option linter.unusedVariables false
set_option linter.unusedSimpArgs false
set_option maxRecDepth 100000
set_option maxHeartbeats 4000000
-- (*quaestor/wire.Reader).Bytes
theorem rd_Bytes (rest : List UInt8) (e : Int) (most : Int) (hr : rest.length ≤ 140737488355328) : Holds Try.prog 45 ⟨[pv 0 0, dv (.int .i64 most)], [.box 89 [.d (dsl false false kU8 rest), .d (.val (.int .i64 e))]], ownV 1 kU8 0 (rdY rest e most).length, [.live (.box 89 [.d (dsl false false kU8 (rdYR rest e most)), .d (.val (.int .i64 (rdYE rest e most)))]), .live (arrK 5 kU8 (rdY rest e most))]⟩ := by
  refine Holds.of Try.func45 rfl (N := 36) Try.ntmps45 rfl fun w0 B0 S0 U0 => ?_
  show T _ (mkBase 36 1 w0 S0 U0 B0) ⟨[pv 0 0, dv (.int .i64 most)], [.live (.box 89 [.d (dsl false false kU8 rest), .d (.val (.int .i64 e))])]⟩ _ _
  have hrc := rdC_lt rest e most
  have hrl := rdR_len rest e 4 (limE most (rest.take 4))
  refine T.seq ?_
  refine xR [] (by kernel_rfl) (by kernel_rfl) ?_
  refine nT ?_
  refine T.seq ?_
  refine T.seq ?_
  refine xR [] (by kernel_rfl) (by kernel_rfl) ?_
  refine nT ?_
  refine T.condF (b := false) (by kernel_rfl) rfl ?_
  refine T.skip ?_
  refine nT ?_
  refine T.seq ?_
  refine xR [] (by kernel_rfl) (by kernel_rfl) ?_
  refine nT ?_
  refine T.seq ?_
  refine xR [hR 2 rfl rfl (r_call (rd_Count rest e most (by first | assumption | omega | (unfold maxLen; omega) | (simp [maxLen, -List.getD_eq_getElem?_getD] <;> omega) | decide)) Try.func46 rfl (by decide) [0] [] (l := [(.tmp 14, pv 0 0), (.tmp 15, dv (.int .i64 most))]) [] rfl 1 1 rfl rfl rfl rfl rfl rfl rfl rfl rfl ⟨.inl ⟨rfl, rfl⟩, ⟨.inl ⟨rfl, rfl⟩, trivial⟩⟩ rfl (fun b hb => by cases hb) (.inl rfl) (lt_of rfl) trivial)] (by kernel_rfl) (by kernel_rfl) ?_
  refine nT ?_
  refine T.seq ?_
  refine T.seq ?_
  refine xR [] (by kernel_rfl) (by kernel_rfl) ?_
  refine nT ?_
  by_cases hq1 : (rdE rest e 4 (limE most (rest.take 4))) ≠ 0
  · have hy := rdY_fail hq1
    refine T.condT (by kernel_rfl) (decide_eq_true hq1) ?_
    refine T.seq ?_
    refine xR [] (by kernel_rfl) (by kernel_rfl) ?_
    refine nT ?_
    refine T.ret ?_
    refine rT ?_
    refine Ends.turn (s' := ⟨[pv 0 0, dv (.int .i64 most), aa, aa, dv (.slice none 0 0), slV false false kU8 rest, dv (.int .i64 ((rdC rest e most : Nat) : Int)), aa, aa, dv (.bool false), aa, aa, aa, aa, aa, aa, aa, aa, aa, aa, aa, dv (.bool (decide ((rdE rest e 4 (limE most (rest.take 4))) ≠ 0)))], [.live (.box 89 [.d (dsl false false kU8 (rdR rest e 4 (limE most (rest.take 4)))), .d (.val (.int .i64 (rdE rest e 4 (limE most (rest.take 4)))))])]⟩) (fun _ _ hG => Gs.norm (by kernel_rfl) hG) ?_
    refine Ends.turn (s' := ⟨[pv 0 0, dv (.int .i64 most), aa, aa, ownV 1 kU8 0 0, slV false false kU8 rest, dv (.int .i64 ((rdC rest e most : Nat) : Int)), aa, aa, dv (.bool false), aa, aa, aa, aa, aa, aa, aa, aa, aa, aa, aa, dv (.bool (decide ((rdE rest e 4 (limE most (rest.take 4))) ≠ 0)))], [.live (.box 89 [.d (dsl false false kU8 (rdR rest e 4 (limE most (rest.take 4)))), .d (.val (.int .i64 (rdE rest e 4 (limE most (rest.take 4)))))]), .live (arrK 5 kU8 ([] : List UInt8))]⟩) (fun _ _ hG => Gs.absent 1 4 5 kU8 rfl rfl hG) ?_
    exact tE (.inl rfl) [.t 4 (.one (.own 1 kU8.sz 0 0))] ⟨⟨rfl, by kernel_rfl⟩, trivial⟩ [0, 1] (by have e1 : ((rdY rest e most).length : Nat) = 0 := (by first | rfl | (rw [hy.1]; done) | (rw [hy.1]; rfl) | (rw [hy.2.1]; first | done | rfl) | (rw [hy.2.1, hy.2.2.2]) | (rw [hy.2.2]; first | done | rfl) | (rw [hy.2.2.1]; first | done | rfl) | exact hy.1 | exact hy.1.symm | exact hy.2.1 | exact hy.2.1.symm | exact hy.2.1.trans hy.2.2.2.symm); have hE := congrArg (fun (q1 : Nat) => (ownV 1 kU8 0 q1 : AV)) e1; exact hE) rfl rfl rfl rfl rfl ⟨⟨rfl, (by have e1 : ((rdR rest e 4 (limE most (rest.take 4))) : List UInt8) = (rdYR rest e most) := (by first | rfl | (rw [hy.1]; done) | (rw [hy.1]; rfl) | (rw [hy.2.1]; first | done | rfl) | (rw [hy.2.1, hy.2.2.2]) | (rw [hy.2.2]; first | done | rfl) | (rw [hy.2.2.1]; first | done | rfl) | exact hy.1 | exact hy.1.symm | exact hy.2.1 | exact hy.2.1.symm | exact hy.2.1.trans hy.2.2.2.symm); have e2 : ((rdE rest e 4 (limE most (rest.take 4))) : Int) = (rdYE rest e most) := (by first | rfl | (rw [hy.1]; done) | (rw [hy.1]; rfl) | (rw [hy.2.1]; first | done | rfl) | (rw [hy.2.1, hy.2.2.2]) | (rw [hy.2.2]; first | done | rfl) | (rw [hy.2.2.1]; first | done | rfl) | exact hy.1 | exact hy.1.symm | exact hy.2.1 | exact hy.2.1.symm | exact hy.2.1.trans hy.2.2.2.symm); have hE := congr (congrArg (fun (q1 : List UInt8) (q2 : Int) => (.live (.box 89 [.d (dsl false false kU8 q1), .d (.val (.int .i64 q2))]) : HS)) e1) e2; exact Eq.trans (by kernel_rfl) hE)⟩, ⟨⟨rfl, (by have e1 : (([] : List UInt8) : List UInt8) = (rdY rest e most) := (by first | rfl | (rw [hy.1]; done) | (rw [hy.1]; rfl) | (rw [hy.2.1]; first | done | rfl) | (rw [hy.2.1, hy.2.2.2]) | (rw [hy.2.2]; first | done | rfl) | (rw [hy.2.2.1]; first | done | rfl) | exact hy.1 | exact hy.1.symm | exact hy.2.1 | exact hy.2.1.symm | exact hy.2.1.trans hy.2.2.2.symm); have hE := congrArg (fun (q1 : List UInt8) => (.live (arrK 5 kU8 q1) : HS)) e1; exact Eq.trans (by kernel_rfl) hE)⟩, trivial⟩⟩
  · have hz := Classical.not_not.1 hq1
    refine T.condF (by kernel_rfl) (decide_eq_false hq1) ?_
    refine T.skip ?_
    refine nT ?_
    refine T.seq ?_
    by_cases hq2 : okT (rdR rest e 4 (limE most (rest.take 4))) (rdE rest e 4 (limE most (rest.take 4))) ((rdC rest e most : Nat) : Int) 0
    · have hy := rdY_ok hz hq2
      refine xR [hR 2 rfl rfl (r_call (take_any_ok (rdR rest e 4 (limE most (rest.take 4))) (rdE rest e 4 (limE most (rest.take 4))) ((rdC rest e most : Nat) : Int) (by first | assumption | omega | (unfold maxLen; omega) | (simp [maxLen, -List.getD_eq_getElem?_getD] <;> omega) | decide) (by first | assumption | omega | (unfold maxLen; omega) | (simp [maxLen, -List.getD_eq_getElem?_getD] <;> omega) | decide) (by first | assumption | omega | (unfold maxLen; omega) | (simp [maxLen, -List.getD_eq_getElem?_getD] <;> omega) | decide)) Try.func65 rfl (by decide) [0] [] (l := [(.tmp 22, pv 0 0), (.tmp 23, dv (.int .i64 ((rdC rest e most : Nat) : Int))), (.func 66, dv (.func (.func 66) #[] #[]))]) [] rfl 1 1 rfl rfl rfl rfl rfl rfl rfl rfl rfl ⟨.inl ⟨rfl, rfl⟩, ⟨.inl ⟨rfl, rfl⟩, ⟨.inl ⟨rfl, rfl⟩, trivial⟩⟩⟩ rfl (fun b hb => by cases hb) (.inl rfl) (lt_of rfl) ⟨rfl, trivial⟩)] (by kernel_rfl) (by kernel_rfl) ?_
      refine nT ?_
      refine T.seq ?_
      refine T.seq ?_
      refine xR [] (by kernel_rfl) (by kernel_rfl) ?_
      refine nT ?_
      refine T.condF (b := false) (by kernel_rfl) rfl ?_
      refine T.skip ?_
      refine nT ?_
      refine T.seq ?_
      refine xR [hR 1 rfl rfl (r_call (clone_u8 false false ((rdR rest e 4 (limE most (rest.take 4))).take ((rdC rest e most : Nat) : Int).toNat) (by first | assumption | omega | (unfold maxLen; omega) | (simp [maxLen, -List.getD_eq_getElem?_getD] <;> omega) | decide)) Try.func64 rfl (by decide) [1] [] (l := [(.tmp 34, slV false false kU8 ((rdR rest e 4 (limE most (rest.take 4))).take ((rdC rest e most : Nat) : Int).toNat))]) [] rfl 0 1 rfl rfl rfl rfl rfl rfl rfl rfl rfl ⟨.inl ⟨rfl, rfl⟩, trivial⟩ rfl (fun b hb => by cases hb) (.inl rfl) (lt_of rfl) trivial)] (by kernel_rfl) (by kernel_rfl) ?_
      refine nT ?_
      refine T.ret ?_
      exact tE (.inl rfl) [.t 4 (.one (.own 1 kU8.sz 0 ((rdR rest e 4 (limE most (rest.take 4))).take ((rdC rest e most : Nat) : Int).toNat).length))] ⟨⟨rfl, by kernel_rfl⟩, trivial⟩ [0, 1] (by have e1 : ((rdY rest e most).length : Nat) = ((rdR rest e 4 (limE most (rest.take 4))).take ((rdC rest e most : Nat) : Int).toNat).length := (by first | rfl | (rw [hy.1]; done) | (rw [hy.1]; rfl) | (rw [hy.2.1]; first | done | rfl) | (rw [hy.2.1, hy.2.2.2]) | (rw [hy.2.2]; first | done | rfl) | (rw [hy.2.2.1]; first | done | rfl) | exact hy.1 | exact hy.1.symm | exact hy.2.1 | exact hy.2.1.symm | exact hy.2.1.trans hy.2.2.2.symm); have hE := congrArg (fun (q1 : Nat) => (ownV 1 kU8 0 q1 : AV)) e1; exact hE) rfl rfl rfl rfl rfl ⟨⟨rfl, (by have e1 : (((rdR rest e 4 (limE most (rest.take 4))).drop ((rdC rest e most : Nat) : Int).toNat) : List UInt8) = (rdYR rest e most) := (by first | rfl | (rw [hy.1]; done) | (rw [hy.1]; rfl) | (rw [hy.2.1]; first | done | rfl) | (rw [hy.2.1, hy.2.2.2]) | (rw [hy.2.2]; first | done | rfl) | (rw [hy.2.2.1]; first | done | rfl) | exact hy.1 | exact hy.1.symm | exact hy.2.1 | exact hy.2.1.symm | exact hy.2.1.trans hy.2.2.2.symm); have e2 : (0 : Int) = (rdYE rest e most) := (by first | rfl | (rw [hy.1]; done) | (rw [hy.1]; rfl) | (rw [hy.2.1]; first | done | rfl) | (rw [hy.2.1, hy.2.2.2]) | (rw [hy.2.2]; first | done | rfl) | (rw [hy.2.2.1]; first | done | rfl) | exact hy.1 | exact hy.1.symm | exact hy.2.1 | exact hy.2.1.symm | exact hy.2.1.trans hy.2.2.2.symm); have hE := congr (congrArg (fun (q1 : List UInt8) (q2 : Int) => (.live (.box 89 [.d (dsl false false kU8 q1), .d (.val (.int .i64 q2))]) : HS)) e1) e2; exact Eq.trans (by kernel_rfl) hE)⟩, ⟨⟨rfl, (by have e1 : (((rdR rest e 4 (limE most (rest.take 4))).take ((rdC rest e most : Nat) : Int).toNat) : List UInt8) = (rdY rest e most) := (by first | rfl | (rw [hy.1]; done) | (rw [hy.1]; rfl) | (rw [hy.2.1]; first | done | rfl) | (rw [hy.2.1, hy.2.2.2]) | (rw [hy.2.2]; first | done | rfl) | (rw [hy.2.2.1]; first | done | rfl) | exact hy.1 | exact hy.1.symm | exact hy.2.1 | exact hy.2.1.symm | exact hy.2.1.trans hy.2.2.2.symm); have hE := congrArg (fun (q1 : List UInt8) => (.live (arrK 5 kU8 q1) : HS)) e1; exact Eq.trans (by kernel_rfl) hE)⟩, trivial⟩⟩
    · have hy := rdY_short hz hq2
      refine xR [hR 2 rfl rfl (r_call (take_any_no (rdR rest e 4 (limE most (rest.take 4))) (rdE rest e 4 (limE most (rest.take 4))) ((rdC rest e most : Nat) : Int) (by first | assumption | omega | (unfold maxLen; omega) | (simp [maxLen, -List.getD_eq_getElem?_getD] <;> omega) | decide) (by first | assumption | omega | (unfold maxLen; omega) | (simp [maxLen, -List.getD_eq_getElem?_getD] <;> omega) | decide) (by first | assumption | omega | (unfold maxLen; omega) | (simp [maxLen, -List.getD_eq_getElem?_getD] <;> omega) | decide)) Try.func65 rfl (by decide) [0] [] (l := [(.tmp 22, pv 0 0), (.tmp 23, dv (.int .i64 ((rdC rest e most : Nat) : Int))), (.func 66, dv (.func (.func 66) #[] #[]))]) [] rfl 1 1 rfl rfl rfl rfl rfl rfl rfl rfl rfl ⟨.inl ⟨rfl, rfl⟩, ⟨.inl ⟨rfl, rfl⟩, ⟨.inl ⟨rfl, rfl⟩, trivial⟩⟩⟩ rfl (fun b hb => by cases hb) (.inl rfl) (lt_of rfl) ⟨rfl, trivial⟩)] (by kernel_rfl) (by kernel_rfl) ?_
      refine nT ?_
      refine T.seq ?_
      refine T.seq ?_
      refine xR [] (by kernel_rfl) (by kernel_rfl) ?_
      refine nT ?_
      by_cases hq3 : (rdE (rdR rest e 4 (limE most (rest.take 4))) (rdE rest e 4 (limE most (rest.take 4))) ((rdC rest e most : Nat) : Int) 0) ≠ 0
      · refine T.condT (by kernel_rfl) (decide_eq_true hq3) ?_
        refine xR [] (by kernel_rfl) (by kernel_rfl) ?_
        refine nT ?_
        refine T.seq ?_
        refine xR [hR 1 rfl rfl (r_call (clone_u8 false false ([] : List UInt8) (by first | assumption | omega | (unfold maxLen; omega) | (simp [maxLen, -List.getD_eq_getElem?_getD] <;> omega) | decide)) Try.func64 rfl (by decide) [1] [] (l := [(.tmp 34, dv (.slice none 0 0))]) [] rfl 0 1 rfl rfl rfl rfl rfl rfl rfl rfl rfl ⟨.inr (.inr ⟨rfl, rfl, rfl⟩), trivial⟩ rfl (fun b hb => by cases hb) (.inl rfl) (lt_of rfl) trivial)] (by kernel_rfl) (by kernel_rfl) ?_
        refine nT ?_
        refine T.ret ?_
        exact tE (.inl rfl) [.t 4 (.one (.own 1 kU8.sz 0 ([] : List UInt8).length))] ⟨⟨rfl, by kernel_rfl⟩, trivial⟩ [0, 1] (by have e1 : ((rdY rest e most).length : Nat) = ([] : List UInt8).length := (by first | rfl | (rw [hy.1]; done) | (rw [hy.1]; rfl) | (rw [hy.2.1]; first | done | rfl) | (rw [hy.2.1, hy.2.2.2]) | (rw [hy.2.2]; first | done | rfl) | (rw [hy.2.2.1]; first | done | rfl) | exact hy.1 | exact hy.1.symm | exact hy.2.1 | exact hy.2.1.symm | exact hy.2.1.trans hy.2.2.2.symm); have hE := congrArg (fun (q1 : Nat) => (ownV 1 kU8 0 q1 : AV)) e1; exact hE) rfl rfl rfl rfl rfl ⟨⟨rfl, (by have e1 : (rest : List UInt8) = (rdYR rest e most) := (by first | rfl | (rw [hy.1]; done) | (rw [hy.1]; rfl) | (rw [hy.2.1]; first | done | rfl) | (rw [hy.2.1, hy.2.2.2]) | (rw [hy.2.2]; first | done | rfl) | (rw [hy.2.2.1]; first | done | rfl) | exact hy.1 | exact hy.1.symm | exact hy.2.1 | exact hy.2.1.symm | exact hy.2.1.trans hy.2.2.2.symm); have e2 : ((rdE (rdR rest e 4 (limE most (rest.take 4))) (rdE rest e 4 (limE most (rest.take 4))) ((rdC rest e most : Nat) : Int) 0) : Int) = (rdYE rest e most) := (by first | rfl | (rw [hy.1]; done) | (rw [hy.1]; rfl) | (rw [hy.2.1]; first | done | rfl) | (rw [hy.2.1, hy.2.2.2]) | (rw [hy.2.2]; first | done | rfl) | (rw [hy.2.2.1]; first | done | rfl) | exact hy.1 | exact hy.1.symm | exact hy.2.1 | exact hy.2.1.symm | exact hy.2.1.trans hy.2.2.2.symm); have hE := congr (congrArg (fun (q1 : List UInt8) (q2 : Int) => (.live (.box 89 [.d (dsl false false kU8 q1), .d (.val (.int .i64 q2))]) : HS)) e1) e2; exact Eq.trans (by kernel_rfl) hE)⟩, ⟨⟨rfl, (by have e1 : (([] : List UInt8) : List UInt8) = (rdY rest e most) := (by first | rfl | (rw [hy.1]; done) | (rw [hy.1]; rfl) | (rw [hy.2.1]; first | done | rfl) | (rw [hy.2.1, hy.2.2.2]) | (rw [hy.2.2]; first | done | rfl) | (rw [hy.2.2.1]; first | done | rfl) | exact hy.1 | exact hy.1.symm | exact hy.2.1 | exact hy.2.1.symm | exact hy.2.1.trans hy.2.2.2.symm); have hE := congrArg (fun (q1 : List UInt8) => (.live (arrK 5 kU8 q1) : HS)) e1; exact Eq.trans (by kernel_rfl) hE)⟩, trivial⟩⟩
      · exact absurd (rdE_no hq2) hq3
end Go.Proofs.Ytacikihlgpnjhaa.Q
