import Derived.Test.YtdclfhahcfefeaaC11n20
namespace Go.Proofs.Ytdclfhahcfefeaa.Q
open Go Go.RowKit
set_option linter.unusedVariables false
set_option linter.unusedSimpArgs false
set_option maxRecDepth 100000
set_option maxHeartbeats 4000000
-- (*quaestor/wire.Reader).Bytes
theorem rd_Bytes (rest : List UInt8) (e : Int) (most : Int) (hr : rest.length ≤ 140737488355328) : Holds Try.prog 50 ⟨[pv 0 0, dv (.int .i64 most)], [.box 115 [.d (dsl false false kU8 rest), .d (.val (.int .i64 e))]], ownV 1 kU8 0 (rdY rest e most).length, [.live (.box 115 [.d (dsl false false kU8 (rdYR rest e most)), .d (.val (.int .i64 (rdYE rest e most)))]), .live (arrK 5 kU8 (rdY rest e most))]⟩ := by
  refine Holds.of Try.func50 rfl (N := 36) Try.ntmps50 rfl fun w0 B0 S0 U0 => ?_
  show T _ (mkBase 36 1 w0 S0 U0 B0) ⟨[pv 0 0, dv (.int .i64 most)], [.live (.box 115 [.d (dsl false false kU8 rest), .d (.val (.int .i64 e))])]⟩ _ _
  have hrc := rdC_lt rest e most
  have hrl := rdR_len rest e 4 (limE most (rest.take 4))
  refine T.seq ?_
  refine xR [] (by kernel_rfl) (by kernel_rfl) ?_
  refine nT ?_
  refine T.seq ?_
  refine T.seq ?_
  refine xR [] (by kernel_rfl) (by kernel_rfl) ?_
  refine nT ?_
  refine T.condF (b := false) (by kernel_rfl) rfl ?_
  refine T.skip ?_
  refine nT ?_
  refine T.seq ?_
  refine xR [] (by kernel_rfl) (by kernel_rfl) ?_
  refine nT ?_
  refine T.seq ?_
  refine xR [hR 2 rfl rfl (r_call (rd_Count rest e most (by first | assumption | omega | (unfold maxLen; omega) | (simp [maxLen, -List.getD_eq_getElem?_getD] <;> omega) | decide)) Try.func76 rfl (by decide) [0] [] (l := [(.tmp 14, pv 0 0), (.tmp 15, dv (.int .i64 most))]) [] rfl 1 1 rfl rfl rfl rfl rfl rfl rfl rfl rfl ⟨.inl ⟨rfl, rfl⟩, ⟨.inl ⟨rfl, rfl⟩, trivial⟩⟩ rfl (fun b hb => by cases hb) (.inl rfl) (lt_of rfl) trivial)] (by kernel_rfl) (by kernel_rfl) ?_
  refine nT ?_
  refine T.seq ?_
  refine T.seq ?_
  refine xR [] (by kernel_rfl) (by kernel_rfl) ?_
  refine nT ?_
  by_cases hq1 : (rdE rest e 4 (limE most (rest.take 4))) ≠ 0
  · have hy := rdY_fail hq1
    refine T.condT (by kernel_rfl) (decide_eq_true hq1) ?_
    refine T.seq ?_
    refine xR [] (by kernel_rfl) (by kernel_rfl) ?_
    refine nT ?_
    refine T.ret ?_
    refine rT ?_
    refine Ends.turn (s' := ⟨[pv 0 0, dv (.int .i64 most), aa, aa, dv (.slice none 0 0), slV false false kU8 rest, dv (.int .i64 ((rdC rest e most : Nat) : Int)), aa, aa, dv (.bool false), aa, aa, aa, aa, aa, aa, aa, aa, aa, aa, aa, dv (.bool (decide ((rdE rest e 4 (limE most (rest.take 4))) ≠ 0)))], [.live (.box 115 [.d (dsl false false kU8 (rdR rest e 4 (limE most (rest.take 4)))), .d (.val (.int .i64 (rdE rest e 4 (limE most (rest.take 4)))))])]⟩) (fun _ _ hG => Gs.norm (by kernel_rfl) hG) ?_
    refine Ends.turn (s' := ⟨[pv 0 0, dv (.int .i64 most), aa, aa, ownV 1 kU8 0 0, slV false false kU8 rest, dv (.int .i64 ((rdC rest e most : Nat) : Int)), aa, aa, dv (.bool false), aa, aa, aa, aa, aa, aa, aa, aa, aa, aa, aa, dv (.bool (decide ((rdE rest e 4 (limE most (rest.take 4))) ≠ 0)))], [.live (.box 115 [.d (dsl false false kU8 (rdR rest e 4 (limE most (rest.take 4)))), .d (.val (.int .i64 (rdE rest e 4 (limE most (rest.take 4)))))]), .live (arrK 5 kU8 ([] : List UInt8))]⟩) (fun _ _ hG => Gs.absent 1 4 5 kU8 rfl rfl hG) ?_
    exact tE (.inl rfl) [.t 4 (.one (.own 1 kU8.sz 0 0))] ⟨⟨rfl, by kernel_rfl⟩, trivial⟩ [0, 1] (by have e1 : ((rdY rest e most).length : Nat) = 0 := (by first | rfl | (rw [hy.1]; done) | (rw [hy.1]; rfl) | (rw [hy.2.1]; first | done | rfl) | (rw [hy.2.1, hy.2.2.2]) | (rw [hy.2.2]; first | done | rfl) | (rw [hy.2.2.1]; first | done | rfl) | exact hy.1 | exact hy.1.symm | exact hy.2.1 | exact hy.2.1.symm | exact hy.2.1.trans hy.2.2.2.symm); have hE := congrArg (fun (q1 : Nat) => (ownV 1 kU8 0 q1 : AV)) e1; exact hE) rfl rfl rfl rfl rfl ⟨⟨rfl, (by have e1 : ((rdR rest e 4 (limE most (rest.take 4))) : List UInt8) = (rdYR rest e most) := (by first | rfl | (rw [hy.1]; done) | (rw [hy.1]; rfl) | (rw [hy.2.1]; first | done | rfl) | (rw [hy.2.1, hy.2.2.2]) | (rw [hy.2.2]; first | done | rfl) | (rw [hy.2.2.1]; first | done | rfl) | exact hy.1 | exact hy.1.symm | exact hy.2.1 | exact hy.2.1.symm | exact hy.2.1.trans hy.2.2.2.symm); have e2 : ((rdE rest e 4 (limE most (rest.take 4))) : Int) = (rdYE rest e most) := (by first | rfl | (rw [hy.1]; done) | (rw [hy.1]; rfl) | (rw [hy.2.1]; first | done | rfl) | (rw [hy.2.1, hy.2.2.2]) | (rw [hy.2.2]; first | done | rfl) | (rw [hy.2.2.1]; first | done | rfl) | exact hy.1 | exact hy.1.symm | exact hy.2.1 | exact hy.2.1.symm | exact hy.2.1.trans hy.2.2.2.symm); have hE := congr (congrArg (fun (q1 : List UInt8) (q2 : Int) => (.live (.box 115 [.d (dsl false false kU8 q1), .d (.val (.int .i64 q2))]) : HS)) e1) e2; exact Eq.trans (by kernel_rfl) hE)⟩, ⟨⟨rfl, (by have e1 : (([] : List UInt8) : List UInt8) = (rdY rest e most) := (by first | rfl | (rw [hy.1]; done) | (rw [hy.1]; rfl) | (rw [hy.2.1]; first | done | rfl) | (rw [hy.2.1, hy.2.2.2]) | (rw [hy.2.2]; first | done | rfl) | (rw [hy.2.2.1]; first | done | rfl) | exact hy.1 | exact hy.1.symm | exact hy.2.1 | exact hy.2.1.symm | exact hy.2.1.trans hy.2.2.2.symm); have hE := congrArg (fun (q1 : List UInt8) => (.live (arrK 5 kU8 q1) : HS)) e1; exact Eq.trans (by kernel_rfl) hE)⟩, trivial⟩⟩
  · have hz := Classical.not_not.1 hq1
    refine T.condF (by kernel_rfl) (decide_eq_false hq1) ?_
    refine T.skip ?_
    refine nT ?_
    refine T.seq ?_
    by_cases hq2 : okT (rdR rest e 4 (limE most (rest.take 4))) (rdE rest e 4 (limE most (rest.take 4))) ((rdC rest e most : Nat) : Int) 0
    · have hy := rdY_ok hz hq2
      refine xR [hR 2 rfl rfl (r_call (take_any_ok (rdR rest e 4 (limE most (rest.take 4))) (rdE rest e 4 (limE most (rest.take 4))) ((rdC rest e most : Nat) : Int) (by first | assumption | omega | (unfold maxLen; omega) | (simp [maxLen, -List.getD_eq_getElem?_getD] <;> omega) | decide) (by first | assumption | omega | (unfold maxLen; omega) | (simp [maxLen, -List.getD_eq_getElem?_getD] <;> omega) | decide) (by first | assumption | omega | (unfold maxLen; omega) | (simp [maxLen, -List.getD_eq_getElem?_getD] <;> omega) | decide)) Try.func73 rfl (by decide) [0] [] (l := [(.tmp 22, pv 0 0), (.tmp 23, dv (.int .i64 ((rdC rest e most : Nat) : Int))), (.func 74, dv (.func (.func 74) #[] #[]))]) [] rfl 1 1 rfl rfl rfl rfl rfl rfl rfl rfl rfl ⟨.inl ⟨rfl, rfl⟩, ⟨.inl ⟨rfl, rfl⟩, ⟨.inl ⟨rfl, rfl⟩, trivial⟩⟩⟩ rfl (fun b hb => by cases hb) (.inl rfl) (lt_of rfl) ⟨rfl, trivial⟩)] (by kernel_rfl) (by kernel_rfl) ?_
      refine nT ?_
      refine T.seq ?_
      refine T.seq ?_
      refine xR [] (by kernel_rfl) (by kernel_rfl) ?_
      refine nT ?_
      refine T.condF (b := false) (by kernel_rfl) rfl ?_
      refine T.skip ?_
      refine nT ?_
      refine T.seq ?_
      refine xR [hR 1 rfl rfl (r_call (clone_u8 false false ((rdR rest e 4 (limE most (rest.take 4))).take ((rdC rest e most : Nat) : Int).toNat) (by first | assumption | omega | (unfold maxLen; omega) | (simp [maxLen, -List.getD_eq_getElem?_getD] <;> omega) | decide)) Try.func67 rfl (by decide) [1] [] (l := [(.tmp 34, slV false false kU8 ((rdR rest e 4 (limE most (rest.take 4))).take ((rdC rest e most : Nat) : Int).toNat))]) [] rfl 0 1 rfl rfl rfl rfl rfl rfl rfl rfl rfl ⟨.inl ⟨rfl, rfl⟩, trivial⟩ rfl (fun b hb => by cases hb) (.inl rfl) (lt_of rfl) trivial)] (by kernel_rfl) (by kernel_rfl) ?_
      refine nT ?_
      refine T.ret ?_
      exact tE (.inl rfl) [.t 4 (.one (.own 1 kU8.sz 0 ((rdR rest e 4 (limE most (rest.take 4))).take ((rdC rest e most : Nat) : Int).toNat).length))] ⟨⟨rfl, by kernel_rfl⟩, trivial⟩ [0, 1] (by have e1 : ((rdY rest e most).length : Nat) = ((rdR rest e 4 (limE most (rest.take 4))).take ((rdC rest e most : Nat) : Int).toNat).length := (by first | rfl | (rw [hy.1]; done) | (rw [hy.1]; rfl) | (rw [hy.2.1]; first | done | rfl) | (rw [hy.2.1, hy.2.2.2]) | (rw [hy.2.2]; first | done | rfl) | (rw [hy.2.2.1]; first | done | rfl) | exact hy.1 | exact hy.1.symm | exact hy.2.1 | exact hy.2.1.symm | exact hy.2.1.trans hy.2.2.2.symm); have hE := congrArg (fun (q1 : Nat) => (ownV 1 kU8 0 q1 : AV)) e1; exact hE) rfl rfl rfl rfl rfl ⟨⟨rfl, (by have e1 : (((rdR rest e 4 (limE most (rest.take 4))).drop ((rdC rest e most : Nat) : Int).toNat) : List UInt8) = (rdYR rest e most) := (by first | rfl | (rw [hy.1]; done) | (rw [hy.1]; rfl) | (rw [hy.2.1]; first | done | rfl) | (rw [hy.2.1, hy.2.2.2]) | (rw [hy.2.2]; first | done | rfl) | (rw [hy.2.2.1]; first | done | rfl) | exact hy.1 | exact hy.1.symm | exact hy.2.1 | exact hy.2.1.symm | exact hy.2.1.trans hy.2.2.2.symm); have e2 : (0 : Int) = (rdYE rest e most) := (by first | rfl | (rw [hy.1]; done) | (rw [hy.1]; rfl) | (rw [hy.2.1]; first | done | rfl) | (rw [hy.2.1, hy.2.2.2]) | (rw [hy.2.2]; first | done | rfl) | (rw [hy.2.2.1]; first | done | rfl) | exact hy.1 | exact hy.1.symm | exact hy.2.1 | exact hy.2.1.symm | exact hy.2.1.trans hy.2.2.2.symm); have hE := congr (congrArg (fun (q1 : List UInt8) (q2 : Int) => (.live (.box 115 [.d (dsl false false kU8 q1), .d (.val (.int .i64 q2))]) : HS)) e1) e2; exact Eq.trans (by kernel_rfl) hE)⟩, ⟨⟨rfl, (by have e1 : (((rdR rest e 4 (limE most (rest.take 4))).take ((rdC rest e most : Nat) : Int).toNat) : List UInt8) = (rdY rest e most) := (by first | rfl | (rw [hy.1]; done) | (rw [hy.1]; rfl) | (rw [hy.2.1]; first | done | rfl) | (rw [hy.2.1, hy.2.2.2]) | (rw [hy.2.2]; first | done | rfl) | (rw [hy.2.2.1]; first | done | rfl) | exact hy.1 | exact hy.1.symm | exact hy.2.1 | exact hy.2.1.symm | exact hy.2.1.trans hy.2.2.2.symm); have hE := congrArg (fun (q1 : List UInt8) => (.live (arrK 5 kU8 q1) : HS)) e1; exact Eq.trans (by kernel_rfl) hE)⟩, trivial⟩⟩
    · have hy := rdY_short hz hq2
      refine xR [hR 2 rfl rfl (r_call (take_any_no (rdR rest e 4 (limE most (rest.take 4))) (rdE rest e 4 (limE most (rest.take 4))) ((rdC rest e most : Nat) : Int) (by first | assumption | omega | (unfold maxLen; omega) | (simp [maxLen, -List.getD_eq_getElem?_getD] <;> omega) | decide) (by first | assumption | omega | (unfold maxLen; omega) | (simp [maxLen, -List.getD_eq_getElem?_getD] <;> omega) | decide) (by first | assumption | omega | (unfold maxLen; omega) | (simp [maxLen, -List.getD_eq_getElem?_getD] <;> omega) | decide)) Try.func73 rfl (by decide) [0] [] (l := [(.tmp 22, pv 0 0), (.tmp 23, dv (.int .i64 ((rdC rest e most : Nat) : Int))), (.func 74, dv (.func (.func 74) #[] #[]))]) [] rfl 1 1 rfl rfl rfl rfl rfl rfl rfl rfl rfl ⟨.inl ⟨rfl, rfl⟩, ⟨.inl ⟨rfl, rfl⟩, ⟨.inl ⟨rfl, rfl⟩, trivial⟩⟩⟩ rfl (fun b hb => by cases hb) (.inl rfl) (lt_of rfl) ⟨rfl, trivial⟩)] (by kernel_rfl) (by kernel_rfl) ?_
      refine nT ?_
      refine T.seq ?_
      refine T.seq ?_
      refine xR [] (by kernel_rfl) (by kernel_rfl) ?_
      refine nT ?_
      by_cases hq3 : (rdE (rdR rest e 4 (limE most (rest.take 4))) (rdE rest e 4 (limE most (rest.take 4))) ((rdC rest e most : Nat) : Int) 0) ≠ 0
      · refine T.condT (by kernel_rfl) (decide_eq_true hq3) ?_
        refine xR [] (by kernel_rfl) (by kernel_rfl) ?_
        refine nT ?_
        refine T.seq ?_
        refine xR [hR 1 rfl rfl (r_call (clone_u8 false false ([] : List UInt8) (by first | assumption | omega | (unfold maxLen; omega) | (simp [maxLen, -List.getD_eq_getElem?_getD] <;> omega) | decide)) Try.func67 rfl (by decide) [1] [] (l := [(.tmp 34, dv (.slice none 0 0))]) [] rfl 0 1 rfl rfl rfl rfl rfl rfl rfl rfl rfl ⟨.inr (.inr ⟨rfl, rfl, rfl⟩), trivial⟩ rfl (fun b hb => by cases hb) (.inl rfl) (lt_of rfl) trivial)] (by kernel_rfl) (by kernel_rfl) ?_
        refine nT ?_
        refine T.ret ?_
        exact tE (.inl rfl) [.t 4 (.one (.own 1 kU8.sz 0 ([] : List UInt8).length))] ⟨⟨rfl, by kernel_rfl⟩, trivial⟩ [0, 1] (by have e1 : ((rdY rest e most).length : Nat) = ([] : List UInt8).length := (by first | rfl | (rw [hy.1]; done) | (rw [hy.1]; rfl) | (rw [hy.2.1]; first | done | rfl) | (rw [hy.2.1, hy.2.2.2]) | (rw [hy.2.2]; first | done | rfl) | (rw [hy.2.2.1]; first | done | rfl) | exact hy.1 | exact hy.1.symm | exact hy.2.1 | exact hy.2.1.symm | exact hy.2.1.trans hy.2.2.2.symm); have hE := congrArg (fun (q1 : Nat) => (ownV 1 kU8 0 q1 : AV)) e1; exact hE) rfl rfl rfl rfl rfl ⟨⟨rfl, (by have e1 : (rest : List UInt8) = (rdYR rest e most) := (by first | rfl | (rw [hy.1]; done) | (rw [hy.1]; rfl) | (rw [hy.2.1]; first | done | rfl) | (rw [hy.2.1, hy.2.2.2]) | (rw [hy.2.2]; first | done | rfl) | (rw [hy.2.2.1]; first | done | rfl) | exact hy.1 | exact hy.1.symm | exact hy.2.1 | exact hy.2.1.symm | exact hy.2.1.trans hy.2.2.2.symm); have e2 : ((rdE (rdR rest e 4 (limE most (rest.take 4))) (rdE rest e 4 (limE most (rest.take 4))) ((rdC rest e most : Nat) : Int) 0) : Int) = (rdYE rest e most) := (by first | rfl | (rw [hy.1]; done) | (rw [hy.1]; rfl) | (rw [hy.2.1]; first | done | rfl) | (rw [hy.2.1, hy.2.2.2]) | (rw [hy.2.2]; first | done | rfl) | (rw [hy.2.2.1]; first | done | rfl) | exact hy.1 | exact hy.1.symm | exact hy.2.1 | exact hy.2.1.symm | exact hy.2.1.trans hy.2.2.2.symm); have hE := congr (congrArg (fun (q1 : List UInt8) (q2 : Int) => (.live (.box 115 [.d (dsl false false kU8 q1), .d (.val (.int .i64 q2))]) : HS)) e1) e2; exact Eq.trans (by kernel_rfl) hE)⟩, ⟨⟨rfl, (by have e1 : (([] : List UInt8) : List UInt8) = (rdY rest e most) := (by first | rfl | (rw [hy.1]; done) | (rw [hy.1]; rfl) | (rw [hy.2.1]; first | done | rfl) | (rw [hy.2.1, hy.2.2.2]) | (rw [hy.2.2]; first | done | rfl) | (rw [hy.2.2.1]; first | done | rfl) | exact hy.1 | exact hy.1.symm | exact hy.2.1 | exact hy.2.1.symm | exact hy.2.1.trans hy.2.2.2.symm); have hE := congrArg (fun (q1 : List UInt8) => (.live (arrK 5 kU8 q1) : HS)) e1; exact Eq.trans (by kernel_rfl) hE)⟩, trivial⟩⟩
      · exact absurd (rdE_no hq2) hq3
end Go.Proofs.Ytdclfhahcfefeaa.Q
namespace Go.Proofs.Ytdclfhahcfefeaa.Q
set_option linter.unusedVariables false
set_option linter.unusedSimpArgs false

/-! ### The document's reader: bytes, and how far it is -/

def rfN (B : List UInt8) (a m : Nat) : Nat := if a + m ≤ B.length then numL ((B.drop a).take m) else 0
def rfA (B : List UInt8) (a : Nat) (e n m : Int) : Nat := if okT (B.drop a) e n m then a + n.toNat else a
section
variable {B : List UInt8} {a : Nat} {e n m : Int}
theorem rfN_ok {m : Nat} (h : a + m ≤ B.length) : rfN B a m = numL ((B.drop a).take m) := if_pos h
theorem rfN_lt (B : List UInt8) (a : Nat) {m : Nat} (hm : m ≤ 8) : rfN B a m < 18446744073709551616 := by
  unfold rfN; split
  · exact numL_lt8 (Nat.le_trans (List.length_take_le _ _) hm)
  · decide
theorem rfN_lt4 (B : List UInt8) (a : Nat) : rfN B a 4 < 4294967296 := by
  unfold rfN; split
  · exact numL_lt4 (List.length_take_le _ _)
  · decide
theorem numL_dropk {k : Nat} (hk : a + k < B.length) : numL ((B.drop a).take (k + 1)) = numL ((B.drop a).take k) * 2 ^ 8 ||| (B.getD (a + k) 0).toNat := by
  rw [numL_take (by simp; omega)]
  congr 2
  simp [List.getD_eq_getElem?_getD]
theorem rfA_ok (h : okT (B.drop a) e n m) : rfA B a e n m = a + n.toNat := if_pos h
theorem rfA_no (h : ¬ okT (B.drop a) e n m) : rfA B a e n m = a := if_neg h
theorem rfA_le (ha : a ≤ B.length) : rfA B a e n m ≤ B.length := by
  unfold rfA; split
  · rename_i h
    have := h.2.1
    rw [List.length_drop] at this
    omega
  · exact ha
theorem rf_e (h : e ≠ 0) (n m : Int) : ¬ okT (B.drop a) e n m ∧ rdE (B.drop a) e n m = e := ⟨fun h1 => h h1.1, if_pos h⟩
theorem rf_short {k : Nat} (hn : n = ((k : Nat) : Int)) (he : ¬ e ≠ 0) (h : ¬ a + k ≤ B.length) (ha : a ≤ B.length) (m : Int) : ¬ okT (B.drop a) e n m ∧ rdE (B.drop a) e n m = 10 := by
  have hl : (B.drop a).length = B.length - a := List.length_drop
  subst hn
  refine ⟨fun h1 => ?_, ?_⟩
  · have := h1.2.1; omega
  · unfold rdE
    rw [if_neg he, if_pos (by omega)]
theorem rf_m {k : Nat} {c : Int} (hn : n = ((k : Nat) : Int)) (he : ¬ e ≠ 0) (h : a + k ≤ B.length) {m : Int} (hm : m = c) (hc : c ≠ 0) : ¬ okT (B.drop a) e n m ∧ rdE (B.drop a) e n m = c := by
  have hl : (B.drop a).length = B.length - a := List.length_drop
  subst hn
  subst hm
  refine ⟨fun h1 => hc h1.2.2, ?_⟩
  unfold rdE
  rw [if_neg he, if_neg (by omega)]
theorem rf_ok {k : Nat} (hn : n = ((k : Nat) : Int)) (he : ¬ e ≠ 0) (h : a + k ≤ B.length) {m : Int} (hm : m = 0) : okT (B.drop a) e n m ∧ rdE (B.drop a) e n m = 0 := by
  have hl : (B.drop a).length = B.length - a := List.length_drop
  subst hn
  have hk : okT (B.drop a) e ((k : Nat) : Int) m := ⟨Classical.not_not.1 he, by omega, hm⟩
  exact ⟨hk, rdE_ok hk⟩
theorem lim_of {most : Int} (h : a + 4 ≤ B.length) : limE most ((B.drop a).take 4) = if ((rfN B a 4 : Nat) : Int) > max 0 most then 11 else 0 := by
  unfold limE
  rw [rfN_ok h, Int.max_comm]
theorem truth_of (h : a + 1 ≤ B.length) : truthE ((B.drop a).take 1) = if ((rfN B a 1 : Nat) : Int) > 1 then 12 else 0 := by
  have h1 : ((B.drop a).take 1) = [B.getD a 0] := by
    rw [List.getD_eq_getElem?_getD, List.getElem?_eq_getElem (by omega), List.drop_eq_getElem_cons (by omega)]
    rfl
  have h2 : rfN B a 1 = (B.getD a 0).toNat := by rw [rfN_ok h, h1]; exact numL_snoc [] _ |>.trans (by simp [numL])
  rw [h2, h1]
  rfl
theorem bool_of (h : a + 1 ≤ B.length) : ((((B.drop a).take 1).getD 0 0).toNat : Int) = ((rfN B a 1 : Nat) : Int) := by
  have h1 : ((B.drop a).take 1) = [B.getD a 0] := by
    rw [List.getD_eq_getElem?_getD, List.getElem?_eq_getElem (by omega), List.drop_eq_getElem_cons (by omega)]
    rfl
  have h2 : rfN B a 1 = (B.getD a 0).toNat := by rw [rfN_ok h, h1]; exact numL_snoc [] _ |>.trans (by simp [numL])
  rw [h2, h1]
  rfl
theorem float_of (h : a + 8 ≤ B.length) : floatE ((B.drop a).take 8) = if nanB (rfN B a 8) = true ∧ ((rfN B a 8 : Nat) : Int) ≠ 9221120237041090561 then 12 else 0 := by
  unfold floatE
  rw [rfN_ok h]
end
/-- Bytes, by the document's reader. -/
def rfYA (B : List UInt8) (a : Nat) (e most : Int) : Nat := if okY (B.drop a) e most then a + 4 + numL ((B.drop a).take 4) else a
section
variable {B : List UInt8} {a : Nat} {e most : Int}
theorem rfYA_drop (B : List UInt8) (a : Nat) (e most : Int) : B.drop (rfYA B a e most) = rdYR (B.drop a) e most := by
  unfold rfYA rdYR
  split
  · rw [List.drop_drop, List.drop_drop, Nat.add_assoc]
  · rfl
theorem rfA_drop (B : List UInt8) (a : Nat) (e n m : Int) : B.drop (rfA B a e n m) = rdR (B.drop a) e n m := by
  unfold rfA rdR
  split
  · rw [List.drop_drop]
  · rfl
theorem rfYA_le (ha : a ≤ B.length) : rfYA B a e most ≤ B.length := by
  unfold rfYA; split
  · rename_i h
    have h1 := h.1.2.1
    have h2 := h.2
    simp only [List.length_drop] at h1 h2
    omega
  · exact ha
theorem rfY_fail (h : rdE (B.drop a) e 4 (limE most ((B.drop a).take 4)) ≠ 0) : rdY (B.drop a) e most = [] ∧ rfYA B a e most = a ∧ rdYE (B.drop a) e most = rdE (B.drop a) e 4 (limE most ((B.drop a).take 4)) ∧ rfA B a e 4 (limE most ((B.drop a).take 4)) = a := by
  have h1 : ¬ okT (B.drop a) e 4 (limE most ((B.drop a).take 4)) := fun hk => h (rdE_ok hk)
  exact ⟨if_neg fun h2 => h1 h2.1, if_neg fun h2 => h1 h2.1, if_neg h1, rfA_no h1⟩
theorem rfY_short (h : rdE (B.drop a) e 4 (limE most ((B.drop a).take 4)) = 0) (h2 : ((rdC (B.drop a) e most : Nat) : Int) > ((B.length : Nat) : Int) - ((rfA B a e 4 (limE most ((B.drop a).take 4)) : Nat) : Int)) (ha : a ≤ B.length) :
    rdY (B.drop a) e most = [] ∧ rfYA B a e most = a ∧ rdYE (B.drop a) e most = 10 := by
  have h1 := okT_of h
  have h4 : a + 4 ≤ B.length := by have := h1.2.1; rw [List.length_drop] at this; omega
  rw [rdC_ok h1, rfA_ok h1] at h2
  have h3 : ¬ numL ((B.drop a).take 4) ≤ ((B.drop a).drop 4).length := by simp only [List.length_drop]; omega
  refine ⟨if_neg fun hy => h3 hy.2, if_neg fun hy => h3 hy.2, ?_⟩
  unfold rdYE
  rw [if_pos h1, if_neg h3]
theorem rfY_ok (h : rdE (B.drop a) e 4 (limE most ((B.drop a).take 4)) = 0) (h2 : ¬ ((rdC (B.drop a) e most : Nat) : Int) > ((B.length : Nat) : Int) - ((rfA B a e 4 (limE most ((B.drop a).take 4)) : Nat) : Int)) (ha : a ≤ B.length) :
    rfA B a e 4 (limE most ((B.drop a).take 4)) = a + 4 ∧ rdC (B.drop a) e most = numL ((B.drop a).take 4) ∧ a + 4 + numL ((B.drop a).take 4) ≤ B.length ∧ rdY (B.drop a) e most = (B.take (a + 4 + numL ((B.drop a).take 4))).drop (a + 4) ∧ rfYA B a e most = a + 4 + numL ((B.drop a).take 4) ∧ rdYE (B.drop a) e most = 0 := by
  have h1 := okT_of h
  have h4 : a + 4 ≤ B.length := by have := h1.2.1; rw [List.length_drop] at this; omega
  rw [rdC_ok h1, rfA_ok h1] at h2
  have h3 : numL ((B.drop a).take 4) ≤ ((B.drop a).drop 4).length := by simp only [List.length_drop]; omega
  have hy : okY (B.drop a) e most := ⟨h1, h3⟩
  refine ⟨rfA_ok h1, rdC_ok h1, by simp only [List.length_drop] at h3; omega, ?_, if_pos hy, ?_⟩
  · rw [rdY, if_pos hy, List.drop_drop, List.drop_take, show a + 4 + numL ((B.drop a).take 4) - (a + 4) = numL ((B.drop a).take 4) by omega]
  · unfold rdYE
    rw [if_pos h1, if_pos h3]
end
end Go.Proofs.Ytdclfhahcfefeaa.Q
namespace Go.Proofs.Ytdclfhahcfefeaa.Q
open Go Go.RowKit
set_option linter.unusedVariables false
set_option linter.unusedSimpArgs false
set_option maxRecDepth 100000
set_option maxHeartbeats 4000000
theorem fld_99_0 : FieldAt Try.prog 99 0 0 := ⟨_, _, _, Try.underlying99, rfl, iat_58, by decide, rfl⟩
theorem fld_99_1 : FieldAt Try.prog 99 1 1 := ⟨_, _, _, Try.underlying99, rfl, iat_3, by decide, rfl⟩
-- (*quaestor/quaestorref01.Reader).number
theorem ref01_number (B : List UInt8) (a : Nat) (e : Int) (m : Nat) (ha : a ≤ B.length) (hB : B.length ≤ 140737488350000) (hm : m ≤ 8) : Holds Try.prog 77 ⟨[pv 0 0, dv (.int .i64 ((m : Nat) : Int))], [.box 99 [.d (dsl false false kU8 B), .d (.val (.int .i64 ((a : Nat) : Int))), .d (.val (.int .i64 e))]], .tup [.one (.d (.val (.int .u64 ((rfN B a m : Nat) : Int)))), .one (.d (.val (.bool (decide (a + m ≤ B.length)))))], [.live (.box 99 [.d (dsl false false kU8 B), .d (.val (.int .i64 ((a : Nat) : Int))), .d (.val (.int .i64 e))])]⟩ := by
  refine Holds.of Try.func77 rfl (N := 42) Try.ntmps77 rfl fun w0 B0 S0 U0 => ?_
  show T _ (mkBase 42 1 w0 S0 U0 B0) ⟨[pv 0 0, dv (.int .i64 ((m : Nat) : Int))], [.live (.box 99 [.d (dsl false false kU8 B), .d (.val (.int .i64 ((a : Nat) : Int))), .d (.val (.int .i64 e))])]⟩ _ _
  refine T.seq ?_
  refine xR [] (by kernel_rfl) (by kernel_rfl) ?_
  refine nT ?_
  refine T.seq ?_
  refine T.seq ?_
  refine xD [[], [], [1], [1, 2], [1, 2, 3], [1, 2, 3, 4], [], [6], [6, 7], [6, 7, 8], [1, 2, 3, 4, 5, 6, 7, 8, 9], [0, 1, 2, 3, 4, 5, 6, 7, 8, 9, 10]] [hR 10 rfl rfl (r_bin (u1 := .int .i64 ((B.length : Nat) : Int)) (u2 := .int .i64 ((a : Nat) : Int)) (v := .int .i64 (((B.length : Nat) : Int) - ((a : Nat) : Int))) (b_sub (by rw [IntKind.wrap_i64]; omega)) (lt_of rfl) trivial)] (by kernel_rfl) (by kernel_rfl) (by kernel_rfl) (by kernel_rfl) (by kernel_rfl) (by kernel_rfl) ?_
  refine nT ?_
  by_cases hq1 : ((m : Nat) : Int) > (((B.length : Nat) : Int) - ((a : Nat) : Int))
  · refine T.condT (by kernel_rfl) (decide_eq_true hq1) ?_
    refine T.seq ?_
    refine xR [] (by kernel_rfl) (by kernel_rfl) ?_
    refine nT ?_
    refine T.ret ?_
    refine rT ?_
    exact tE (.inl rfl) [.t 4 (.one (.d (.val (.int .u64 0)))), .t 5 (.one (.d (.val (.bool false))))] ⟨⟨rfl, by kernel_rfl⟩, ⟨⟨rfl, by kernel_rfl⟩, trivial⟩⟩ [0] (by have e1 : (((rfN B a m : Nat) : Int) : Int) = 0 := (by first | rfl | omega | (simp only [rfN]; rw [if_neg (by omega)]; done) | (simp only [rfN]; rw [if_neg (by omega)]; rfl) | (have hke : k = m := (by omega); subst hke; rw [rfN_ok (by omega)]) | exact (decide_eq_true (by omega)).symm | exact decide_eq_true (by omega) | exact decide_eq_false (by omega) | exact (decide_eq_false (by omega)).symm); have e2 : ((decide (a + m ≤ B.length)) : Bool) = false := (by first | rfl | omega | (simp only [rfN]; rw [if_neg (by omega)]; done) | (simp only [rfN]; rw [if_neg (by omega)]; rfl) | (have hke : k = m := (by omega); subst hke; rw [rfN_ok (by omega)]) | exact (decide_eq_true (by omega)).symm | exact decide_eq_true (by omega) | exact decide_eq_false (by omega) | exact (decide_eq_false (by omega)).symm); have hE := congr (congrArg (fun (q1 : Int) (q2 : Bool) => (.tup [.one (.d (.val (.int .u64 q1))), .one (.d (.val (.bool q2)))] : AV)) e1) e2; exact hE) rfl rfl rfl rfl rfl ⟨⟨rfl, (by kernel_rfl)⟩, trivial⟩
  · refine T.condF (by kernel_rfl) (decide_eq_false hq1) ?_
    refine T.skip ?_
    refine nT ?_
    refine T.seq ?_
    refine xR [] (by kernel_rfl) (by kernel_rfl) ?_
    refine nT ?_
    refine T.seq ?_
    refine T.seq ?_
    refine xR [] (by kernel_rfl) (by kernel_rfl) ?_
    refine nT ?_
    refine T.block ?_
    refine T.loop (ι := Nat) (fun (k : Nat) => ⟨[pv 0 0, dv (.int .i64 ((m : Nat) : Int)), aa, aa, dv (.int .u64 0), dv (.bool false), dv (.int .u64 ((numL ((B.drop a).take k) : Nat) : Int)), dv (.int .i64 ((k : Nat) : Int)), aa, aa, aa, aa, aa, aa, aa, aa, aa, aa, aa, dv (.bool (decide (((m : Nat) : Int) > (((B.length : Nat) : Int) - ((a : Nat) : Int)))))], [.live (.box 99 [.d (dsl false false kU8 B), .d (.val (.int .i64 ((a : Nat) : Int))), .d (.val (.int .i64 e))])]⟩) (fun (k : Nat) => (k ≤ m)) (fun (k : Nat) => m - k) (0) (Nat.zero_le _) (fun _ _ hG => Gs.into2 (s' := ⟨[pv 0 0, dv (.int .i64 ((m : Nat) : Int)), aa, aa, dv (.int .u64 0), dv (.bool false), dv (.int .u64 ((numL ((B.drop a).take 0) : Nat) : Int)), dv (.int .i64 0), aa, aa, aa, aa, aa, aa, aa, aa, aa, aa, aa, dv (.bool (decide (((m : Nat) : Int) > (((B.length : Nat) : Int) - ((a : Nat) : Int)))))], [.live (.box 99 [.d (dsl false false kU8 B), .d (.val (.int .i64 ((a : Nat) : Int))), .d (.val (.int .i64 e))])]⟩) [0] (bm 20 524531) (t1 := [pv 0 0, dv (.int .i64 ((m : Nat) : Int)), aa, aa, dv (.int .u64 0), dv (.bool false), dv (.int .u64 ((numL ((B.drop a).take 0) : Nat) : Int)), dv (.int .i64 0), aa, aa, aa, aa, aa, aa, aa, aa, aa, aa, aa, dv (.bool (decide (((m : Nat) : Int) > (((B.length : Nat) : Int) - ((a : Nat) : Int)))))]) (t2 := [pv 0 0, dv (.int .i64 ((m : Nat) : Int)), aa, aa, dv (.int .u64 0), dv (.bool false), dv (.int .u64 0), dv (.int .i64 0), aa, aa, aa, aa, aa, aa, aa, aa, aa, aa, aa, dv (.bool (decide (((m : Nat) : Int) > (((B.length : Nat) : Int) - ((a : Nat) : Int)))))]) (h1 := [.live (.box 99 [.d (dsl false false kU8 B), .d (.val (.int .i64 ((a : Nat) : Int))), .d (.val (.int .i64 e))])]) (by have e1 : (((numL ((B.drop a).take 0) : Nat) : Int) : Int) = 0 := (by rfl); have hE := congrArg (fun (q1 : Int) => ([pv 0 0, dv (.int .i64 ((m : Nat) : Int)), aa, aa, dv (.int .u64 0), dv (.bool false), dv (.int .u64 q1), dv (.int .i64 0), aa, aa, aa, aa, aa, aa, aa, aa, aa, aa, aa, dv (.bool (decide (((m : Nat) : Int) > (((B.length : Nat) : Int) - ((a : Nat) : Int)))))] : List AV)) e1; exact hE) rfl (by kernel_rfl) (by kernel_rfl) (by kernel_rfl) (by kernel_rfl) (by kernel_rfl) (by kernel_rfl) (by kernel_rfl) (by kernel_rfl) (by kernel_rfl) (by kernel_rfl) (by kernel_rfl) hG) ?_
    rintro k hk
    show T _ _ ⟨[pv 0 0, dv (.int .i64 ((m : Nat) : Int)), aa, aa, dv (.int .u64 0), dv (.bool false), dv (.int .u64 ((numL ((B.drop a).take k) : Nat) : Int)), dv (.int .i64 ((k : Nat) : Int)), aa, aa, aa, aa, aa, aa, aa, aa, aa, aa, aa, dv (.bool (decide (((m : Nat) : Int) > (((B.length : Nat) : Int) - ((a : Nat) : Int)))))], [.live (.box 99 [.d (dsl false false kU8 B), .d (.val (.int .i64 ((a : Nat) : Int))), .d (.val (.int .i64 e))])]⟩ _ _
    replace hk : k ≤ m := hk
    have hk8 : numL ((B.drop a).take k) < 18446744073709551616 := numL_lt8 (Nat.le_trans (List.length_take_le _ _) (by omega))
    refine T.seq ?_
    refine T.seq ?_
    refine xR [] (by kernel_rfl) (by kernel_rfl) ?_
    refine nT ?_
    by_cases hq2 : ((k : Nat) : Int) < ((m : Nat) : Int)
    · have hk7 : numL ((B.drop a).take k) < 72057594037927936 := numL_lt7 (Nat.le_trans (List.length_take_le _ _) (by omega)); have hbt := UInt8.toNat_lt (B.getD (a + k) 0)
      refine T.condT (by kernel_rfl) (decide_eq_true hq2) ?_
      refine T.skip ?_
      refine nT ?_
      refine T.seq ?_
      refine T.block ?_
      refine xD [[], [0], [], [2], [2, 3], [2, 3, 4], [], [6], [6, 7], [6, 7, 8], [], [6, 7, 8, 9, 10], [2, 3, 4, 5, 6, 7, 8, 9, 10, 11], [2, 3, 4, 5, 6, 7, 8, 9, 10, 11, 12], [2, 3, 4, 5, 6, 7, 8, 9, 10, 11, 12, 13], [0, 1, 2, 3, 4, 5, 6, 7, 8, 9, 10, 11, 12, 13, 14], [0, 1, 2, 3, 4, 5, 6, 7, 8, 9, 10, 11, 12, 13, 14, 15]] [hR 1 rfl rfl (r_bin (u1 := .int .u64 ((numL ((B.drop a).take k) : Nat) : Int)) (u2 := .int .u64 8) (v := .int .u64 (((numL ((B.drop a).take k)) * 2 ^ 8 : Nat) : Int)) (b_shlN (n := 8) rfl (Nat.le_trans (by first | assumption | omega | (unfold maxLen; omega) | (simp [maxLen, -List.getD_eq_getElem?_getD] <;> omega) | decide) (by decide : 64 ≤ _)) (by first | rfl | (rw [IntKind.wrap_u64]; omega))) (lt_of rfl) ⟨rfl, trivial⟩),
        hR 11 rfl rfl (r_bin (u1 := .int .i64 ((a : Nat) : Int)) (u2 := .int .i64 ((k : Nat) : Int)) (v := .int .i64 ((a + k : Nat) : Int)) (b_add (by rw [IntKind.wrap_i64]; omega)) (lt_of rfl) trivial),
        hR 12 rfl rfl (q_index false false kU8 B (a + k) (k := .i64) (i := ((a + k : Nat) : Int)) Try.underlying58 iat_5 rfl rfl (by first | assumption | omega | (unfold maxLen; omega) | (simp [maxLen, -List.getD_eq_getElem?_getD] <;> omega) | decide) (lt_of rfl) trivial),
        hR 14 rfl rfl (r_conv (u := .int .u8 (((B.getD (a + k) 0).toNat : Nat) : Int)) (v := .int .u64 (((B.getD (a + k) 0).toNat : Nat) : Int)) (c_int Try.underlying5 Try.underlying113 (by first | rfl | (rw [IntKind.wrap_u64]; omega))) (lt_of rfl) trivial),
        hR 15 rfl rfl (r_bin (u1 := .int .u64 (((numL ((B.drop a).take k)) * 2 ^ 8 : Nat) : Int)) (u2 := .int .u64 (((B.getD (a + k) 0).toNat : Nat) : Int)) (v := .int .u64 ((((numL ((B.drop a).take k)) * 2 ^ 8) ||| (B.getD (a + k) 0).toNat : Nat) : Int)) (b_orU (by first | assumption | omega | (unfold maxLen; omega) | (simp [maxLen, -List.getD_eq_getElem?_getD] <;> omega) | decide) (by first | assumption | omega | (unfold maxLen; omega) | (simp [maxLen, -List.getD_eq_getElem?_getD] <;> omega) | decide)) (lt_of rfl) trivial)] (by kernel_rfl) (by kernel_rfl) (by kernel_rfl) (by kernel_rfl) (by kernel_rfl) (by kernel_rfl) ?_
      refine nB ?_
      refine nT ?_
      refine xR [hR 1 rfl rfl (r_bin (u1 := .int .i64 ((k : Nat) : Int)) (u2 := .int .i64 1) (v := .int .i64 ((k + 1 : Nat) : Int)) (b_add (by rw [IntKind.wrap_i64]; omega)) (lt_of rfl) ⟨rfl, trivial⟩)] (by kernel_rfl) (by kernel_rfl) ?_
      refine nL (k + 1) (show (k + 1) ≤ m from (by omega)) (show (m - (k + 1) : Nat) < m - k from (by omega)) (fun _ _ hG => Gs.into2 (s' := ⟨[pv 0 0, dv (.int .i64 ((m : Nat) : Int)), aa, aa, dv (.int .u64 0), dv (.bool false), dv (.int .u64 ((numL ((B.drop a).take (k + 1)) : Nat) : Int)), dv (.int .i64 ((k + 1 : Nat) : Int)), aa, aa, aa, aa, aa, aa, aa, aa, aa, aa, aa, dv (.bool (decide (((m : Nat) : Int) > (((B.length : Nat) : Int) - ((a : Nat) : Int)))))], [.live (.box 99 [.d (dsl false false kU8 B), .d (.val (.int .i64 ((a : Nat) : Int))), .d (.val (.int .i64 e))])]⟩) [0] (bm 20 524531) (t1 := [pv 0 0, dv (.int .i64 ((m : Nat) : Int)), aa, aa, dv (.int .u64 0), dv (.bool false), dv (.int .u64 ((numL ((B.drop a).take (k + 1)) : Nat) : Int)), dv (.int .i64 ((k + 1 : Nat) : Int)), aa, aa, aa, aa, aa, aa, aa, aa, aa, aa, aa, dv (.bool (decide (((m : Nat) : Int) > (((B.length : Nat) : Int) - ((a : Nat) : Int)))))]) (t2 := [pv 0 0, dv (.int .i64 ((m : Nat) : Int)), aa, aa, dv (.int .u64 0), dv (.bool false), dv (.int .u64 ((((numL ((B.drop a).take k)) * 2 ^ 8) ||| (B.getD (a + k) 0).toNat : Nat) : Int)), dv (.int .i64 ((k + 1 : Nat) : Int)), aa, aa, aa, aa, aa, aa, aa, aa, aa, aa, aa, dv (.bool (decide (((m : Nat) : Int) > (((B.length : Nat) : Int) - ((a : Nat) : Int)))))]) (h1 := [.live (.box 99 [.d (dsl false false kU8 B), .d (.val (.int .i64 ((a : Nat) : Int))), .d (.val (.int .i64 e))])]) (by have e1 : (((numL ((B.drop a).take (k + 1)) : Nat) : Int) : Int) = ((((numL ((B.drop a).take k)) * 2 ^ 8) ||| (B.getD (a + k) 0).toNat : Nat) : Int) := (by first | rfl | (rw [numL_dropk (by omega)])); have hE := congrArg (fun (q1 : Int) => ([pv 0 0, dv (.int .i64 ((m : Nat) : Int)), aa, aa, dv (.int .u64 0), dv (.bool false), dv (.int .u64 q1), dv (.int .i64 ((k + 1 : Nat) : Int)), aa, aa, aa, aa, aa, aa, aa, aa, aa, aa, aa, dv (.bool (decide (((m : Nat) : Int) > (((B.length : Nat) : Int) - ((a : Nat) : Int)))))] : List AV)) e1; exact hE) rfl (by kernel_rfl) (by kernel_rfl) (by kernel_rfl) (by kernel_rfl) (by kernel_rfl) (by kernel_rfl) (by kernel_rfl) (by kernel_rfl) (by kernel_rfl) (by kernel_rfl) (by kernel_rfl) hG)
    · refine T.condF (by kernel_rfl) (decide_eq_false hq2) ?_
      refine T.exit ?_
      refine xT ?_
      refine xT ?_
      refine xH ?_
      refine nT ?_
      refine T.seq ?_
      refine xR [] (by kernel_rfl) (by kernel_rfl) ?_
      refine nT ?_
      refine T.ret ?_
      exact tE (.inl rfl) [.t 4 (.one (.d (.val (.int .u64 ((numL ((B.drop a).take k) : Nat) : Int))))), .t 5 (.one (.d (.val (.bool true))))] ⟨⟨rfl, by kernel_rfl⟩, ⟨⟨rfl, by kernel_rfl⟩, trivial⟩⟩ [0] (by have e1 : (((rfN B a m : Nat) : Int) : Int) = ((numL ((B.drop a).take k) : Nat) : Int) := (by first | rfl | omega | (simp only [rfN]; rw [if_neg (by omega)]; done) | (simp only [rfN]; rw [if_neg (by omega)]; rfl) | (have hke : k = m := (by omega); subst hke; rw [rfN_ok (by omega)]) | exact (decide_eq_true (by omega)).symm | exact decide_eq_true (by omega) | exact decide_eq_false (by omega) | exact (decide_eq_false (by omega)).symm); have e2 : ((decide (a + m ≤ B.length)) : Bool) = true := (by first | rfl | omega | (simp only [rfN]; rw [if_neg (by omega)]; done) | (simp only [rfN]; rw [if_neg (by omega)]; rfl) | (have hke : k = m := (by omega); subst hke; rw [rfN_ok (by omega)]) | exact (decide_eq_true (by omega)).symm | exact decide_eq_true (by omega) | exact decide_eq_false (by omega) | exact (decide_eq_false (by omega)).symm); have hE := congr (congrArg (fun (q1 : Int) (q2 : Bool) => (.tup [.one (.d (.val (.int .u64 q1))), .one (.d (.val (.bool q2)))] : AV)) e1) e2; exact hE) rfl rfl rfl rfl rfl ⟨⟨rfl, (by kernel_rfl)⟩, trivial⟩
end Go.Proofs.Ytdclfhahcfefeaa.Q
namespace Go.Proofs.Ytdclfhahcfefeaa.Q
open Go Go.RowKit
set_option linter.unusedVariables false
set_option linter.unusedSimpArgs false
set_option maxRecDepth 100000
set_option maxHeartbeats 4000000
theorem fld_99_2 : FieldAt Try.prog 99 2 2 := ⟨_, _, _, Try.underlying99, rfl, iat_43, by decide, rfl⟩
-- (*quaestor/quaestorref01.Reader).Int
theorem ref01_rInt (B : List UInt8) (a : Nat) (e : Int) (ha : a ≤ B.length) (hB : B.length ≤ 140737488350000) : Holds Try.prog 53 ⟨[pv 0 0], [.box 99 [.d (dsl false false kU8 B), .d (.val (.int .i64 ((a : Nat) : Int))), .d (.val (.int .i64 e))]], dv (.int .i64 (rdI (B.drop a) e)), [.live (.box 99 [.d (dsl false false kU8 B), .d (.val (.int .i64 ((rfA B a e 8 0 : Nat) : Int))), .d (.val (.int .i64 (rdE (B.drop a) e 8 0)))])]⟩ := by
  refine Holds.of Try.func53 rfl (N := 29) Try.ntmps53 rfl fun w0 B0 S0 U0 => ?_
  show T _ (mkBase 29 1 w0 S0 U0 B0) ⟨[pv 0 0], [.live (.box 99 [.d (dsl false false kU8 B), .d (.val (.int .i64 ((a : Nat) : Int))), .d (.val (.int .i64 e))])]⟩ _ _
  have hn8 := rfN_lt B a (m := 8) (by decide)
  refine T.seq ?_
  refine xR [] (by kernel_rfl) (by kernel_rfl) ?_
  refine nT ?_
  refine T.seq ?_
  refine T.seq ?_
  refine xR [] (by kernel_rfl) (by kernel_rfl) ?_
  refine nT ?_
  by_cases hq1 : e ≠ 0
  · have hr := rf_e (B := B) (a := a) hq1 8 0
    refine T.condT (by kernel_rfl) (decide_eq_true hq1) ?_
    refine T.seq ?_
    refine xR [] (by kernel_rfl) (by kernel_rfl) ?_
    refine nT ?_
    refine T.ret ?_
    refine rT ?_
    exact tE (.inl rfl) [.t 2 (.one (.d (.val (.int .i64 0))))] ⟨⟨rfl, by kernel_rfl⟩, trivial⟩ [0] (by have e1 : (rdI (B.drop a) e : Int) = 0 := (by first | rfl | exact hr.2 | exact hr.2.symm | (rw [hr.2]; first | done | rfl | omega) | (rw [rfA_ok hr.1]; first | done | rfl) | (rw [rfA_no hr.1]) | (simp only [rdI]; first | (rw [if_pos hr.1, ← rfN_ok (by assumption)]; done) | (rw [if_pos hr.1]; done) | (rw [if_neg hr.1]; first | done | rfl))); have hE := congrArg (fun (q1 : Int) => (dv (.int .i64 q1) : AV)) e1; exact hE) rfl rfl rfl rfl rfl ⟨⟨rfl, (by have e1 : (((a : Nat) : Int) : Int) = ((rfA B a e 8 0 : Nat) : Int) := (by first | rfl | exact hr.2 | exact hr.2.symm | (rw [hr.2]; first | done | rfl | omega) | (rw [rfA_ok hr.1]; first | done | rfl) | (rw [rfA_no hr.1]) | (simp only [rdI]; first | (rw [if_pos hr.1, ← rfN_ok (by assumption)]; done) | (rw [if_pos hr.1]; done) | (rw [if_neg hr.1]; first | done | rfl))); have e2 : (e : Int) = (rdE (B.drop a) e 8 0) := (by first | rfl | exact hr.2 | exact hr.2.symm | (rw [hr.2]; first | done | rfl | omega) | (rw [rfA_ok hr.1]; first | done | rfl) | (rw [rfA_no hr.1]) | (simp only [rdI]; first | (rw [if_pos hr.1, ← rfN_ok (by assumption)]; done) | (rw [if_pos hr.1]; done) | (rw [if_neg hr.1]; first | done | rfl))); have hE := congr (congrArg (fun (q1 : Int) (q2 : Int) => (.live (.box 99 [.d (dsl false false kU8 B), .d (.val (.int .i64 q1)), .d (.val (.int .i64 q2))]) : HS)) e1) e2; exact Eq.trans (by kernel_rfl) hE)⟩, trivial⟩
  · refine T.condF (by kernel_rfl) (decide_eq_false hq1) ?_
    refine T.skip ?_
    refine nT ?_
    refine T.seq ?_
    refine xR [hR 1 rfl rfl (r_call (ref01_number B a e 8 (by first | assumption | omega | (unfold maxLen; omega) | (simp [maxLen, -List.getD_eq_getElem?_getD] <;> omega) | decide) (by first | assumption | omega | (unfold maxLen; omega) | (simp [maxLen, -List.getD_eq_getElem?_getD] <;> omega) | decide) (by first | assumption | omega | (unfold maxLen; omega) | (simp [maxLen, -List.getD_eq_getElem?_getD] <;> omega) | decide)) Try.func77 rfl (by decide) [0] [] (l := [(.tmp 11, pv 0 0), (.const (.int .i64 8), dv (.int .i64 8))]) [] rfl 1 1 rfl rfl rfl rfl rfl rfl rfl rfl rfl ⟨.inl ⟨rfl, rfl⟩, ⟨.inl ⟨rfl, rfl⟩, trivial⟩⟩ rfl (fun b hb => by cases hb) (.inl rfl) (lt_of rfl) ⟨rfl, trivial⟩)] (by kernel_rfl) (by kernel_rfl) ?_
    refine nT ?_
    refine T.seq ?_
    refine T.seq ?_
    refine xR [] (by kernel_rfl) (by kernel_rfl) ?_
    refine nT ?_
    by_cases hq2 : a + 8 ≤ B.length
    · have hr := rf_ok (n := 8) (k := 8) (m := 0) rfl (by assumption) hq2 rfl
      refine T.condF (by kernel_rfl) (congrArg Bool.not (decide_eq_true hq2)) ?_
      refine T.skip ?_
      refine nT ?_
      refine T.seq ?_
      refine xR [hR 4 rfl rfl (r_bin (u1 := .int .i64 ((a : Nat) : Int)) (u2 := .int .i64 8) (v := .int .i64 ((a + 8 : Nat) : Int)) (b_add (by rw [IntKind.wrap_i64]; omega)) (lt_of rfl) ⟨rfl, trivial⟩)] (by kernel_rfl) (by kernel_rfl) ?_
      refine nT ?_
      refine T.seq ?_
      refine xR [hR 1 rfl rfl (r_conv (u := .int .u64 ((rfN B a 8 : Nat) : Int)) (v := .int .i64 (toI64 (rfN B a 8))) (c_i64 (by first | assumption | omega | (unfold maxLen; omega) | (simp [maxLen, -List.getD_eq_getElem?_getD] <;> omega) | decide) Try.underlying113 Try.underlying2) (lt_of rfl) trivial)] (by kernel_rfl) (by kernel_rfl) ?_
      refine nT ?_
      refine T.ret ?_
      exact tE (.inl rfl) [.t 2 (.one (.d (.val (.int .i64 (toI64 (rfN B a 8))))))] ⟨⟨rfl, by kernel_rfl⟩, trivial⟩ [0] (by have e1 : (rdI (B.drop a) e : Int) = toI64 (rfN B a 8) := (by first | rfl | exact hr.2 | exact hr.2.symm | (rw [hr.2]; first | done | rfl | omega) | (rw [rfA_ok hr.1]; first | done | rfl) | (rw [rfA_no hr.1]) | (simp only [rdI]; first | (rw [if_pos hr.1, ← rfN_ok (by assumption)]; done) | (rw [if_pos hr.1]; done) | (rw [if_neg hr.1]; first | done | rfl))); have hE := congrArg (fun (q1 : Int) => (dv (.int .i64 q1) : AV)) e1; exact hE) rfl rfl rfl rfl rfl ⟨⟨rfl, (by have e1 : (((a + 8 : Nat) : Int) : Int) = ((rfA B a e 8 0 : Nat) : Int) := (by first | rfl | exact hr.2 | exact hr.2.symm | (rw [hr.2]; first | done | rfl | omega) | (rw [rfA_ok hr.1]; first | done | rfl) | (rw [rfA_no hr.1]) | (simp only [rdI]; first | (rw [if_pos hr.1, ← rfN_ok (by assumption)]; done) | (rw [if_pos hr.1]; done) | (rw [if_neg hr.1]; first | done | rfl))); have e2 : (e : Int) = (rdE (B.drop a) e 8 0) := (by first | rfl | exact hr.2 | exact hr.2.symm | (rw [hr.2]; first | done | rfl | omega) | (rw [rfA_ok hr.1]; first | done | rfl) | (rw [rfA_no hr.1]) | (simp only [rdI]; first | (rw [if_pos hr.1, ← rfN_ok (by assumption)]; done) | (rw [if_pos hr.1]; done) | (rw [if_neg hr.1]; first | done | rfl))); have hE := congr (congrArg (fun (q1 : Int) (q2 : Int) => (.live (.box 99 [.d (dsl false false kU8 B), .d (.val (.int .i64 q1)), .d (.val (.int .i64 q2))]) : HS)) e1) e2; exact Eq.trans (by kernel_rfl) hE)⟩, trivial⟩
    · have hr := rf_short (n := 8) (k := 8) rfl (by assumption) hq2 ha 0
      refine T.condT (by kernel_rfl) (congrArg Bool.not (decide_eq_false hq2)) ?_
      refine T.seq ?_
      refine xR [] (by kernel_rfl) (by kernel_rfl) ?_
      refine nT ?_
      refine T.seq ?_
      refine xR [] (by kernel_rfl) (by kernel_rfl) ?_
      refine nT ?_
      refine T.ret ?_
      refine rT ?_
      exact tE (.inl rfl) [.t 2 (.one (.d (.val (.int .i64 0))))] ⟨⟨rfl, by kernel_rfl⟩, trivial⟩ [0] (by have e1 : (rdI (B.drop a) e : Int) = 0 := (by first | rfl | exact hr.2 | exact hr.2.symm | (rw [hr.2]; first | done | rfl | omega) | (rw [rfA_ok hr.1]; first | done | rfl) | (rw [rfA_no hr.1]) | (simp only [rdI]; first | (rw [if_pos hr.1, ← rfN_ok (by assumption)]; done) | (rw [if_pos hr.1]; done) | (rw [if_neg hr.1]; first | done | rfl))); have hE := congrArg (fun (q1 : Int) => (dv (.int .i64 q1) : AV)) e1; exact hE) rfl rfl rfl rfl rfl ⟨⟨rfl, (by have e1 : (((a : Nat) : Int) : Int) = ((rfA B a e 8 0 : Nat) : Int) := (by first | rfl | exact hr.2 | exact hr.2.symm | (rw [hr.2]; first | done | rfl | omega) | (rw [rfA_ok hr.1]; first | done | rfl) | (rw [rfA_no hr.1]) | (simp only [rdI]; first | (rw [if_pos hr.1, ← rfN_ok (by assumption)]; done) | (rw [if_pos hr.1]; done) | (rw [if_neg hr.1]; first | done | rfl))); have e2 : (10 : Int) = (rdE (B.drop a) e 8 0) := (by first | rfl | exact hr.2 | exact hr.2.symm | (rw [hr.2]; first | done | rfl | omega) | (rw [rfA_ok hr.1]; first | done | rfl) | (rw [rfA_no hr.1]) | (simp only [rdI]; first | (rw [if_pos hr.1, ← rfN_ok (by assumption)]; done) | (rw [if_pos hr.1]; done) | (rw [if_neg hr.1]; first | done | rfl))); have hE := congr (congrArg (fun (q1 : Int) (q2 : Int) => (.live (.box 99 [.d (dsl false false kU8 B), .d (.val (.int .i64 q1)), .d (.val (.int .i64 q2))]) : HS)) e1) e2; exact Eq.trans (by kernel_rfl) hE)⟩, trivial⟩
end Go.Proofs.Ytdclfhahcfefeaa.Q
namespace Go.Proofs.Ytdclfhahcfefeaa.Q
open Go Go.RowKit
set_option linter.unusedVariables false
set_option linter.unusedSimpArgs false
set_option maxRecDepth 100000
set_option maxHeartbeats 4000000
-- (*quaestor/quaestorref01.Reader).Count
theorem ref01_rCount (B : List UInt8) (a : Nat) (e : Int) (most : Int) (ha : a ≤ B.length) (hB : B.length ≤ 140737488350000) : Holds Try.prog 78 ⟨[pv 0 0, dv (.int .i64 most)], [.box 99 [.d (dsl false false kU8 B), .d (.val (.int .i64 ((a : Nat) : Int))), .d (.val (.int .i64 e))]], dv (.int .i64 ((rdC (B.drop a) e most : Nat) : Int)), [.live (.box 99 [.d (dsl false false kU8 B), .d (.val (.int .i64 ((rfA B a e 4 (limE most ((B.drop a).take 4)) : Nat) : Int))), .d (.val (.int .i64 (rdE (B.drop a) e 4 (limE most ((B.drop a).take 4)))))])]⟩ := by
  refine Holds.of Try.func78 rfl (N := 39) Try.ntmps78 rfl fun w0 B0 S0 U0 => ?_
  show T _ (mkBase 39 1 w0 S0 U0 B0) ⟨[pv 0 0, dv (.int .i64 most)], [.live (.box 99 [.d (dsl false false kU8 B), .d (.val (.int .i64 ((a : Nat) : Int))), .d (.val (.int .i64 e))])]⟩ _ _
  have hn4 := rfN_lt4 B a
  refine T.seq ?_
  refine xR [] (by kernel_rfl) (by kernel_rfl) ?_
  refine nT ?_
  refine T.seq ?_
  refine T.seq ?_
  refine xR [] (by kernel_rfl) (by kernel_rfl) ?_
  refine nT ?_
  by_cases hq1 : e ≠ 0
  · have hr := rf_e (B := B) (a := a) hq1 4 (limE most ((B.drop a).take 4))
    refine T.condT (by kernel_rfl) (decide_eq_true hq1) ?_
    refine T.seq ?_
    refine xR [] (by kernel_rfl) (by kernel_rfl) ?_
    refine nT ?_
    refine T.ret ?_
    refine rT ?_
    exact tE (.inl rfl) [.t 4 (.one (.d (.val (.int .i64 0))))] ⟨⟨rfl, by kernel_rfl⟩, trivial⟩ [0] (by have e1 : (((rdC (B.drop a) e most : Nat) : Int) : Int) = 0 := (by first | rfl | exact hr.2 | exact hr.2.symm | (rw [hr.2]; first | done | rfl | omega) | (rw [rfA_ok hr.1]; first | done | rfl) | (rw [rfA_no hr.1]) | (simp only [rdC]; first | (rw [if_pos hr.1, ← rfN_ok (by assumption)]; done) | (rw [if_pos hr.1]; done) | (rw [if_neg hr.1]; first | done | rfl))); have hE := congrArg (fun (q1 : Int) => (dv (.int .i64 q1) : AV)) e1; exact hE) rfl rfl rfl rfl rfl ⟨⟨rfl, (by have e1 : (((a : Nat) : Int) : Int) = ((rfA B a e 4 (limE most ((B.drop a).take 4)) : Nat) : Int) := (by first | rfl | exact hr.2 | exact hr.2.symm | (rw [hr.2]; first | done | rfl | omega) | (rw [rfA_ok hr.1]; first | done | rfl) | (rw [rfA_no hr.1]) | (simp only [rdC]; first | (rw [if_pos hr.1, ← rfN_ok (by assumption)]; done) | (rw [if_pos hr.1]; done) | (rw [if_neg hr.1]; first | done | rfl))); have e2 : (e : Int) = (rdE (B.drop a) e 4 (limE most ((B.drop a).take 4))) := (by first | rfl | exact hr.2 | exact hr.2.symm | (rw [hr.2]; first | done | rfl | omega) | (rw [rfA_ok hr.1]; first | done | rfl) | (rw [rfA_no hr.1]) | (simp only [rdC]; first | (rw [if_pos hr.1, ← rfN_ok (by assumption)]; done) | (rw [if_pos hr.1]; done) | (rw [if_neg hr.1]; first | done | rfl))); have hE := congr (congrArg (fun (q1 : Int) (q2 : Int) => (.live (.box 99 [.d (dsl false false kU8 B), .d (.val (.int .i64 q1)), .d (.val (.int .i64 q2))]) : HS)) e1) e2; exact Eq.trans (by kernel_rfl) hE)⟩, trivial⟩
  · refine T.condF (by kernel_rfl) (decide_eq_false hq1) ?_
    refine T.skip ?_
    refine nT ?_
    refine T.seq ?_
    refine xR [hR 1 rfl rfl (r_call (ref01_number B a e 4 (by first | assumption | omega | (unfold maxLen; omega) | (simp [maxLen, -List.getD_eq_getElem?_getD] <;> omega) | decide) (by first | assumption | omega | (unfold maxLen; omega) | (simp [maxLen, -List.getD_eq_getElem?_getD] <;> omega) | decide) (by first | assumption | omega | (unfold maxLen; omega) | (simp [maxLen, -List.getD_eq_getElem?_getD] <;> omega) | decide)) Try.func77 rfl (by decide) [0] [] (l := [(.tmp 13, pv 0 0), (.const (.int .i64 4), dv (.int .i64 4))]) [] rfl 1 1 rfl rfl rfl rfl rfl rfl rfl rfl rfl ⟨.inl ⟨rfl, rfl⟩, ⟨.inl ⟨rfl, rfl⟩, trivial⟩⟩ rfl (fun b hb => by cases hb) (.inl rfl) (lt_of rfl) ⟨rfl, trivial⟩)] (by kernel_rfl) (by kernel_rfl) ?_
    refine nT ?_
    refine T.seq ?_
    refine T.seq ?_
    refine xR [] (by kernel_rfl) (by kernel_rfl) ?_
    refine nT ?_
    by_cases hq2 : a + 4 ≤ B.length
    · refine T.condF (by kernel_rfl) (congrArg Bool.not (decide_eq_true hq2)) ?_
      refine T.skip ?_
      refine nT ?_
      refine T.seq ?_
      refine T.seq ?_
      refine xR [hR 1 rfl rfl (r_conv (u := .int .u64 ((rfN B a 4 : Nat) : Int)) (v := .int .i64 ((rfN B a 4 : Nat) : Int)) (c_int Try.underlying113 Try.underlying3 (by rw [IntKind.wrap_i64]; omega)) (lt_of rfl) trivial),
        hR 3 rfl rfl (r_max (k := .i64) (a := 0) (b := most) (lt_of rfl) ⟨rfl, trivial⟩)] (by kernel_rfl) (by kernel_rfl) ?_
      refine nT ?_
      by_cases hq3 : ((rfN B a 4 : Nat) : Int) > (max 0 most)
      · have hr := rf_m (n := 4) (k := 4) (c := 11) (m := (limE most ((B.drop a).take 4))) rfl (by assumption) (by assumption) (by rw [lim_of (by assumption), if_pos (by assumption)]) (by decide)
        refine T.condT (by kernel_rfl) (decide_eq_true hq3) ?_
        refine T.seq ?_
        refine xR [] (by kernel_rfl) (by kernel_rfl) ?_
        refine nT ?_
        refine T.seq ?_
        refine xR [] (by kernel_rfl) (by kernel_rfl) ?_
        refine nT ?_
        refine T.ret ?_
        refine rT ?_
        exact tE (.inl rfl) [.t 4 (.one (.d (.val (.int .i64 0))))] ⟨⟨rfl, by kernel_rfl⟩, trivial⟩ [0] (by have e1 : (((rdC (B.drop a) e most : Nat) : Int) : Int) = 0 := (by first | rfl | exact hr.2 | exact hr.2.symm | (rw [hr.2]; first | done | rfl | omega) | (rw [rfA_ok hr.1]; first | done | rfl) | (rw [rfA_no hr.1]) | (simp only [rdC]; first | (rw [if_pos hr.1, ← rfN_ok (by assumption)]; done) | (rw [if_pos hr.1]; done) | (rw [if_neg hr.1]; first | done | rfl))); have hE := congrArg (fun (q1 : Int) => (dv (.int .i64 q1) : AV)) e1; exact hE) rfl rfl rfl rfl rfl ⟨⟨rfl, (by have e1 : (((a : Nat) : Int) : Int) = ((rfA B a e 4 (limE most ((B.drop a).take 4)) : Nat) : Int) := (by first | rfl | exact hr.2 | exact hr.2.symm | (rw [hr.2]; first | done | rfl | omega) | (rw [rfA_ok hr.1]; first | done | rfl) | (rw [rfA_no hr.1]) | (simp only [rdC]; first | (rw [if_pos hr.1, ← rfN_ok (by assumption)]; done) | (rw [if_pos hr.1]; done) | (rw [if_neg hr.1]; first | done | rfl))); have e2 : (11 : Int) = (rdE (B.drop a) e 4 (limE most ((B.drop a).take 4))) := (by first | rfl | exact hr.2 | exact hr.2.symm | (rw [hr.2]; first | done | rfl | omega) | (rw [rfA_ok hr.1]; first | done | rfl) | (rw [rfA_no hr.1]) | (simp only [rdC]; first | (rw [if_pos hr.1, ← rfN_ok (by assumption)]; done) | (rw [if_pos hr.1]; done) | (rw [if_neg hr.1]; first | done | rfl))); have hE := congr (congrArg (fun (q1 : Int) (q2 : Int) => (.live (.box 99 [.d (dsl false false kU8 B), .d (.val (.int .i64 q1)), .d (.val (.int .i64 q2))]) : HS)) e1) e2; exact Eq.trans (by kernel_rfl) hE)⟩, trivial⟩
      · have hr := rf_ok (n := 4) (k := 4) (m := (limE most ((B.drop a).take 4))) rfl (by assumption) (by assumption) (by rw [lim_of (by assumption), if_neg (by assumption)])
        refine T.condF (by kernel_rfl) (decide_eq_false hq3) ?_
        refine T.skip ?_
        refine nT ?_
        refine T.seq ?_
        refine xR [hR 4 rfl rfl (r_bin (u1 := .int .i64 ((a : Nat) : Int)) (u2 := .int .i64 4) (v := .int .i64 ((a + 4 : Nat) : Int)) (b_add (by rw [IntKind.wrap_i64]; omega)) (lt_of rfl) ⟨rfl, trivial⟩)] (by kernel_rfl) (by kernel_rfl) ?_
        refine nT ?_
        refine T.seq ?_
        refine xR [hR 1 rfl rfl (r_conv (u := .int .u64 ((rfN B a 4 : Nat) : Int)) (v := .int .i64 ((rfN B a 4 : Nat) : Int)) (c_int Try.underlying113 Try.underlying3 (by rw [IntKind.wrap_i64]; omega)) (lt_of rfl) trivial)] (by kernel_rfl) (by kernel_rfl) ?_
        refine nT ?_
        refine T.ret ?_
        exact tE (.inl rfl) [.t 4 (.one (.d (.val (.int .i64 ((rfN B a 4 : Nat) : Int)))))] ⟨⟨rfl, by kernel_rfl⟩, trivial⟩ [0] (by have e1 : (((rdC (B.drop a) e most : Nat) : Int) : Int) = ((rfN B a 4 : Nat) : Int) := (by first | rfl | exact hr.2 | exact hr.2.symm | (rw [hr.2]; first | done | rfl | omega) | (rw [rfA_ok hr.1]; first | done | rfl) | (rw [rfA_no hr.1]) | (simp only [rdC]; first | (rw [if_pos hr.1, ← rfN_ok (by assumption)]; done) | (rw [if_pos hr.1]; done) | (rw [if_neg hr.1]; first | done | rfl))); have hE := congrArg (fun (q1 : Int) => (dv (.int .i64 q1) : AV)) e1; exact hE) rfl rfl rfl rfl rfl ⟨⟨rfl, (by have e1 : (((a + 4 : Nat) : Int) : Int) = ((rfA B a e 4 (limE most ((B.drop a).take 4)) : Nat) : Int) := (by first | rfl | exact hr.2 | exact hr.2.symm | (rw [hr.2]; first | done | rfl | omega) | (rw [rfA_ok hr.1]; first | done | rfl) | (rw [rfA_no hr.1]) | (simp only [rdC]; first | (rw [if_pos hr.1, ← rfN_ok (by assumption)]; done) | (rw [if_pos hr.1]; done) | (rw [if_neg hr.1]; first | done | rfl))); have e2 : (e : Int) = (rdE (B.drop a) e 4 (limE most ((B.drop a).take 4))) := (by first | rfl | exact hr.2 | exact hr.2.symm | (rw [hr.2]; first | done | rfl | omega) | (rw [rfA_ok hr.1]; first | done | rfl) | (rw [rfA_no hr.1]) | (simp only [rdC]; first | (rw [if_pos hr.1, ← rfN_ok (by assumption)]; done) | (rw [if_pos hr.1]; done) | (rw [if_neg hr.1]; first | done | rfl))); have hE := congr (congrArg (fun (q1 : Int) (q2 : Int) => (.live (.box 99 [.d (dsl false false kU8 B), .d (.val (.int .i64 q1)), .d (.val (.int .i64 q2))]) : HS)) e1) e2; exact Eq.trans (by kernel_rfl) hE)⟩, trivial⟩
    · have hr := rf_short (n := 4) (k := 4) rfl (by assumption) hq2 ha (limE most ((B.drop a).take 4))
      refine T.condT (by kernel_rfl) (congrArg Bool.not (decide_eq_false hq2)) ?_
      refine T.seq ?_
      refine xR [] (by kernel_rfl) (by kernel_rfl) ?_
      refine nT ?_
      refine T.seq ?_
      refine xR [] (by kernel_rfl) (by kernel_rfl) ?_
      refine nT ?_
      refine T.ret ?_
      refine rT ?_
      exact tE (.inl rfl) [.t 4 (.one (.d (.val (.int .i64 0))))] ⟨⟨rfl, by kernel_rfl⟩, trivial⟩ [0] (by have e1 : (((rdC (B.drop a) e most : Nat) : Int) : Int) = 0 := (by first | rfl | exact hr.2 | exact hr.2.symm | (rw [hr.2]; first | done | rfl | omega) | (rw [rfA_ok hr.1]; first | done | rfl) | (rw [rfA_no hr.1]) | (simp only [rdC]; first | (rw [if_pos hr.1, ← rfN_ok (by assumption)]; done) | (rw [if_pos hr.1]; done) | (rw [if_neg hr.1]; first | done | rfl))); have hE := congrArg (fun (q1 : Int) => (dv (.int .i64 q1) : AV)) e1; exact hE) rfl rfl rfl rfl rfl ⟨⟨rfl, (by have e1 : (((a : Nat) : Int) : Int) = ((rfA B a e 4 (limE most ((B.drop a).take 4)) : Nat) : Int) := (by first | rfl | exact hr.2 | exact hr.2.symm | (rw [hr.2]; first | done | rfl | omega) | (rw [rfA_ok hr.1]; first | done | rfl) | (rw [rfA_no hr.1]) | (simp only [rdC]; first | (rw [if_pos hr.1, ← rfN_ok (by assumption)]; done) | (rw [if_pos hr.1]; done) | (rw [if_neg hr.1]; first | done | rfl))); have e2 : (10 : Int) = (rdE (B.drop a) e 4 (limE most ((B.drop a).take 4))) := (by first | rfl | exact hr.2 | exact hr.2.symm | (rw [hr.2]; first | done | rfl | omega) | (rw [rfA_ok hr.1]; first | done | rfl) | (rw [rfA_no hr.1]) | (simp only [rdC]; first | (rw [if_pos hr.1, ← rfN_ok (by assumption)]; done) | (rw [if_pos hr.1]; done) | (rw [if_neg hr.1]; first | done | rfl))); have hE := congr (congrArg (fun (q1 : Int) (q2 : Int) => (.live (.box 99 [.d (dsl false false kU8 B), .d (.val (.int .i64 q1)), .d (.val (.int .i64 q2))]) : HS)) e1) e2; exact Eq.trans (by kernel_rfl) hE)⟩, trivial⟩
end Go.Proofs.Ytdclfhahcfefeaa.Q
namespace Go.Proofs.Ytdclfhahcfefeaa.Q
open Go Go.RowKit
set_option linter.unusedVariables false
set_option linter.unusedSimpArgs false
set_option maxRecDepth 100000
set_option maxHeartbeats 4000000
-- (*quaestor/quaestorref01.Reader).End
theorem ref01_rEnd (B : List UInt8) (a : Nat) (e : Int) (ha : a ≤ B.length) (hB : B.length ≤ 140737488350000) : Holds Try.prog 55 ⟨[pv 0 0], [.box 99 [.d (dsl false false kU8 B), .d (.val (.int .i64 ((a : Nat) : Int))), .d (.val (.int .i64 e))]], .tup [], [.live (.box 99 [.d (dsl false false kU8 B), .d (.val (.int .i64 ((a : Nat) : Int))), .d (.val (.int .i64 (rdX (B.drop a) e)))])]⟩ := by
  refine Holds.of Try.func55 rfl (N := 22) Try.ntmps55 rfl fun w0 B0 S0 U0 => ?_
  show T _ (mkBase 22 1 w0 S0 U0 B0) ⟨[pv 0 0], [.live (.box 99 [.d (dsl false false kU8 B), .d (.val (.int .i64 ((a : Nat) : Int))), .d (.val (.int .i64 e))])]⟩ _ _
  refine T.seq ?_
  by_cases hq1 : e = 0
  · refine xD [[], [0], [0, 1], [0, 1, 2], [0, 1, 2, 3], [0, 1, 2, 3, 4], [0, 1, 2, 3, 4, 5], [0, 1, 2, 3, 4, 5, 6], [0, 1, 2, 3, 4, 5, 6, 7], [0, 1, 2, 3, 4, 5, 6, 7, 8], [0, 1, 2, 3, 4, 5], [0, 1, 2, 3, 4, 5, 10], [0, 1, 2, 3, 4, 5, 10, 11], [0, 1, 2, 3, 4, 5, 10, 11, 12], [0, 1, 2, 3, 4, 5, 10, 11, 12, 13], [0, 1, 2, 3, 4, 5, 6, 7, 8, 9, 10, 11, 12, 13, 14], [0, 1, 2, 3, 4, 5, 6, 7, 8, 9, 10, 11, 12, 13, 14, 15]] [hY 6 (decide_eq_true hq1),
      hY 7 (decide_eq_true hq1),
      hY 8 (decide_eq_true hq1),
      hY 9 (decide_eq_true hq1),
      hY 10 (decide_eq_true hq1),
      hY 11 (decide_eq_true hq1),
      hY 12 (decide_eq_true hq1),
      hY 13 (decide_eq_true hq1),
      hY 14 (decide_eq_true hq1),
      hY 15 (decide_eq_true hq1),
      hP 16 (decide_eq_true hq1)] (by kernel_rfl) (by kernel_rfl) (by kernel_rfl) (by kernel_rfl) (by kernel_rfl) (by kernel_rfl) ?_
    refine nT ?_
    by_cases hq2 : ((a : Nat) : Int) < ((B.length : Nat) : Int)
    · refine T.condT (by kernel_rfl) (decide_eq_true hq2) ?_
      refine xR [] (by kernel_rfl) (by kernel_rfl) ?_
      exact tE (.inr rfl) [] trivial [0] rfl rfl rfl rfl rfl rfl ⟨⟨rfl, (by have e1 : (13 : Int) = (rdX (B.drop a) e) := (by first | rfl | (simp only [rdX, List.length_drop]; first | rw [if_pos ⟨by assumption, by omega⟩] | rw [if_neg (fun h => by first | exact absurd h.1 (by assumption) | (have := h.2; omega))])); have hE := congrArg (fun (q1 : Int) => (.live (.box 99 [.d (dsl false false kU8 B), .d (.val (.int .i64 ((a : Nat) : Int))), .d (.val (.int .i64 q1))]) : HS)) e1; exact Eq.trans (by kernel_rfl) hE)⟩, trivial⟩
    · refine T.condF (by kernel_rfl) (decide_eq_false hq2) ?_
      refine T.skip ?_
      exact tE (.inr rfl) [] trivial [0] rfl rfl rfl rfl rfl rfl ⟨⟨rfl, (by have e1 : (e : Int) = (rdX (B.drop a) e) := (by first | rfl | (simp only [rdX, List.length_drop]; first | rw [if_pos ⟨by assumption, by omega⟩] | rw [if_neg (fun h => by first | exact absurd h.1 (by assumption) | (have := h.2; omega))])); have hE := congrArg (fun (q1 : Int) => (.live (.box 99 [.d (dsl false false kU8 B), .d (.val (.int .i64 ((a : Nat) : Int))), .d (.val (.int .i64 q1))]) : HS)) e1; exact Eq.trans (by kernel_rfl) hE)⟩, trivial⟩
  · refine xD [[], [0], [0, 1], [0, 1, 2], [0, 1, 2, 3], [0, 1, 2, 3, 4], [0, 1, 2, 3, 4, 5], [0, 1, 2, 3, 4, 5, 6], [0, 1, 2, 3, 4, 5, 6, 7], [0, 1, 2, 3, 4, 5, 6, 7, 8], [0, 1, 2, 3, 4, 5], [0, 1, 2, 3, 4, 5, 10], [0, 1, 2, 3, 4, 5, 10, 11], [0, 1, 2, 3, 4, 5, 10, 11, 12], [0, 1, 2, 3, 4, 5, 10, 11, 12, 13], [0, 1, 2, 3, 4, 5, 6, 7, 8, 9, 10, 11, 12, 13, 14], [0, 1, 2, 3, 4, 5, 6, 7, 8, 9, 10, 11, 12, 13, 14, 15]] [hN 6 true (decide_eq_false hq1),
      hN 7 true (decide_eq_false hq1),
      hN 8 true (decide_eq_false hq1),
      hN 9 true (decide_eq_false hq1),
      hN 10 true (decide_eq_false hq1),
      hN 11 true (decide_eq_false hq1),
      hN 12 true (decide_eq_false hq1),
      hN 13 true (decide_eq_false hq1),
      hN 14 true (decide_eq_false hq1),
      hN 15 true (decide_eq_false hq1),
      hP 16 (decide_eq_false hq1)] (by kernel_rfl) (by kernel_rfl) (by kernel_rfl) (by kernel_rfl) (by kernel_rfl) (by kernel_rfl) ?_
    refine nT ?_
    refine T.condF (b := false) (by kernel_rfl) rfl ?_
    refine T.skip ?_
    exact tE (.inr rfl) [] trivial [0] rfl rfl rfl rfl rfl rfl ⟨⟨rfl, (by have e1 : (e : Int) = (rdX (B.drop a) e) := (by first | rfl | (simp only [rdX, List.length_drop]; first | rw [if_pos ⟨by assumption, by omega⟩] | rw [if_neg (fun h => by first | exact absurd h.1 (by assumption) | (have := h.2; omega))])); have hE := congrArg (fun (q1 : Int) => (.live (.box 99 [.d (dsl false false kU8 B), .d (.val (.int .i64 ((a : Nat) : Int))), .d (.val (.int .i64 q1))]) : HS)) e1; exact Eq.trans (by kernel_rfl) hE)⟩, trivial⟩
end Go.Proofs.Ytdclfhahcfefeaa.Q
