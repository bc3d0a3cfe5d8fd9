import Derived.Test.YtdclfhahcfefeaaC11n21
namespace Go.Proofs.Ytdclfhahcfefeaa.Q
open Go Go.RowKit
set_option linter.unusedVariables false
set_option linter.unusedSimpArgs false
set_option maxRecDepth 100000
set_option maxHeartbeats 4000000
-- (*quaestor/quaestorref01.Reader).Bytes
theorem ref01_rBytes (B : List UInt8) (a : Nat) (e : Int) (most : Int) (ha : a ≤ B.length) (hB : B.length ≤ 140737488350000) : Holds Try.prog 54 ⟨[pv 0 0, dv (.int .i64 most)], [.box 99 [.d (dsl false false kU8 B), .d (.val (.int .i64 ((a : Nat) : Int))), .d (.val (.int .i64 e))]], ownV 1 kU8 0 (rdY (B.drop a) e most).length, [.live (.box 99 [.d (dsl false false kU8 B), .d (.val (.int .i64 ((rfYA B a e most : Nat) : Int))), .d (.val (.int .i64 (rdYE (B.drop a) e most)))]), .live (arrK 5 kU8 (rdY (B.drop a) e most))]⟩ := by
  refine Holds.of Try.func54 rfl (N := 72) Try.ntmps54 rfl fun w0 B0 S0 U0 => ?_
  show T _ (mkBase 72 1 w0 S0 U0 B0) ⟨[pv 0 0, dv (.int .i64 most)], [.live (.box 99 [.d (dsl false false kU8 B), .d (.val (.int .i64 ((a : Nat) : Int))), .d (.val (.int .i64 e))])]⟩ _ _
  have hrc := rdC_lt (B.drop a) e most
  have hra := rfA_le (B := B) (a := a) (e := e) (n := 4) (m := (limE most ((B.drop a).take 4))) ha
  refine T.seq ?_
  refine xR [] (by kernel_rfl) (by kernel_rfl) ?_
  refine nT ?_
  refine T.seq ?_
  refine xR [] (by kernel_rfl) (by kernel_rfl) ?_
  refine nT ?_
  refine T.seq ?_
  refine xR [hR 2 rfl rfl (r_call (ref01_rCount B a e most (by first | assumption | omega | (unfold maxLen; omega) | (simp [maxLen, -List.getD_eq_getElem?_getD] <;> omega) | decide) (by first | assumption | omega | (unfold maxLen; omega) | (simp [maxLen, -List.getD_eq_getElem?_getD] <;> omega) | decide)) Try.func78 rfl (by decide) [0] [] (l := [(.tmp 12, pv 0 0), (.tmp 13, dv (.int .i64 most))]) [] rfl 1 1 rfl rfl rfl rfl rfl rfl rfl rfl rfl ⟨.inl ⟨rfl, rfl⟩, ⟨.inl ⟨rfl, rfl⟩, trivial⟩⟩ rfl (fun b hb => by cases hb) (.inl rfl) (lt_of rfl) trivial)] (by kernel_rfl) (by kernel_rfl) ?_
  refine nT ?_
  refine T.seq ?_
  refine T.seq ?_
  by_cases hq1 : (rdE (B.drop a) e 4 (limE most ((B.drop a).take 4))) = 0
  · refine xD [[], [0], [0, 1], [0, 1, 2], [0, 1, 2, 3], [0, 1, 2, 3, 4], [0, 1, 2, 3, 4, 5], [0, 1, 2, 3, 4, 5], [0, 1, 2, 3, 4, 5, 7], [0, 1, 2, 3, 4, 5, 7, 8], [0, 1, 2, 3, 4, 5, 7, 8, 9], [0, 1, 2, 3, 4, 5, 7, 8, 9, 10], [0, 1, 2, 3, 4, 5], [0, 1, 2, 3, 4, 5, 12], [0, 1, 2, 3, 4, 5, 12, 13], [0, 1, 2, 3, 4, 5, 12, 13, 14], [0, 1, 2, 3, 4, 5, 7, 8, 9, 10, 11, 12, 13, 14, 15], [0, 1, 2, 3, 4, 5, 6, 7, 8, 9, 10, 11, 12, 13, 14, 15, 16], [0, 1, 2, 3, 4, 5, 6, 7, 8, 9, 10, 11, 12, 13, 14, 15, 16, 17]] [hY 6 (decide_eq_true hq1),
      hY 7 (decide_eq_true hq1),
      hY 8 (decide_eq_true hq1),
      hY 9 (decide_eq_true hq1),
      hY 10 (decide_eq_true hq1),
      hY 11 (decide_eq_true hq1),
      hY 12 (decide_eq_true hq1),
      hY 13 (decide_eq_true hq1),
      hY 14 (decide_eq_true hq1),
      hY 15 (decide_eq_true hq1),
      hS 16 (oY rfl rfl rfl rfl (lt_of rfl) (decide_eq_true hq1) (r_bin (u1 := .int .i64 ((B.length : Nat) : Int)) (u2 := .int .i64 ((rfA B a e 4 (limE most ((B.drop a).take 4)) : Nat) : Int)) (v := .int .i64 (((B.length : Nat) : Int) - ((rfA B a e 4 (limE most ((B.drop a).take 4)) : Nat) : Int))) (b_sub (by rw [IntKind.wrap_i64]; omega)) (lt_of rfl) trivial)),
      hY 17 (decide_eq_true hq1),
      hP 18 (decide_eq_true hq1)] (by kernel_rfl) (by kernel_rfl) (by kernel_rfl) (by kernel_rfl) (by kernel_rfl) (by kernel_rfl) ?_
    refine nT ?_
    by_cases hq2 : ((rdC (B.drop a) e most : Nat) : Int) > (((B.length : Nat) : Int) - ((rfA B a e 4 (limE most ((B.drop a).take 4)) : Nat) : Int))
    · have hy := rfY_short (by assumption) hq2 ha
      refine T.condT (by kernel_rfl) (decide_eq_true hq2) ?_
      refine T.seq ?_
      refine xR [] (by kernel_rfl) (by kernel_rfl) ?_
      refine nT ?_
      refine xR [] (by kernel_rfl) (by kernel_rfl) ?_
      refine nT ?_
      refine T.seq ?_
      refine T.seq ?_
      refine xR [] (by kernel_rfl) (by kernel_rfl) ?_
      refine nT ?_
      refine T.condT (b := true) (by kernel_rfl) rfl ?_
      refine T.seq ?_
      refine xR [] (by kernel_rfl) (by kernel_rfl) ?_
      refine nT ?_
      refine T.ret ?_
      refine rT ?_
      refine Ends.turn (s' := ⟨[pv 0 0, dv (.int .i64 most), aa, aa, dv (.slice none 0 0), dv (.int .i64 ((a : Nat) : Int)), dv (.int .i64 ((rdC (B.drop a) e most : Nat) : Int)), aa, aa, aa, aa, aa, aa, aa, aa, aa, aa, aa, aa, aa, aa, aa, aa, aa, aa, aa, aa, aa, aa, aa, aa, aa, aa, dv (.bool (decide (((rdC (B.drop a) e most : Nat) : Int) > (((B.length : Nat) : Int) - ((rfA B a e 4 (limE most ((B.drop a).take 4)) : Nat) : Int))))), aa, aa, aa, aa, aa, aa, aa, aa, aa, aa, aa, dv (.bool true)], [.live (.box 99 [.d (dsl false false kU8 B), .d (.val (.int .i64 ((a : Nat) : Int))), .d (.val (.int .i64 10))])]⟩) (fun _ _ hG => Gs.norm (by kernel_rfl) hG) ?_
      refine Ends.turn (s' := ⟨[pv 0 0, dv (.int .i64 most), aa, aa, ownV 1 kU8 0 0, dv (.int .i64 ((a : Nat) : Int)), dv (.int .i64 ((rdC (B.drop a) e most : Nat) : Int)), aa, aa, aa, aa, aa, aa, aa, aa, aa, aa, aa, aa, aa, aa, aa, aa, aa, aa, aa, aa, aa, aa, aa, aa, aa, aa, dv (.bool (decide (((rdC (B.drop a) e most : Nat) : Int) > (((B.length : Nat) : Int) - ((rfA B a e 4 (limE most ((B.drop a).take 4)) : Nat) : Int))))), aa, aa, aa, aa, aa, aa, aa, aa, aa, aa, aa, dv (.bool true)], [.live (.box 99 [.d (dsl false false kU8 B), .d (.val (.int .i64 ((a : Nat) : Int))), .d (.val (.int .i64 10))]), .live (arrK 5 kU8 ([] : List UInt8))]⟩) (fun _ _ hG => Gs.absent 1 4 5 kU8 rfl rfl hG) ?_
      exact tE (.inl rfl) [.t 4 (.one (.own 1 kU8.sz 0 0))] ⟨⟨rfl, by kernel_rfl⟩, trivial⟩ [0, 1] (by have e1 : ((rdY (B.drop a) e most).length : Nat) = 0 := (by first | rfl | omega | exact hy.1 | exact hy.1.symm | exact hy.2.1 | exact hy.2.1.symm | exact hy.2.2 | exact hy.2.2.symm | exact hy.2.2.1 | exact hy.2.2.1.symm | (rw [hy.1]; first | done | rfl) | (rw [hy.2.1, hy.2.2.2]) | (rw [hy.2.2.2.1, hy.1, hy.2.1]; first | done | rfl | simp) | (rw [hy.2.2.2.2.1, hy.1, hy.2.1]) | (rw [hy.2.2.2.2.2]; first | done | assumption | (symm; assumption))); have hE := congrArg (fun (q1 : Nat) => (ownV 1 kU8 0 q1 : AV)) e1; exact hE) rfl rfl rfl rfl rfl ⟨⟨rfl, (by have e1 : (((a : Nat) : Int) : Int) = ((rfYA B a e most : Nat) : Int) := (by first | rfl | omega | exact hy.1 | exact hy.1.symm | exact hy.2.1 | exact hy.2.1.symm | exact hy.2.2 | exact hy.2.2.symm | exact hy.2.2.1 | exact hy.2.2.1.symm | (rw [hy.1]; first | done | rfl) | (rw [hy.2.1, hy.2.2.2]) | (rw [hy.2.2.2.1, hy.1, hy.2.1]; first | done | rfl | simp) | (rw [hy.2.2.2.2.1, hy.1, hy.2.1]) | (rw [hy.2.2.2.2.2]; first | done | assumption | (symm; assumption))); have e2 : (10 : Int) = (rdYE (B.drop a) e most) := (by first | rfl | omega | exact hy.1 | exact hy.1.symm | exact hy.2.1 | exact hy.2.1.symm | exact hy.2.2 | exact hy.2.2.symm | exact hy.2.2.1 | exact hy.2.2.1.symm | (rw [hy.1]; first | done | rfl) | (rw [hy.2.1, hy.2.2.2]) | (rw [hy.2.2.2.1, hy.1, hy.2.1]; first | done | rfl | simp) | (rw [hy.2.2.2.2.1, hy.1, hy.2.1]) | (rw [hy.2.2.2.2.2]; first | done | assumption | (symm; assumption))); have hE := congr (congrArg (fun (q1 : Int) (q2 : Int) => (.live (.box 99 [.d (dsl false false kU8 B), .d (.val (.int .i64 q1)), .d (.val (.int .i64 q2))]) : HS)) e1) e2; exact Eq.trans (by kernel_rfl) hE)⟩, ⟨⟨rfl, (by have e1 : (([] : List UInt8) : List UInt8) = (rdY (B.drop a) e most) := (by first | rfl | omega | exact hy.1 | exact hy.1.symm | exact hy.2.1 | exact hy.2.1.symm | exact hy.2.2 | exact hy.2.2.symm | exact hy.2.2.1 | exact hy.2.2.1.symm | (rw [hy.1]; first | done | rfl) | (rw [hy.2.1, hy.2.2.2]) | (rw [hy.2.2.2.1, hy.1, hy.2.1]; first | done | rfl | simp) | (rw [hy.2.2.2.2.1, hy.1, hy.2.1]) | (rw [hy.2.2.2.2.2]; first | done | assumption | (symm; assumption))); have hE := congrArg (fun (q1 : List UInt8) => (.live (arrK 5 kU8 q1) : HS)) e1; exact Eq.trans (by kernel_rfl) hE)⟩, trivial⟩⟩
    · have hy := rfY_ok (by assumption) hq2 ha
      refine T.condF (by kernel_rfl) (decide_eq_false hq2) ?_
      refine T.skip ?_
      refine nT ?_
      refine T.seq ?_
      refine T.seq ?_
      refine xR [] (by kernel_rfl) (by kernel_rfl) ?_
      refine nT ?_
      by_cases hq3 : (rdE (B.drop a) e 4 (limE most ((B.drop a).take 4))) ≠ 0
      · refine T.condT (by kernel_rfl) (decide_eq_true hq3) ?_
        refine T.seq ?_
        refine xR [] (by kernel_rfl) (by kernel_rfl) ?_
        refine nT ?_
        refine T.ret ?_
        refine rT ?_
        refine Ends.turn (s' := ⟨[pv 0 0, dv (.int .i64 most), aa, aa, dv (.slice none 0 0), dv (.int .i64 ((a : Nat) : Int)), dv (.int .i64 ((rdC (B.drop a) e most : Nat) : Int)), aa, aa, aa, aa, aa, aa, aa, aa, aa, aa, aa, aa, aa, aa, aa, aa, aa, aa, aa, aa, aa, aa, aa, aa, aa, aa, dv (.bool (decide (((rdC (B.drop a) e most : Nat) : Int) > (((B.length : Nat) : Int) - ((rfA B a e 4 (limE most ((B.drop a).take 4)) : Nat) : Int))))), aa, aa, aa, aa, aa, aa, aa, aa, aa, aa, aa, dv (.bool (decide ((rdE (B.drop a) e 4 (limE most ((B.drop a).take 4))) ≠ 0)))], [.live (.box 99 [.d (dsl false false kU8 B), .d (.val (.int .i64 ((rfA B a e 4 (limE most ((B.drop a).take 4)) : Nat) : Int))), .d (.val (.int .i64 (rdE (B.drop a) e 4 (limE most ((B.drop a).take 4)))))])]⟩) (fun _ _ hG => Gs.norm (by kernel_rfl) hG) ?_
        refine Ends.turn (s' := ⟨[pv 0 0, dv (.int .i64 most), aa, aa, ownV 1 kU8 0 0, dv (.int .i64 ((a : Nat) : Int)), dv (.int .i64 ((rdC (B.drop a) e most : Nat) : Int)), aa, aa, aa, aa, aa, aa, aa, aa, aa, aa, aa, aa, aa, aa, aa, aa, aa, aa, aa, aa, aa, aa, aa, aa, aa, aa, dv (.bool (decide (((rdC (B.drop a) e most : Nat) : Int) > (((B.length : Nat) : Int) - ((rfA B a e 4 (limE most ((B.drop a).take 4)) : Nat) : Int))))), aa, aa, aa, aa, aa, aa, aa, aa, aa, aa, aa, dv (.bool (decide ((rdE (B.drop a) e 4 (limE most ((B.drop a).take 4))) ≠ 0)))], [.live (.box 99 [.d (dsl false false kU8 B), .d (.val (.int .i64 ((rfA B a e 4 (limE most ((B.drop a).take 4)) : Nat) : Int))), .d (.val (.int .i64 (rdE (B.drop a) e 4 (limE most ((B.drop a).take 4)))))]), .live (arrK 5 kU8 ([] : List UInt8))]⟩) (fun _ _ hG => Gs.absent 1 4 5 kU8 rfl rfl hG) ?_
        exact tE (.inl rfl) [.t 4 (.one (.own 1 kU8.sz 0 0))] ⟨⟨rfl, by kernel_rfl⟩, trivial⟩ [0, 1] (by have e1 : ((rdY (B.drop a) e most).length : Nat) = 0 := (by first | rfl | omega | exact hy.1 | exact hy.1.symm | exact hy.2.1 | exact hy.2.1.symm | exact hy.2.2 | exact hy.2.2.symm | exact hy.2.2.1 | exact hy.2.2.1.symm | (rw [hy.1]; first | done | rfl) | (rw [hy.2.1, hy.2.2.2]) | (rw [hy.2.2.2.1, hy.1, hy.2.1]; first | done | rfl | simp) | (rw [hy.2.2.2.2.1, hy.1, hy.2.1]) | (rw [hy.2.2.2.2.2]; first | done | assumption | (symm; assumption))); have hE := congrArg (fun (q1 : Nat) => (ownV 1 kU8 0 q1 : AV)) e1; exact hE) rfl rfl rfl rfl rfl ⟨⟨rfl, (by have e1 : (((rfA B a e 4 (limE most ((B.drop a).take 4)) : Nat) : Int) : Int) = ((rfYA B a e most : Nat) : Int) := (by first | rfl | omega | exact hy.1 | exact hy.1.symm | exact hy.2.1 | exact hy.2.1.symm | exact hy.2.2 | exact hy.2.2.symm | exact hy.2.2.1 | exact hy.2.2.1.symm | (rw [hy.1]; first | done | rfl) | (rw [hy.2.1, hy.2.2.2]) | (rw [hy.2.2.2.1, hy.1, hy.2.1]; first | done | rfl | simp) | (rw [hy.2.2.2.2.1, hy.1, hy.2.1]) | (rw [hy.2.2.2.2.2]; first | done | assumption | (symm; assumption))); have e2 : ((rdE (B.drop a) e 4 (limE most ((B.drop a).take 4))) : Int) = (rdYE (B.drop a) e most) := (by first | rfl | omega | exact hy.1 | exact hy.1.symm | exact hy.2.1 | exact hy.2.1.symm | exact hy.2.2 | exact hy.2.2.symm | exact hy.2.2.1 | exact hy.2.2.1.symm | (rw [hy.1]; first | done | rfl) | (rw [hy.2.1, hy.2.2.2]) | (rw [hy.2.2.2.1, hy.1, hy.2.1]; first | done | rfl | simp) | (rw [hy.2.2.2.2.1, hy.1, hy.2.1]) | (rw [hy.2.2.2.2.2]; first | done | assumption | (symm; assumption))); have hE := congr (congrArg (fun (q1 : Int) (q2 : Int) => (.live (.box 99 [.d (dsl false false kU8 B), .d (.val (.int .i64 q1)), .d (.val (.int .i64 q2))]) : HS)) e1) e2; exact Eq.trans (by kernel_rfl) hE)⟩, ⟨⟨rfl, (by have e1 : (([] : List UInt8) : List UInt8) = (rdY (B.drop a) e most) := (by first | rfl | omega | exact hy.1 | exact hy.1.symm | exact hy.2.1 | exact hy.2.1.symm | exact hy.2.2 | exact hy.2.2.symm | exact hy.2.2.1 | exact hy.2.2.1.symm | (rw [hy.1]; first | done | rfl) | (rw [hy.2.1, hy.2.2.2]) | (rw [hy.2.2.2.1, hy.1, hy.2.1]; first | done | rfl | simp) | (rw [hy.2.2.2.2.1, hy.1, hy.2.1]) | (rw [hy.2.2.2.2.2]; first | done | assumption | (symm; assumption))); have hE := congrArg (fun (q1 : List UInt8) => (.live (arrK 5 kU8 q1) : HS)) e1; exact Eq.trans (by kernel_rfl) hE)⟩, trivial⟩⟩
      · refine T.condF (by kernel_rfl) (decide_eq_false hq3) ?_
        refine T.skip ?_
        refine nT ?_
        refine T.seq ?_
        refine xD [[], [], [1], [1, 2], [1, 2, 3], [], [5], [5, 6], [5, 6, 7], [], [9], [9, 10], [9, 10, 11], [], [9, 10, 11, 12, 13], [1, 2, 3, 4, 5, 6, 7, 8, 9, 10, 11, 12, 13, 14], [0, 1, 2, 3, 4, 5, 6, 7, 8, 9, 10, 11, 12, 13, 14, 15], [0, 1, 2, 3, 4, 5, 6, 7, 8, 9, 10, 11, 12, 13, 14, 15, 16]] [hR 0 rfl rfl (q_buildSlice 1 5 kU8 kU8_ok ([] : List UInt8) [] (cs := []) Try.underlying58 iat_5 rfl zero_5 rfl rfl rfl (Nat.le_of_ble_eq_true rfl) part_ok rfl trivial (lt_of rfl) trivial),
          hR 14 rfl rfl (r_bin (u1 := .int .i64 ((rfA B a e 4 (limE most ((B.drop a).take 4)) : Nat) : Int)) (u2 := .int .i64 ((rdC (B.drop a) e most : Nat) : Int)) (v := .int .i64 (((rfA B a e 4 (limE most ((B.drop a).take 4))) + (rdC (B.drop a) e most) : Nat) : Int)) (b_add (by rw [IntKind.wrap_i64]; omega)) (lt_of rfl) trivial),
          hR 15 rfl rfl (q_slice false false kU8 B ((B.take ((rfA B a e 4 (limE most ((B.drop a).take 4))) + (rdC (B.drop a) e most))).drop (rfA B a e 4 (limE most ((B.drop a).take 4)))) (rfA B a e 4 (limE most ((B.drop a).take 4))) ((rfA B a e 4 (limE most ((B.drop a).take 4))) + (rdC (B.drop a) e most)) (lo := some (.tmp 54, ((rfA B a e 4 (limE most ((B.drop a).take 4)) : Nat) : Int))) (hi := some (.tmp 60, (((rfA B a e 4 (limE most ((B.drop a).take 4))) + (rdC (B.drop a) e most) : Nat) : Int))) Try.underlying58 iat_5 rfl rfl rfl rfl rfl (by first | assumption | omega | (unfold maxLen; omega) | (simp [maxLen, -List.getD_eq_getElem?_getD] <;> omega) | decide) (by first | assumption | omega | (unfold maxLen; omega) | (simp [maxLen, -List.getD_eq_getElem?_getD] <;> omega) | decide) rfl (lt_of rfl) trivial),
          hR 16 rfl rfl (q_appendO 1 2 5 1 kU8 kU8_ok ([] : List UInt8) ((B.take ((rfA B a e 4 (limE most ((B.drop a).take 4))) + (rdC (B.drop a) e most))).drop (rfA B a e 4 (limE most ((B.drop a).take 4)))) ((B.take ((rfA B a e 4 (limE most ((B.drop a).take 4))) + (rdC (B.drop a) e most))).drop (rfA B a e 4 (limE most ((B.drop a).take 4)))) ([] : List UInt8).length (sy := (.d (dsl false false kU8 ((B.take ((rfA B a e 4 (limE most ((B.drop a).take 4))) + (rdC (B.drop a) e most))).drop (rfA B a e 4 (limE most ((B.drop a).take 4))))))) (rhs := []) elem_58 (by first | assumption | omega | (unfold maxLen; omega) | (simp [maxLen, -List.getD_eq_getElem?_getD] <;> omega) | decide) (src_sl false false kU8 ((B.take ((rfA B a e 4 (limE most ((B.drop a).take 4))) + (rdC (B.drop a) e most))).drop (rfA B a e 4 (limE most ((B.drop a).take 4))))) (by simp) (by first | assumption | omega | (unfold maxLen; omega) | (simp [maxLen, -List.getD_eq_getElem?_getD] <;> omega) | decide) (by first | assumption | omega | (unfold maxLen; omega) | (simp [maxLen, -List.getD_eq_getElem?_getD] <;> omega) | decide) (lt_of rfl) trivial)] (by kernel_rfl) (by kernel_rfl) (by kernel_rfl) (by kernel_rfl) (by kernel_rfl) (by kernel_rfl) ?_
        refine nT ?_
        refine T.seq ?_
        refine xR [hR 5 rfl rfl (r_bin (u1 := .int .i64 ((rfA B a e 4 (limE most ((B.drop a).take 4)) : Nat) : Int)) (u2 := .int .i64 ((rdC (B.drop a) e most : Nat) : Int)) (v := .int .i64 (((rfA B a e 4 (limE most ((B.drop a).take 4))) + (rdC (B.drop a) e most) : Nat) : Int)) (b_add (by rw [IntKind.wrap_i64]; omega)) (lt_of rfl) trivial)] (by kernel_rfl) (by kernel_rfl) ?_
        refine nT ?_
        refine T.seq ?_
        refine xR [] (by kernel_rfl) (by kernel_rfl) ?_
        refine nT ?_
        refine T.ret ?_
        exact tE (.inl rfl) [.t 4 (.one (.own 2 kU8.sz 0 ((B.take ((rfA B a e 4 (limE most ((B.drop a).take 4))) + (rdC (B.drop a) e most))).drop (rfA B a e 4 (limE most ((B.drop a).take 4)))).length))] ⟨⟨rfl, by kernel_rfl⟩, trivial⟩ [0, 2] (by have e1 : ((rdY (B.drop a) e most).length : Nat) = ((B.take ((rfA B a e 4 (limE most ((B.drop a).take 4))) + (rdC (B.drop a) e most))).drop (rfA B a e 4 (limE most ((B.drop a).take 4)))).length := (by first | rfl | omega | exact hy.1 | exact hy.1.symm | exact hy.2.1 | exact hy.2.1.symm | exact hy.2.2 | exact hy.2.2.symm | exact hy.2.2.1 | exact hy.2.2.1.symm | (rw [hy.1]; first | done | rfl) | (rw [hy.2.1, hy.2.2.2]) | (rw [hy.2.2.2.1, hy.1, hy.2.1]; first | done | rfl | simp) | (rw [hy.2.2.2.2.1, hy.1, hy.2.1]) | (rw [hy.2.2.2.2.2]; first | done | assumption | (symm; assumption))); have hE := congrArg (fun (q1 : Nat) => (ownV 2 kU8 0 q1 : AV)) e1; exact hE) rfl rfl rfl rfl rfl ⟨⟨rfl, (by have e1 : ((((rfA B a e 4 (limE most ((B.drop a).take 4))) + (rdC (B.drop a) e most) : Nat) : Int) : Int) = ((rfYA B a e most : Nat) : Int) := (by first | rfl | omega | exact hy.1 | exact hy.1.symm | exact hy.2.1 | exact hy.2.1.symm | exact hy.2.2 | exact hy.2.2.symm | exact hy.2.2.1 | exact hy.2.2.1.symm | (rw [hy.1]; first | done | rfl) | (rw [hy.2.1, hy.2.2.2]) | (rw [hy.2.2.2.1, hy.1, hy.2.1]; first | done | rfl | simp) | (rw [hy.2.2.2.2.1, hy.1, hy.2.1]) | (rw [hy.2.2.2.2.2]; first | done | assumption | (symm; assumption))); have e2 : ((rdE (B.drop a) e 4 (limE most ((B.drop a).take 4))) : Int) = (rdYE (B.drop a) e most) := (by first | rfl | omega | exact hy.1 | exact hy.1.symm | exact hy.2.1 | exact hy.2.1.symm | exact hy.2.2 | exact hy.2.2.symm | exact hy.2.2.1 | exact hy.2.2.1.symm | (rw [hy.1]; first | done | rfl) | (rw [hy.2.1, hy.2.2.2]) | (rw [hy.2.2.2.1, hy.1, hy.2.1]; first | done | rfl | simp) | (rw [hy.2.2.2.2.1, hy.1, hy.2.1]) | (rw [hy.2.2.2.2.2]; first | done | assumption | (symm; assumption))); have hE := congr (congrArg (fun (q1 : Int) (q2 : Int) => (.live (.box 99 [.d (dsl false false kU8 B), .d (.val (.int .i64 q1)), .d (.val (.int .i64 q2))]) : HS)) e1) e2; exact Eq.trans (by kernel_rfl) hE)⟩, ⟨⟨rfl, (by have e1 : (((B.take ((rfA B a e 4 (limE most ((B.drop a).take 4))) + (rdC (B.drop a) e most))).drop (rfA B a e 4 (limE most ((B.drop a).take 4)))) : List UInt8) = (rdY (B.drop a) e most) := (by first | rfl | omega | exact hy.1 | exact hy.1.symm | exact hy.2.1 | exact hy.2.1.symm | exact hy.2.2 | exact hy.2.2.symm | exact hy.2.2.1 | exact hy.2.2.1.symm | (rw [hy.1]; first | done | rfl) | (rw [hy.2.1, hy.2.2.2]) | (rw [hy.2.2.2.1, hy.1, hy.2.1]; first | done | rfl | simp) | (rw [hy.2.2.2.2.1, hy.1, hy.2.1]) | (rw [hy.2.2.2.2.2]; first | done | assumption | (symm; assumption))); have hE := congrArg (fun (q1 : List UInt8) => (.live (arrK 5 kU8 q1) : HS)) e1; exact Eq.trans (by kernel_rfl) hE)⟩, trivial⟩⟩
  · have hy := rfY_fail hq1
    refine xD [[], [0], [0, 1], [0, 1, 2], [0, 1, 2, 3], [0, 1, 2, 3, 4], [0, 1, 2, 3, 4, 5], [0, 1, 2, 3, 4, 5], [0, 1, 2, 3, 4, 5, 7], [0, 1, 2, 3, 4, 5, 7, 8], [0, 1, 2, 3, 4, 5, 7, 8, 9], [0, 1, 2, 3, 4, 5, 7, 8, 9, 10], [0, 1, 2, 3, 4, 5], [0, 1, 2, 3, 4, 5, 12], [0, 1, 2, 3, 4, 5, 12, 13], [0, 1, 2, 3, 4, 5, 12, 13, 14], [0, 1, 2, 3, 4, 5, 7, 8, 9, 10, 11, 12, 13, 14, 15], [0, 1, 2, 3, 4, 5, 6, 7, 8, 9, 10, 11, 12, 13, 14, 15, 16], [0, 1, 2, 3, 4, 5, 6, 7, 8, 9, 10, 11, 12, 13, 14, 15, 16, 17]] [hN 6 true (decide_eq_false hq1),
      hN 7 true (decide_eq_false hq1),
      hN 8 true (decide_eq_false hq1),
      hN 9 true (decide_eq_false hq1),
      hN 10 true (decide_eq_false hq1),
      hN 11 true (decide_eq_false hq1),
      hN 12 true (decide_eq_false hq1),
      hN 13 true (decide_eq_false hq1),
      hN 14 true (decide_eq_false hq1),
      hN 15 true (decide_eq_false hq1),
      hN 16 true (decide_eq_false hq1),
      hN 17 true (decide_eq_false hq1),
      hP 18 (decide_eq_false hq1)] (by kernel_rfl) (by kernel_rfl) (by kernel_rfl) (by kernel_rfl) (by kernel_rfl) (by kernel_rfl) ?_
    refine nT ?_
    refine T.condF (b := false) (by kernel_rfl) rfl ?_
    refine T.skip ?_
    refine nT ?_
    refine T.seq ?_
    refine T.seq ?_
    refine xR [] (by kernel_rfl) (by kernel_rfl) ?_
    refine nT ?_
    by_cases hq4 : (rdE (B.drop a) e 4 (limE most ((B.drop a).take 4))) ≠ 0
    · refine T.condT (by kernel_rfl) (decide_eq_true hq4) ?_
      refine T.seq ?_
      refine xR [] (by kernel_rfl) (by kernel_rfl) ?_
      refine nT ?_
      refine T.ret ?_
      refine rT ?_
      refine Ends.turn (s' := ⟨[pv 0 0, dv (.int .i64 most), aa, aa, dv (.slice none 0 0), dv (.int .i64 ((a : Nat) : Int)), dv (.int .i64 ((rdC (B.drop a) e most : Nat) : Int)), aa, aa, aa, aa, aa, aa, aa, aa, aa, aa, aa, aa, aa, aa, aa, aa, aa, aa, aa, aa, aa, aa, aa, aa, aa, aa, dv (.bool false), aa, aa, aa, aa, aa, aa, aa, aa, aa, aa, aa, dv (.bool (decide ((rdE (B.drop a) e 4 (limE most ((B.drop a).take 4))) ≠ 0)))], [.live (.box 99 [.d (dsl false false kU8 B), .d (.val (.int .i64 ((rfA B a e 4 (limE most ((B.drop a).take 4)) : Nat) : Int))), .d (.val (.int .i64 (rdE (B.drop a) e 4 (limE most ((B.drop a).take 4)))))])]⟩) (fun _ _ hG => Gs.norm (by kernel_rfl) hG) ?_
      refine Ends.turn (s' := ⟨[pv 0 0, dv (.int .i64 most), aa, aa, ownV 1 kU8 0 0, dv (.int .i64 ((a : Nat) : Int)), dv (.int .i64 ((rdC (B.drop a) e most : Nat) : Int)), aa, aa, aa, aa, aa, aa, aa, aa, aa, aa, aa, aa, aa, aa, aa, aa, aa, aa, aa, aa, aa, aa, aa, aa, aa, aa, dv (.bool false), aa, aa, aa, aa, aa, aa, aa, aa, aa, aa, aa, dv (.bool (decide ((rdE (B.drop a) e 4 (limE most ((B.drop a).take 4))) ≠ 0)))], [.live (.box 99 [.d (dsl false false kU8 B), .d (.val (.int .i64 ((rfA B a e 4 (limE most ((B.drop a).take 4)) : Nat) : Int))), .d (.val (.int .i64 (rdE (B.drop a) e 4 (limE most ((B.drop a).take 4)))))]), .live (arrK 5 kU8 ([] : List UInt8))]⟩) (fun _ _ hG => Gs.absent 1 4 5 kU8 rfl rfl hG) ?_
      exact tE (.inl rfl) [.t 4 (.one (.own 1 kU8.sz 0 0))] ⟨⟨rfl, by kernel_rfl⟩, trivial⟩ [0, 1] (by have e1 : ((rdY (B.drop a) e most).length : Nat) = 0 := (by first | rfl | omega | exact hy.1 | exact hy.1.symm | exact hy.2.1 | exact hy.2.1.symm | exact hy.2.2 | exact hy.2.2.symm | exact hy.2.2.1 | exact hy.2.2.1.symm | (rw [hy.1]; first | done | rfl) | (rw [hy.2.1, hy.2.2.2]) | (rw [hy.2.2.2.1, hy.1, hy.2.1]; first | done | rfl | simp) | (rw [hy.2.2.2.2.1, hy.1, hy.2.1]) | (rw [hy.2.2.2.2.2]; first | done | assumption | (symm; assumption))); have hE := congrArg (fun (q1 : Nat) => (ownV 1 kU8 0 q1 : AV)) e1; exact hE) rfl rfl rfl rfl rfl ⟨⟨rfl, (by have e1 : (((rfA B a e 4 (limE most ((B.drop a).take 4)) : Nat) : Int) : Int) = ((rfYA B a e most : Nat) : Int) := (by first | rfl | omega | exact hy.1 | exact hy.1.symm | exact hy.2.1 | exact hy.2.1.symm | exact hy.2.2 | exact hy.2.2.symm | exact hy.2.2.1 | exact hy.2.2.1.symm | (rw [hy.1]; first | done | rfl) | (rw [hy.2.1, hy.2.2.2]) | (rw [hy.2.2.2.1, hy.1, hy.2.1]; first | done | rfl | simp) | (rw [hy.2.2.2.2.1, hy.1, hy.2.1]) | (rw [hy.2.2.2.2.2]; first | done | assumption | (symm; assumption))); have e2 : ((rdE (B.drop a) e 4 (limE most ((B.drop a).take 4))) : Int) = (rdYE (B.drop a) e most) := (by first | rfl | omega | exact hy.1 | exact hy.1.symm | exact hy.2.1 | exact hy.2.1.symm | exact hy.2.2 | exact hy.2.2.symm | exact hy.2.2.1 | exact hy.2.2.1.symm | (rw [hy.1]; first | done | rfl) | (rw [hy.2.1, hy.2.2.2]) | (rw [hy.2.2.2.1, hy.1, hy.2.1]; first | done | rfl | simp) | (rw [hy.2.2.2.2.1, hy.1, hy.2.1]) | (rw [hy.2.2.2.2.2]; first | done | assumption | (symm; assumption))); have hE := congr (congrArg (fun (q1 : Int) (q2 : Int) => (.live (.box 99 [.d (dsl false false kU8 B), .d (.val (.int .i64 q1)), .d (.val (.int .i64 q2))]) : HS)) e1) e2; exact Eq.trans (by kernel_rfl) hE)⟩, ⟨⟨rfl, (by have e1 : (([] : List UInt8) : List UInt8) = (rdY (B.drop a) e most) := (by first | rfl | omega | exact hy.1 | exact hy.1.symm | exact hy.2.1 | exact hy.2.1.symm | exact hy.2.2 | exact hy.2.2.symm | exact hy.2.2.1 | exact hy.2.2.1.symm | (rw [hy.1]; first | done | rfl) | (rw [hy.2.1, hy.2.2.2]) | (rw [hy.2.2.2.1, hy.1, hy.2.1]; first | done | rfl | simp) | (rw [hy.2.2.2.2.1, hy.1, hy.2.1]) | (rw [hy.2.2.2.2.2]; first | done | assumption | (symm; assumption))); have hE := congrArg (fun (q1 : List UInt8) => (.live (arrK 5 kU8 q1) : HS)) e1; exact Eq.trans (by kernel_rfl) hE)⟩, trivial⟩⟩
    · refine T.condF (by kernel_rfl) (decide_eq_false hq4) ?_
      refine T.skip ?_
      refine nT ?_
      refine T.seq ?_
      refine xD [[], [], [1], [1, 2], [1, 2, 3], [], [5], [5, 6], [5, 6, 7], [], [9], [9, 10], [9, 10, 11], [], [9, 10, 11, 12, 13], [1, 2, 3, 4, 5, 6, 7, 8, 9, 10, 11, 12, 13, 14], [0, 1, 2, 3, 4, 5, 6, 7, 8, 9, 10, 11, 12, 13, 14, 15], [0, 1, 2, 3, 4, 5, 6, 7, 8, 9, 10, 11, 12, 13, 14, 15, 16]] [hR 0 rfl rfl (q_buildSlice 1 5 kU8 kU8_ok ([] : List UInt8) [] (cs := []) Try.underlying58 iat_5 rfl zero_5 rfl rfl rfl (Nat.le_of_ble_eq_true rfl) part_ok rfl trivial (lt_of rfl) trivial),
        hR 14 rfl rfl (r_bin (u1 := .int .i64 ((rfA B a e 4 (limE most ((B.drop a).take 4)) : Nat) : Int)) (u2 := .int .i64 ((rdC (B.drop a) e most : Nat) : Int)) (v := .int .i64 (((rfA B a e 4 (limE most ((B.drop a).take 4))) + (rdC (B.drop a) e most) : Nat) : Int)) (b_add (by rw [IntKind.wrap_i64]; omega)) (lt_of rfl) trivial),
        hR 15 rfl rfl (q_slice false false kU8 B ((B.take ((rfA B a e 4 (limE most ((B.drop a).take 4))) + (rdC (B.drop a) e most))).drop (rfA B a e 4 (limE most ((B.drop a).take 4)))) (rfA B a e 4 (limE most ((B.drop a).take 4))) ((rfA B a e 4 (limE most ((B.drop a).take 4))) + (rdC (B.drop a) e most)) (lo := some (.tmp 54, ((rfA B a e 4 (limE most ((B.drop a).take 4)) : Nat) : Int))) (hi := some (.tmp 60, (((rfA B a e 4 (limE most ((B.drop a).take 4))) + (rdC (B.drop a) e most) : Nat) : Int))) Try.underlying58 iat_5 rfl rfl rfl rfl rfl (by first | assumption | omega | (unfold maxLen; omega) | (simp [maxLen, -List.getD_eq_getElem?_getD] <;> omega) | decide) (by first | assumption | omega | (unfold maxLen; omega) | (simp [maxLen, -List.getD_eq_getElem?_getD] <;> omega) | decide) rfl (lt_of rfl) trivial),
        hR 16 rfl rfl (q_appendO 1 2 5 1 kU8 kU8_ok ([] : List UInt8) ((B.take ((rfA B a e 4 (limE most ((B.drop a).take 4))) + (rdC (B.drop a) e most))).drop (rfA B a e 4 (limE most ((B.drop a).take 4)))) ((B.take ((rfA B a e 4 (limE most ((B.drop a).take 4))) + (rdC (B.drop a) e most))).drop (rfA B a e 4 (limE most ((B.drop a).take 4)))) ([] : List UInt8).length (sy := (.d (dsl false false kU8 ((B.take ((rfA B a e 4 (limE most ((B.drop a).take 4))) + (rdC (B.drop a) e most))).drop (rfA B a e 4 (limE most ((B.drop a).take 4))))))) (rhs := []) elem_58 (by first | assumption | omega | (unfold maxLen; omega) | (simp [maxLen, -List.getD_eq_getElem?_getD] <;> omega) | decide) (src_sl false false kU8 ((B.take ((rfA B a e 4 (limE most ((B.drop a).take 4))) + (rdC (B.drop a) e most))).drop (rfA B a e 4 (limE most ((B.drop a).take 4))))) (by simp) (by first | assumption | omega | (unfold maxLen; omega) | (simp [maxLen, -List.getD_eq_getElem?_getD] <;> omega) | decide) (by first | assumption | omega | (unfold maxLen; omega) | (simp [maxLen, -List.getD_eq_getElem?_getD] <;> omega) | decide) (lt_of rfl) trivial)] (by kernel_rfl) (by kernel_rfl) (by kernel_rfl) (by kernel_rfl) (by kernel_rfl) (by kernel_rfl) ?_
      refine nT ?_
      refine T.seq ?_
      refine xR [hR 5 rfl rfl (r_bin (u1 := .int .i64 ((rfA B a e 4 (limE most ((B.drop a).take 4)) : Nat) : Int)) (u2 := .int .i64 ((rdC (B.drop a) e most : Nat) : Int)) (v := .int .i64 (((rfA B a e 4 (limE most ((B.drop a).take 4))) + (rdC (B.drop a) e most) : Nat) : Int)) (b_add (by rw [IntKind.wrap_i64]; omega)) (lt_of rfl) trivial)] (by kernel_rfl) (by kernel_rfl) ?_
      refine nT ?_
      refine T.seq ?_
      refine xR [] (by kernel_rfl) (by kernel_rfl) ?_
      refine nT ?_
      refine T.ret ?_
      exact tE (.inl rfl) [.t 4 (.one (.own 2 kU8.sz 0 ((B.take ((rfA B a e 4 (limE most ((B.drop a).take 4))) + (rdC (B.drop a) e most))).drop (rfA B a e 4 (limE most ((B.drop a).take 4)))).length))] ⟨⟨rfl, by kernel_rfl⟩, trivial⟩ [0, 2] (by have e1 : ((rdY (B.drop a) e most).length : Nat) = ((B.take ((rfA B a e 4 (limE most ((B.drop a).take 4))) + (rdC (B.drop a) e most))).drop (rfA B a e 4 (limE most ((B.drop a).take 4)))).length := (by first | rfl | omega | exact hy.1 | exact hy.1.symm | exact hy.2.1 | exact hy.2.1.symm | exact hy.2.2 | exact hy.2.2.symm | exact hy.2.2.1 | exact hy.2.2.1.symm | (rw [hy.1]; first | done | rfl) | (rw [hy.2.1, hy.2.2.2]) | (rw [hy.2.2.2.1, hy.1, hy.2.1]; first | done | rfl | simp) | (rw [hy.2.2.2.2.1, hy.1, hy.2.1]) | (rw [hy.2.2.2.2.2]; first | done | assumption | (symm; assumption))); have hE := congrArg (fun (q1 : Nat) => (ownV 2 kU8 0 q1 : AV)) e1; exact hE) rfl rfl rfl rfl rfl ⟨⟨rfl, (by have e1 : ((((rfA B a e 4 (limE most ((B.drop a).take 4))) + (rdC (B.drop a) e most) : Nat) : Int) : Int) = ((rfYA B a e most : Nat) : Int) := (by first | rfl | omega | exact hy.1 | exact hy.1.symm | exact hy.2.1 | exact hy.2.1.symm | exact hy.2.2 | exact hy.2.2.symm | exact hy.2.2.1 | exact hy.2.2.1.symm | (rw [hy.1]; first | done | rfl) | (rw [hy.2.1, hy.2.2.2]) | (rw [hy.2.2.2.1, hy.1, hy.2.1]; first | done | rfl | simp) | (rw [hy.2.2.2.2.1, hy.1, hy.2.1]) | (rw [hy.2.2.2.2.2]; first | done | assumption | (symm; assumption))); have e2 : ((rdE (B.drop a) e 4 (limE most ((B.drop a).take 4))) : Int) = (rdYE (B.drop a) e most) := (by first | rfl | omega | exact hy.1 | exact hy.1.symm | exact hy.2.1 | exact hy.2.1.symm | exact hy.2.2 | exact hy.2.2.symm | exact hy.2.2.1 | exact hy.2.2.1.symm | (rw [hy.1]; first | done | rfl) | (rw [hy.2.1, hy.2.2.2]) | (rw [hy.2.2.2.1, hy.1, hy.2.1]; first | done | rfl | simp) | (rw [hy.2.2.2.2.1, hy.1, hy.2.1]) | (rw [hy.2.2.2.2.2]; first | done | assumption | (symm; assumption))); have hE := congr (congrArg (fun (q1 : Int) (q2 : Int) => (.live (.box 99 [.d (dsl false false kU8 B), .d (.val (.int .i64 q1)), .d (.val (.int .i64 q2))]) : HS)) e1) e2; exact Eq.trans (by kernel_rfl) hE)⟩, ⟨⟨rfl, (by have e1 : (((B.take ((rfA B a e 4 (limE most ((B.drop a).take 4))) + (rdC (B.drop a) e most))).drop (rfA B a e 4 (limE most ((B.drop a).take 4)))) : List UInt8) = (rdY (B.drop a) e most) := (by first | rfl | omega | exact hy.1 | exact hy.1.symm | exact hy.2.1 | exact hy.2.1.symm | exact hy.2.2 | exact hy.2.2.symm | exact hy.2.2.1 | exact hy.2.2.1.symm | (rw [hy.1]; first | done | rfl) | (rw [hy.2.1, hy.2.2.2]) | (rw [hy.2.2.2.1, hy.1, hy.2.1]; first | done | rfl | simp) | (rw [hy.2.2.2.2.1, hy.1, hy.2.1]) | (rw [hy.2.2.2.2.2]; first | done | assumption | (symm; assumption))); have hE := congrArg (fun (q1 : List UInt8) => (.live (arrK 5 kU8 q1) : HS)) e1; exact Eq.trans (by kernel_rfl) hE)⟩, trivial⟩⟩
end Go.Proofs.Ytdclfhahcfefeaa.Q
namespace Go.Proofs.Ytdclfhahcfefeaa.Q
set_option linter.unusedVariables false
set_option linter.unusedSimpArgs false

/-! ### Numbers that are read -/

theorem back_intX {n : Int} (hn : i64R n) (r : List UInt8) : rdI (intB n ++ r) 0 = n ∧ rdR (intB n ++ r) 0 8 0 = r ∧ rdE (intB n ++ r) 0 8 0 = 0 := by
  have hk : okT (intB n ++ r) 0 8 0 := okT_app (int_len n)
  refine ⟨?_, ?_, rdE_ok hk⟩
  · rw [rdI, if_pos hk, take_app (int_len n), intB, num_spell (Nat.lt_of_lt_of_le (u64_lt n) (by decide)), toI64_u64 hn]
  · rw [rdR_ok hk]; exact drop_app (int_len n)
theorem u64_toI64 {n : Nat} (h : n < 18446744073709551616) : u64 (toI64 n) = n := by unfold toI64 u64; split <;> omega
theorem rdI_range (r : List UInt8) (e : Int) : i64R (rdI r e) := by
  unfold rdI i64R
  split
  · have := numL_lt8 (l := r.take 8) (List.length_take_le _ _)
    unfold toI64
    split <;> omega
  · omega
theorem read_intX {r : List UInt8} {e : Int} (h : rdE r e 8 0 = 0) : e = 0 ∧ r = intB (rdI r e) ++ rdR r e 8 0 := by
  have h1 := okT_of h
  have h8 : (r.take 8).length = 8 := by have := h1.2.1; rw [List.length_take]; omega
  have hn := numL_lt8 (l := r.take 8) (by omega)
  refine ⟨h1.1, ?_⟩
  rw [rdI, if_pos h1, rdR_ok h1, intB, u64_toI64 hn]
  have := spell_num (r.take 8) []
  rw [List.nil_append, h8] at this
  rw [this]
  exact (List.take_append_drop 8 r).symm
theorem rdX_ok {r : List UInt8} {e : Int} (h : rdX r e = 0) : e = 0 ∧ r = [] := by
  unfold rdX at h
  split at h
  · cases h
  · rename_i h1
    refine ⟨h, ?_⟩
    cases r with
    | nil => rfl
    | cons a r => exact absurd ⟨h, by simp <;> omega⟩ h1
theorem rdX_nil : rdX [] 0 = 0 := rfl
end Go.Proofs.Ytdclfhahcfefeaa.Q
namespace Go.Proofs.Ytdclfhahcfefeaa.Q
set_option linter.unusedVariables false
set_option linter.unusedSimpArgs false
set_option maxRecDepth 100000

/-! ### Snapshots -/

def packB (h : Int) (d s : List UInt8) : List UInt8 := intB h ++ bytesB d ++ bytesB s
def uD (M : Int) (b : List UInt8) : List UInt8 := rdY (rdR b 0 8 0) (rdE b 0 8 0) M
def uR2 (M : Int) (b : List UInt8) : List UInt8 := rdYR (rdR b 0 8 0) (rdE b 0 8 0) M
def uE2 (M : Int) (b : List UInt8) : Int := rdYE (rdR b 0 8 0) (rdE b 0 8 0) M
def uS (M : Int) (b : List UInt8) : List UInt8 := rdY (uR2 M b) (uE2 M b) M
def uR3 (M : Int) (b : List UInt8) : List UInt8 := rdYR (uR2 M b) (uE2 M b) M
def uE3 (M : Int) (b : List UInt8) : Int := rdYE (uR2 M b) (uE2 M b) M
def okU (M : Int) (b : List UInt8) : Prop := rdX (uR3 M b) (uE3 M b) = 0 ∧ 0 ≤ rdI b 0 ∧ rdI b 0 ≤ 1099511627776
instance (M : Int) (b : List UInt8) : Decidable (okU M b) := inferInstanceAs (Decidable (_ ∧ _ ∧ _))
def unH (M : Int) (b : List UInt8) : Int := if okU M b then rdI b 0 else 0
def unD (M : Int) (b : List UInt8) : List UInt8 := if okU M b then uD M b else []
def unS (M : Int) (b : List UInt8) : List UInt8 := if okU M b then uS M b else []
def unE (M : Int) (b : List UInt8) : Int := if okU M b then 0 else 12
theorem pack_len (h : Int) (d s : List UInt8) : (packB h d s).length = 16 + d.length + s.length := by
  simp only [packB, List.length_append, int_len, bytes_len]; omega
theorem u_lens (M : Int) (b : List UInt8) : (rdR b 0 8 0).length ≤ b.length ∧ (uR2 M b).length ≤ b.length ∧ (uR3 M b).length ≤ b.length ∧ (uD M b).length ≤ b.length ∧ (uS M b).length ≤ b.length := by
  have h1 := rdR_len b 0 8 0
  have h2 : (uR2 M b).length ≤ b.length := Nat.le_trans (rdYR_len _ _ _) h1
  exact ⟨h1, h2, Nat.le_trans (rdYR_len _ _ _) h2, Nat.le_trans (rdY_len _ _ _) h1, Nat.le_trans (rdY_len _ _ _) h2⟩
theorem lim_big {rest : List UInt8} {M : Int} (hM : ((rest.length : Nat) : Int) ≤ M) (h : numL (rest.take 4) ≤ (rest.drop 4).length) : limE M (rest.take 4) = 0 := by
  unfold limE
  rw [List.length_drop] at h
  rw [if_neg (by omega)]
theorem okY_any {rest : List UInt8} {e M M' : Int} (hM : ((rest.length : Nat) : Int) ≤ M) (hM' : ((rest.length : Nat) : Int) ≤ M') (h : okY rest e M) : okY rest e M' := by
  obtain ⟨h1, h2⟩ := h
  exact ⟨⟨h1.1, h1.2.1, lim_big hM' h2⟩, h2⟩
theorem rdYE_ok {rest : List UInt8} {e M : Int} : rdYE rest e M = 0 ↔ okY rest e M := by
  unfold rdYE okY
  constructor
  · intro h
    split at h
    · rename_i h1
      split at h
      · rename_i h2; exact ⟨h1, h2⟩
      · cases h
    · rename_i h1; exact absurd h (rdE_no h1)
  · rintro ⟨h1, h2⟩
    rw [if_pos h1, if_pos h2]
theorem rdY_any {rest : List UInt8} {e M M' : Int} (hM : ((rest.length : Nat) : Int) ≤ M) (hM' : ((rest.length : Nat) : Int) ≤ M') (h : rdYE rest e M = 0) : rdYE rest e M' = 0 ∧ rdY rest e M' = rdY rest e M ∧ rdYR rest e M' = rdYR rest e M := by
  have h1 := rdYE_ok.1 h
  have h2 := okY_any hM hM' h1
  exact ⟨rdYE_ok.2 h2, by rw [rdY, rdY, if_pos h1, if_pos h2], by rw [rdYR, rdYR, if_pos h1, if_pos h2]⟩
theorem okU_any {b : List UInt8} {M M' : Int} (hM : ((b.length : Nat) : Int) ≤ M) (hM' : ((b.length : Nat) : Int) ≤ M') (h : okU M b) : okU M' b ∧ uD M' b = uD M b ∧ uS M' b = uS M b := by
  obtain ⟨h1, h2⟩ := h
  obtain ⟨x1, x2⟩ := rdX_ok h1
  have l1 := rdR_len b 0 8 0
  have l2 := (u_lens M b).2.1
  have e2 : uE2 M b = 0 := (rdYE_ok.1 x1).1.1
  obtain ⟨a1, a2, a3⟩ := rdY_any (M' := M') (show (((rdR b 0 8 0).length : Nat) : Int) ≤ M by omega) (by omega) e2
  have a1' : uE2 M' b = uE2 M b := a1.trans e2.symm
  have a3' : uR2 M' b = uR2 M b := a3
  obtain ⟨b1, b2, b3⟩ := rdY_any (M' := M') (show (((uR2 M b).length : Nat) : Int) ≤ M by omega) (by omega) x1
  refine ⟨⟨?_, h2⟩, a2, by unfold uS; rw [a1', a3']; exact b2⟩
  unfold uR3 uE3
  rw [a1', a3', b3]
  show rdX (uR3 M b) (rdYE (uR2 M b) (uE2 M b) M') = 0
  rw [b1, ← show uE3 M b = 0 from x1]
  exact h1.trans x1.symm
theorem un_any {b : List UInt8} {M M' : Int} (hM : ((b.length : Nat) : Int) ≤ M) (hM' : ((b.length : Nat) : Int) ≤ M') : unH M b = unH M' b ∧ unD M b = unD M' b ∧ unS M b = unS M' b ∧ unE M b = unE M' b := by
  unfold unH unD unS unE
  by_cases h : okU M b
  · obtain ⟨h1, h2, h3⟩ := okU_any hM hM' h
    rw [if_pos h, if_pos h, if_pos h, if_pos h, if_pos h1, if_pos h1, if_pos h1, if_pos h1, h2, h3]
    exact ⟨rfl, rfl, rfl, rfl⟩
  · have h1 : ¬ okU M' b := fun h' => h (okU_any hM' hM h').1
    rw [if_neg h, if_neg h, if_neg h, if_neg h, if_neg h1, if_neg h1, if_neg h1, if_neg h1]
    exact ⟨rfl, rfl, rfl, rfl⟩
theorem un_pack {h : Int} {d s : List UInt8} {M : Int} (hh : i64R h) (hd : d.length ≤ 1000000) (hs : s.length ≤ 1000000) (hM : (((packB h d s).length : Nat) : Int) ≤ M) :
    rdI (packB h d s) 0 = h ∧ uD M (packB h d s) = d ∧ uS M (packB h d s) = s ∧ uR3 M (packB h d s) = [] ∧ uE3 M (packB h d s) = 0 := by
  have hl := pack_len h d s
  have hx : packB h d s = intB h ++ (bytesB d ++ (bytesB s ++ [])) := by simp [packB, List.append_assoc]
  generalize packB h d s = x at hx hl hM ⊢
  obtain ⟨a1, a2, a3⟩ := back_intX hh (bytesB d ++ (bytesB s ++ []))
  obtain ⟨b1, b2, b3⟩ := back_bytesM (most := M) (x := d) (by omega) (bytesB s ++ []) (by omega)
  obtain ⟨c1, c2, c3⟩ := back_bytesM (most := M) (x := s) (by omega) [] (by omega)
  have e1 : uR2 M x = bytesB s ++ [] := by unfold uR2; rw [hx, a2, a3]; exact b2
  have e2 : uE2 M x = 0 := by unfold uE2; rw [hx, a2, a3]; exact b3
  refine ⟨by rw [hx]; exact a1, by unfold uD; rw [hx, a2, a3]; exact b1, by unfold uS; rw [e1, e2]; exact c1, by unfold uR3; rw [e1, e2]; exact c2, by unfold uE3; rw [e1, e2]; exact c3⟩
theorem un_ok {h : Int} {d s : List UInt8} {M : Int} (hh : i64R h) (hd : d.length ≤ 1000000) (hs : s.length ≤ 1000000) (hM : (((packB h d s).length : Nat) : Int) ≤ M) :
    (unE M (packB h d s) = 0 ↔ 0 ≤ h ∧ h ≤ 1099511627776) ∧ (unE M (packB h d s) = 0 → unH M (packB h d s) = h ∧ unD M (packB h d s) = d ∧ unS M (packB h d s) = s) := by
  obtain ⟨a1, a2, a3, a4, a5⟩ := un_pack hh hd hs hM
  have hk : okU M (packB h d s) ↔ 0 ≤ h ∧ h ≤ 1099511627776 := by
    unfold okU
    rw [a1, a4, a5]
    exact ⟨fun h => h.2, fun h => ⟨rfl, h⟩⟩
  unfold unE unH unD unS
  by_cases h1 : okU M (packB h d s)
  · rw [if_pos h1, if_pos h1, if_pos h1, if_pos h1, a1, a2, a3]
    exact ⟨⟨fun _ => hk.1 h1, fun _ => rfl⟩, fun _ => ⟨rfl, rfl, rfl⟩⟩
  · rw [if_neg h1]
    exact ⟨⟨fun h => (by cases h), fun h => absurd (hk.2 h) h1⟩, fun h => (by cases h)⟩
theorem pack_inj {h h' : Int} {d s d' s' : List UInt8} (hh : i64R h) (hh' : i64R h') (hd : d.length ≤ 1000000) (hs : s.length ≤ 1000000) (hd' : d'.length ≤ 1000000) (hs' : s'.length ≤ 1000000) : packB h d s = packB h' d' s' ↔ h = h' ∧ d = d' ∧ s = s' := by
  constructor
  · intro e
    obtain ⟨a1, a2, a3, _, _⟩ := un_pack (M := (((packB h d s).length : Nat) : Int)) hh hd hs (Int.le_refl _)
    obtain ⟨b1, b2, b3, _, _⟩ := un_pack (M := (((packB h d s).length : Nat) : Int)) hh' hd' hs' (by rw [e]; exact Int.le_refl _)
    rw [e] at a1 a2 a3
    rw [← e] at b1 b2 b3
    rw [e] at b1 b2 b3
    exact ⟨a1.symm.trans b1, a2.symm.trans b2, a3.symm.trans b3⟩
  · rintro ⟨rfl, rfl, rfl⟩; rfl
theorem seal_inj {h h' : Int} {d s d' s' : List UInt8} (hh : i64R h) (hh' : i64R h') (hd : d.length ≤ 5000) (hs : s.length ≤ 5000) (hd' : d'.length ≤ 5000) (hs' : s'.length ≤ 5000) : ofB 7 [packB h d s] = ofB 7 [packB h' d' s'] ↔ h = h' ∧ d = d' ∧ s = s' := by
  have l1 := pack_len h d s
  have l2 := pack_len h' d' s'
  rw [leaf_inj (by omega) (by omega), pack_inj hh hh' (by omega) (by omega) (by omega) (by omega)]
  exact ⟨fun h => h.2, fun h => ⟨rfl, h⟩⟩
end Go.Proofs.Ytdclfhahcfefeaa.Q
namespace Go.Proofs.Ytdclfhahcfefeaa.Q
open Go Go.RowKit
set_option linter.unusedVariables false
set_option linter.unusedSimpArgs false
set_option maxRecDepth 100000
set_option maxHeartbeats 4000000
-- quaestor/ledger.Pack
theorem ledger_Pack (h : Int) (d : List UInt8) (ts : Bool) (ns : Bool) (s : List UInt8) (hd : d.length ≤ 100000000) (hs : s.length ≤ 100000000) : Holds Try.prog 26 ⟨[dv (.int .i64 h), dv (strV d), slV ts ns kU8 s], [], ownV 0 kU8 0 (packB h d s).length, [.live (arrK 5 kU8 (packB h d s))]⟩ := by
  refine Holds.of Try.func26 rfl (N := 14) Try.ntmps26 rfl fun w0 B0 S0 U0 => ?_
  show T _ (mkBase 14 0 w0 S0 U0 B0) ⟨[dv (.int .i64 h), dv (strV d), slV ts ns kU8 s], []⟩ _ _
  have hi := int_len h
  have hb := bytes_len d
  refine T.seq ?_
  refine xR [] (by kernel_rfl) (by kernel_rfl) ?_
  refine nT ?_
  refine T.seq ?_
  refine xR [hR 1 rfl rfl (r_call (wire_PutInt false false ([] : List UInt8) h (by first | assumption | omega | (unfold maxLen; omega) | (simp [maxLen, -List.getD_eq_getElem?_getD] <;> omega) | decide)) Try.func47 rfl (by decide) [0] [] (l := [(.const (.slice none 0 0), dv (.slice none 0 0)), (.tmp 7, dv (.int .i64 h))]) [] rfl 0 1 rfl rfl rfl rfl rfl rfl rfl rfl rfl ⟨.inr (.inr ⟨rfl, rfl, rfl⟩), ⟨.inl ⟨rfl, rfl⟩, trivial⟩⟩ rfl (fun b hb => by cases hb) (.inl rfl) (lt_of rfl) ⟨rfl, trivial⟩),
    hR 3 rfl rfl (r_bytesOf (l := d) Try.underlying29 Try.underlying58 Try.underlying5 (lt_of rfl) trivial),
    hR 4 rfl rfl (r_call (wire_PutBytes true false (([] : List UInt8) ++ intB h) false true d (by first | assumption | omega | (unfold maxLen; omega) | (simp [maxLen, -List.getD_eq_getElem?_getD] <;> omega) | decide)) Try.func46 rfl (by decide) [1] [0] (l := [(.tmp 8, ownV 0 kU8 0 (([] : List UInt8) ++ intB h).length), (.tmp 10, slV false true kU8 d)]) [(0, .live (arrK 5 kU8 (([] : List UInt8) ++ intB h)))] rfl 0 1 rfl rfl rfl rfl rfl rfl rfl rfl rfl ⟨.inr (.inl ⟨rfl, (fun h => by cases h), rfl, rfl, by simp, 5, (([] : List UInt8) ++ intB h).length, elOf kU8 (([] : List UInt8) ++ intB h), List.Mem.head _, by omega, fun i j => by rw [Nat.zero_add]⟩), ⟨.inl ⟨rfl, rfl⟩, trivial⟩⟩ rfl (by intro b hb; simp only [List.mem_cons, List.not_mem_nil, or_false] at hb; rcases hb with rfl; exact ⟨_, List.Mem.head _⟩) (.inr ⟨trivial, (And.intro (arr_nt kU8_nt) trivial)⟩) (lt_of rfl) trivial),
    hR 6 rfl rfl (r_call (wire_PutBytes true false (([] : List UInt8) ++ intB h ++ bytesB d) ts ns s (by first | assumption | omega | (unfold maxLen; omega) | (simp [maxLen, -List.getD_eq_getElem?_getD] <;> omega) | decide)) Try.func46 rfl (by decide) [2] [1] (l := [(.tmp 11, ownV 1 kU8 0 (([] : List UInt8) ++ intB h ++ bytesB d).length), (.tmp 12, slV ts ns kU8 s)]) [(1, .live (arrK 5 kU8 (([] : List UInt8) ++ intB h ++ bytesB d)))] rfl 0 1 rfl rfl rfl rfl rfl rfl rfl rfl rfl ⟨.inr (.inl ⟨rfl, (fun h => by cases h), rfl, rfl, by simp, 5, (([] : List UInt8) ++ intB h ++ bytesB d).length, elOf kU8 (([] : List UInt8) ++ intB h ++ bytesB d), List.Mem.head _, by omega, fun i j => by rw [Nat.zero_add]⟩), ⟨.inl ⟨rfl, rfl⟩, trivial⟩⟩ rfl (by intro b hb; simp only [List.mem_cons, List.not_mem_nil, or_false] at hb; rcases hb with rfl; exact ⟨_, List.Mem.head _⟩) (.inr ⟨trivial, (And.intro (arr_nt kU8_nt) trivial)⟩) (lt_of rfl) trivial)] (by kernel_rfl) (by kernel_rfl) ?_
  refine nT ?_
  refine T.ret ?_
  exact tE (.inl rfl) [.t 6 (.one (.own 2 kU8.sz 0 (([] : List UInt8) ++ intB h ++ bytesB d ++ bytesB s).length))] ⟨⟨rfl, by kernel_rfl⟩, trivial⟩ [2] (by have e1 : ((packB h d s).length : Nat) = (([] : List UInt8) ++ intB h ++ bytesB d ++ bytesB s).length := (by first | rfl | (simp [packB]; done)); have hE := congrArg (fun (q1 : Nat) => (ownV 2 kU8 0 q1 : AV)) e1; exact hE) rfl rfl rfl rfl rfl ⟨⟨rfl, (by have e1 : (([] : List UInt8) ++ intB h ++ bytesB d ++ bytesB s : List UInt8) = packB h d s := (by first | rfl | (simp [packB]; done)); have hE := congrArg (fun (q1 : List UInt8) => (.live (arrK 5 kU8 q1) : HS)) e1; exact Eq.trans (by kernel_rfl) hE)⟩, trivial⟩
end Go.Proofs.Ytdclfhahcfefeaa.Q
namespace Go.Proofs.Ytdclfhahcfefeaa.Q
open Go Go.RowKit
set_option linter.unusedVariables false
set_option linter.unusedSimpArgs false
set_option maxRecDepth 100000
set_option maxHeartbeats 4000000
-- quaestor/ledger.Seal
theorem ledger_Seal (tb : Bool) (nb : Bool) (b : List UInt8) (hb : b.length ≤ 1000000000) : Holds Try.prog 31 ⟨[slV tb nb kU8 b], [], dv (strV (ofB 7 [b])), []⟩ := by
  refine Holds.of Try.func31 rfl (N := 5) Try.ntmps31 rfl fun w0 B0 S0 U0 => ?_
  show T _ (mkBase 5 0 w0 S0 U0 B0) ⟨[slV tb nb kU8 b], []⟩ _ _
  refine T.seq ?_
  refine xR [] (by kernel_rfl) (by kernel_rfl) ?_
  refine nT ?_
  refine T.seq ?_
  refine xR [hR 1 rfl rfl (r_call (term_Leaf (7 : UInt8) tb nb b (by first | assumption | omega | (unfold maxLen; omega) | (simp [maxLen, -List.getD_eq_getElem?_getD] <;> omega) | decide)) Try.func58 rfl (by decide) [] [] (l := [(.const (.int .u8 7), dv (.int .u8 7)), (.tmp 3, slV tb nb kU8 b)]) [] rfl 0 0 rfl rfl rfl rfl rfl rfl rfl rfl rfl ⟨.inl ⟨rfl, rfl⟩, ⟨.inl ⟨rfl, rfl⟩, trivial⟩⟩ rfl (fun b hb => by cases hb) (.inl rfl) (lt_of rfl) ⟨rfl, trivial⟩)] (by kernel_rfl) (by kernel_rfl) ?_
  refine nT ?_
  refine T.ret ?_
  exact tE (.inl rfl) [.t 2 (.one (.d (.val (strV (ofB (7 : UInt8) [b])))))] ⟨⟨rfl, by kernel_rfl⟩, trivial⟩ [] (by have e1 : ((ofB 7 [b]) : List UInt8) = (ofB (7 : UInt8) [b]) := (by first | rfl | (simp; done)); have hE := congrArg (fun (q1 : List UInt8) => (dv (strV q1) : AV)) e1; exact hE) rfl rfl rfl rfl rfl trivial
end Go.Proofs.Ytdclfhahcfefeaa.Q
namespace Go.Proofs.Ytdclfhahcfefeaa.Q
open Go Go.RowKit
set_option linter.unusedVariables false
set_option linter.unusedSimpArgs false
set_option maxRecDepth 100000
set_option maxHeartbeats 4000000
-- quaestor/quaestorref11.Pack
theorem ref11_Pack (h : Int) (d : List UInt8) (ts : Bool) (ns : Bool) (s : List UInt8) (hd : d.length ≤ 100000000) (hs : s.length ≤ 100000000) : Holds Try.prog 30 ⟨[dv (.int .i64 h), dv (strV d), slV ts ns kU8 s], [], ownV 0 kU8 0 (packB h d s).length, [.live (arrK 5 kU8 (packB h d s))]⟩ := by
  refine Holds.of Try.func30 rfl (N := 14) Try.ntmps30 rfl fun w0 B0 S0 U0 => ?_
  show T _ (mkBase 14 0 w0 S0 U0 B0) ⟨[dv (.int .i64 h), dv (strV d), slV ts ns kU8 s], []⟩ _ _
  have hi := int_len h
  have hb := bytes_len d
  refine T.seq ?_
  refine xR [] (by kernel_rfl) (by kernel_rfl) ?_
  refine nT ?_
  refine T.seq ?_
  refine xR [hR 1 rfl rfl (r_call (ref01_Int false false ([] : List UInt8) h (by first | assumption | omega | (unfold maxLen; omega) | (simp [maxLen, -List.getD_eq_getElem?_getD] <;> omega) | decide)) Try.func57 rfl (by decide) [0] [] (l := [(.const (.slice none 0 0), dv (.slice none 0 0)), (.tmp 7, dv (.int .i64 h))]) [] rfl 0 1 rfl rfl rfl rfl rfl rfl rfl rfl rfl ⟨.inr (.inr ⟨rfl, rfl, rfl⟩), ⟨.inl ⟨rfl, rfl⟩, trivial⟩⟩ rfl (fun b hb => by cases hb) (.inl rfl) (lt_of rfl) ⟨rfl, trivial⟩),
    hR 3 rfl rfl (r_bytesOf (l := d) Try.underlying29 Try.underlying58 Try.underlying5 (lt_of rfl) trivial),
    hR 4 rfl rfl (r_call (ref01_Bytes true false (([] : List UInt8) ++ intB h) false true d (by first | assumption | omega | (unfold maxLen; omega) | (simp [maxLen, -List.getD_eq_getElem?_getD] <;> omega) | decide)) Try.func56 rfl (by decide) [1] [0] (l := [(.tmp 8, ownV 0 kU8 0 (([] : List UInt8) ++ intB h).length), (.tmp 10, slV false true kU8 d)]) [(0, .live (arrK 5 kU8 (([] : List UInt8) ++ intB h)))] rfl 0 1 rfl rfl rfl rfl rfl rfl rfl rfl rfl ⟨.inr (.inl ⟨rfl, (fun h => by cases h), rfl, rfl, by simp, 5, (([] : List UInt8) ++ intB h).length, elOf kU8 (([] : List UInt8) ++ intB h), List.Mem.head _, by omega, fun i j => by rw [Nat.zero_add]⟩), ⟨.inl ⟨rfl, rfl⟩, trivial⟩⟩ rfl (by intro b hb; simp only [List.mem_cons, List.not_mem_nil, or_false] at hb; rcases hb with rfl; exact ⟨_, List.Mem.head _⟩) (.inr ⟨trivial, (And.intro (arr_nt kU8_nt) trivial)⟩) (lt_of rfl) trivial),
    hR 6 rfl rfl (r_call (ref01_Bytes true false (([] : List UInt8) ++ intB h ++ bytesB d) ts ns s (by first | assumption | omega | (unfold maxLen; omega) | (simp [maxLen, -List.getD_eq_getElem?_getD] <;> omega) | decide)) Try.func56 rfl (by decide) [2] [1] (l := [(.tmp 11, ownV 1 kU8 0 (([] : List UInt8) ++ intB h ++ bytesB d).length), (.tmp 12, slV ts ns kU8 s)]) [(1, .live (arrK 5 kU8 (([] : List UInt8) ++ intB h ++ bytesB d)))] rfl 0 1 rfl rfl rfl rfl rfl rfl rfl rfl rfl ⟨.inr (.inl ⟨rfl, (fun h => by cases h), rfl, rfl, by simp, 5, (([] : List UInt8) ++ intB h ++ bytesB d).length, elOf kU8 (([] : List UInt8) ++ intB h ++ bytesB d), List.Mem.head _, by omega, fun i j => by rw [Nat.zero_add]⟩), ⟨.inl ⟨rfl, rfl⟩, trivial⟩⟩ rfl (by intro b hb; simp only [List.mem_cons, List.not_mem_nil, or_false] at hb; rcases hb with rfl; exact ⟨_, List.Mem.head _⟩) (.inr ⟨trivial, (And.intro (arr_nt kU8_nt) trivial)⟩) (lt_of rfl) trivial)] (by kernel_rfl) (by kernel_rfl) ?_
  refine nT ?_
  refine T.ret ?_
  exact tE (.inl rfl) [.t 6 (.one (.own 2 kU8.sz 0 (([] : List UInt8) ++ intB h ++ bytesB d ++ bytesB s).length))] ⟨⟨rfl, by kernel_rfl⟩, trivial⟩ [2] (by have e1 : ((packB h d s).length : Nat) = (([] : List UInt8) ++ intB h ++ bytesB d ++ bytesB s).length := (by first | rfl | (simp [packB]; done)); have hE := congrArg (fun (q1 : Nat) => (ownV 2 kU8 0 q1 : AV)) e1; exact hE) rfl rfl rfl rfl rfl ⟨⟨rfl, (by have e1 : (([] : List UInt8) ++ intB h ++ bytesB d ++ bytesB s : List UInt8) = packB h d s := (by first | rfl | (simp [packB]; done)); have hE := congrArg (fun (q1 : List UInt8) => (.live (arrK 5 kU8 q1) : HS)) e1; exact Eq.trans (by kernel_rfl) hE)⟩, trivial⟩
end Go.Proofs.Ytdclfhahcfefeaa.Q
namespace Go.Proofs.Ytdclfhahcfefeaa.Q
open Go Go.RowKit
set_option linter.unusedVariables false
set_option linter.unusedSimpArgs false
set_option maxRecDepth 100000
set_option maxHeartbeats 4000000
-- quaestor/quaestorref11.Seal
theorem ref11_Seal (tb : Bool) (nb : Bool) (b : List UInt8) (hb : b.length ≤ 1000000000) : Holds Try.prog 32 ⟨[slV tb nb kU8 b], [], dv (strV (ofB 7 [b])), []⟩ := by
  refine Holds.of Try.func32 rfl (N := 5) Try.ntmps32 rfl fun w0 B0 S0 U0 => ?_
  show T _ (mkBase 5 0 w0 S0 U0 B0) ⟨[slV tb nb kU8 b], []⟩ _ _
  refine T.seq ?_
  refine xR [] (by kernel_rfl) (by kernel_rfl) ?_
  refine nT ?_
  refine T.seq ?_
  refine xR [hR 1 rfl rfl (r_call (ref02_Leaf (7 : UInt8) tb nb b (by first | assumption | omega | (unfold maxLen; omega) | (simp [maxLen, -List.getD_eq_getElem?_getD] <;> omega) | decide)) Try.func59 rfl (by decide) [] [] (l := [(.const (.int .u8 7), dv (.int .u8 7)), (.tmp 3, slV tb nb kU8 b)]) [] rfl 0 0 rfl rfl rfl rfl rfl rfl rfl rfl rfl ⟨.inl ⟨rfl, rfl⟩, ⟨.inl ⟨rfl, rfl⟩, trivial⟩⟩ rfl (fun b hb => by cases hb) (.inl rfl) (lt_of rfl) ⟨rfl, trivial⟩)] (by kernel_rfl) (by kernel_rfl) ?_
  refine nT ?_
  refine T.ret ?_
  exact tE (.inl rfl) [.t 2 (.one (.d (.val (strV (ofB (7 : UInt8) [b])))))] ⟨⟨rfl, by kernel_rfl⟩, trivial⟩ [] (by have e1 : ((ofB 7 [b]) : List UInt8) = (ofB (7 : UInt8) [b]) := (by first | rfl | (simp; done)); have hE := congrArg (fun (q1 : List UInt8) => (dv (strV q1) : AV)) e1; exact hE) rfl rfl rfl rfl rfl trivial
end Go.Proofs.Ytdclfhahcfefeaa.Q
