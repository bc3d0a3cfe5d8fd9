import Derived.Test.YtafkobdlcahdbaaC01n8
namespace Go.Proofs.Ytafkobdlcahdbaa.Q
open Go Go.RowKit
set_option linter.unusedVariables false
set_option linter.unusedSimpArgs false
set_option maxRecDepth 100000
set_option maxHeartbeats 4000000
-- (*quaestor/wire.Reader).Left
theorem rd_Left (rest : List UInt8) (e : Int) : Holds Try.prog 15 ⟨[pv 0 0], [.box 37 [.d (dsl false false kU8 rest), .d (.val (.int .i64 e))]], dv (.int .i64 ((rest.length : Nat) : Int)), [.live (.box 37 [.d (dsl false false kU8 rest), .d (.val (.int .i64 e))])]⟩ := by
  refine Holds.of Try.func15 rfl (N := 10) Try.ntmps15 rfl fun w0 B0 S0 U0 => ?_
  show T _ (mkBase 10 1 w0 S0 U0 B0) ⟨[pv 0 0], [.live (.box 37 [.d (dsl false false kU8 rest), .d (.val (.int .i64 e))])]⟩ _ _
  refine T.seq ?_
  refine tR (s1 := ⟨[pv 0 0, AV.any, dv (.int .i64 0)], [.live (.box 37 [.d (dsl false false kU8 rest), .d (.val (.int .i64 e))])]⟩) [true, false, true] [true]
    (oC (oS rfl rfl (r_assign (av := dv (.int .i64 0)) (lt_of rfl) ⟨rfl, trivial⟩)) (oZ rfl))
    (by kernel_rfl) (by kernel_rfl) ?_
  refine nT ?_
  refine T.seq ?_
  refine T.seq ?_
  refine tR (s1 := ⟨[pv 0 0, AV.any, dv (.int .i64 0), AV.any, dv (.bool false)], [.live (.box 37 [.d (dsl false false kU8 rest), .d (.val (.int .i64 e))])]⟩) [true, false, true, false, true] [true]
    (oC (oS rfl rfl (r_move (av := pv 0 0) (lt_of rfl) trivial))
    (oC (oS rfl rfl (r_eqNilP (av := pv 0 0) Try.underlying34 rfl (lt_of rfl) ⟨rfl, trivial⟩)) (oZ rfl)))
    (by kernel_rfl) (by kernel_rfl) ?_
  refine nT ?_
  refine T.condF (b := false) rfl rfl ?_
  refine T.skip ?_
  refine nT ?_
  refine T.seq ?_
  refine tR (s1 := ⟨[pv 0 0, AV.any, dv (.int .i64 ((rest.length : Nat) : Int)), AV.any, dv (.bool false)], [.live (.box 37 [.d (dsl false false kU8 rest), .d (.val (.int .i64 e))])]⟩) [true, false, true, false, true] [true]
    (oC (oS rfl rfl (r_move (av := pv 0 0) (lt_of rfl) trivial))
    (oC (oS rfl rfl (r_nilCheck (av := pv 0 0) rfl (lt_of rfl) trivial))
    (oC (oS rfl rfl (r_fieldAddr (l := 0) (off := 0) fld_37_0 (lt_of rfl) trivial))
    (oC (oS rfl rfl (r_loadB (l := 0) (off := 0) (T := 37) (cs := [.d (dsl false false kU8 rest), .d (.val (.int .i64 e))]) (c := .d (dsl false false kU8 rest)) wide_24 rfl (lt_of rfl) trivial))
    (oC (oS rfl rfl (q_len false false kU8 rest Try.underlying24 (lt_of rfl) trivial))
    (oC (oS rfl rfl (r_assign (av := dv (.int .i64 ((rest.length : Nat) : Int))) (lt_of rfl) trivial)) (oZ rfl)))))))
    (by kernel_rfl) (by kernel_rfl) ?_
  refine nT ?_
  refine T.ret ?_
  exact tE (.inl rfl) [.t 2 (.one (.d (.val (.int .i64 ((rest.length : Nat) : Int)))))] ⟨⟨rfl, rfl⟩, trivial⟩ [0] rfl rfl rfl rfl rfl rfl ⟨⟨rfl, rfl⟩, trivial⟩

-- (*quaestor/wire.Reader).Err
theorem rd_Err (rest : List UInt8) (e : Int) : Holds Try.prog 13 ⟨[pv 0 0], [.box 37 [.d (dsl false false kU8 rest), .d (.val (.int .i64 e))]], dv (.int .i64 e), [.live (.box 37 [.d (dsl false false kU8 rest), .d (.val (.int .i64 e))])]⟩ := by
  refine Holds.of Try.func13 rfl (N := 9) Try.ntmps13 rfl fun w0 B0 S0 U0 => ?_
  show T _ (mkBase 9 1 w0 S0 U0 B0) ⟨[pv 0 0], [.live (.box 37 [.d (dsl false false kU8 rest), .d (.val (.int .i64 e))])]⟩ _ _
  refine T.seq ?_
  refine tR (s1 := ⟨[pv 0 0, AV.any, dv (.int .i64 0)], [.live (.box 37 [.d (dsl false false kU8 rest), .d (.val (.int .i64 e))])]⟩) [true, false, true] [true]
    (oC (oS rfl rfl (r_assign (av := dv (.int .i64 0)) (lt_of rfl) ⟨rfl, trivial⟩)) (oZ rfl))
    (by kernel_rfl) (by kernel_rfl) ?_
  refine nT ?_
  refine T.seq ?_
  refine T.seq ?_
  refine tR (s1 := ⟨[pv 0 0, AV.any, dv (.int .i64 0), AV.any, dv (.bool false)], [.live (.box 37 [.d (dsl false false kU8 rest), .d (.val (.int .i64 e))])]⟩) [true, false, true, false, true] [true]
    (oC (oS rfl rfl (r_move (av := pv 0 0) (lt_of rfl) trivial))
    (oC (oS rfl rfl (r_eqNilP (av := pv 0 0) Try.underlying34 rfl (lt_of rfl) ⟨rfl, trivial⟩)) (oZ rfl)))
    (by kernel_rfl) (by kernel_rfl) ?_
  refine nT ?_
  refine T.condF (b := false) rfl rfl ?_
  refine T.skip ?_
  refine nT ?_
  refine T.seq ?_
  refine tR (s1 := ⟨[pv 0 0, AV.any, dv (.int .i64 e), AV.any, dv (.bool false)], [.live (.box 37 [.d (dsl false false kU8 rest), .d (.val (.int .i64 e))])]⟩) [true, false, true, false, true] [true]
    (oC (oS rfl rfl (r_move (av := pv 0 0) (lt_of rfl) trivial))
    (oC (oS rfl rfl (r_nilCheck (av := pv 0 0) rfl (lt_of rfl) trivial))
    (oC (oS rfl rfl (r_fieldAddr (l := 0) (off := 0) fld_37_1 (lt_of rfl) trivial))
    (oC (oS rfl rfl (r_loadB (l := 0) (off := 1) (T := 37) (cs := [.d (dsl false false kU8 rest), .d (.val (.int .i64 e))]) (c := .d (.val (.int .i64 e))) wide_35 rfl (lt_of rfl) trivial))
    (oC (oS rfl rfl (r_assign (av := dv (.int .i64 e)) (lt_of rfl) trivial)) (oZ rfl))))))
    (by kernel_rfl) (by kernel_rfl) ?_
  refine nT ?_
  refine T.ret ?_
  exact tE (.inl rfl) [.t 2 (.one (.d (.val (.int .i64 e))))] ⟨⟨rfl, rfl⟩, trivial⟩ [0] rfl rfl rfl rfl rfl rfl ⟨⟨rfl, rfl⟩, trivial⟩

-- (*quaestor/wire.Reader).Bytes
theorem rd_Bytes (rest : List UInt8) (e : Int) (most : Int) (hr : rest.length ≤ 140737488355328) : Holds Try.prog 20 ⟨[pv 0 0, dv (.int .i64 most)], [.box 37 [.d (dsl false false kU8 rest), .d (.val (.int .i64 e))]], ownV 1 kU8 0 (rdY rest e most).length, [.live (.box 37 [.d (dsl false false kU8 (rdYR rest e most)), .d (.val (.int .i64 (rdYE rest e most)))]), .live (arrK 5 kU8 (rdY rest e most))]⟩ := by
  refine Holds.of Try.func20 rfl (N := 36) Try.ntmps20 rfl fun w0 B0 S0 U0 => ?_
  show T _ (mkBase 36 1 w0 S0 U0 B0) ⟨[pv 0 0, dv (.int .i64 most)], [.live (.box 37 [.d (dsl false false kU8 rest), .d (.val (.int .i64 e))])]⟩ _ _
  have hrc := rdC_lt rest e most
  have hrl := rdR_len rest e 4 (limE most (rest.take 4))
  refine T.seq ?_
  refine tR (s1 := ⟨[pv 0 0, dv (.int .i64 most), AV.any, AV.any, dv (.slice none 0 0)], [.live (.box 37 [.d (dsl false false kU8 rest), .d (.val (.int .i64 e))])]⟩) [true, true, false, false, true] [true]
    (oC (oS rfl rfl (r_assign (av := dv (.slice none 0 0)) (lt_of rfl) ⟨rfl, trivial⟩)) (oZ rfl))
    (by kernel_rfl) (by kernel_rfl) ?_
  refine nT ?_
  refine T.seq ?_
  refine T.seq ?_
  refine tR (s1 := ⟨[pv 0 0, dv (.int .i64 most), AV.any, AV.any, dv (.slice none 0 0), AV.any, AV.any, AV.any, AV.any, dv (.bool false)], [.live (.box 37 [.d (dsl false false kU8 rest), .d (.val (.int .i64 e))])]⟩) [true, true, false, false, true, false, false, false, false, true] [true]
    (oC (oS rfl rfl (r_move (av := pv 0 0) (lt_of rfl) trivial))
    (oC (oS rfl rfl (r_eqNilP (av := pv 0 0) Try.underlying34 rfl (lt_of rfl) ⟨rfl, trivial⟩)) (oZ rfl)))
    (by kernel_rfl) (by kernel_rfl) ?_
  refine nT ?_
  refine T.condF (b := false) rfl rfl ?_
  refine T.skip ?_
  refine nT ?_
  refine T.seq ?_
  refine tR (s1 := ⟨[pv 0 0, dv (.int .i64 most), AV.any, AV.any, dv (.slice none 0 0), slV false false kU8 rest, AV.any, AV.any, AV.any, dv (.bool false)], [.live (.box 37 [.d (dsl false false kU8 rest), .d (.val (.int .i64 e))])]⟩) [true, true, false, false, true, true, false, false, false, true] [true]
    (oC (oS rfl rfl (r_move (av := pv 0 0) (lt_of rfl) trivial))
    (oC (oS rfl rfl (r_nilCheck (av := pv 0 0) rfl (lt_of rfl) trivial))
    (oC (oS rfl rfl (r_fieldAddr (l := 0) (off := 0) fld_37_0 (lt_of rfl) trivial))
    (oC (oS rfl rfl (r_loadB (l := 0) (off := 0) (T := 37) (cs := [.d (dsl false false kU8 rest), .d (.val (.int .i64 e))]) (c := .d (dsl false false kU8 rest)) wide_24 rfl (lt_of rfl) trivial))
    (oC (oS rfl rfl (r_assign (av := slV false false kU8 rest) (lt_of rfl) trivial)) (oZ rfl))))))
    (by kernel_rfl) (by kernel_rfl) ?_
  refine nT ?_
  refine T.seq ?_
  refine tR (s1 := ⟨[pv 0 0, dv (.int .i64 most), AV.any, AV.any, dv (.slice none 0 0), slV false false kU8 rest, dv (.int .i64 ((rdC rest e most : Nat) : Int)), AV.any, AV.any, dv (.bool false)], [.live (.box 37 [.d (dsl false false kU8 (rdR rest e 4 (limE most (rest.take 4)))), .d (.val (.int .i64 (rdE rest e 4 (limE most (rest.take 4)))))])]⟩) [true, true, false, false, true, true, true, false, false, true] [true]
    (oC (oS rfl rfl (r_move (av := pv 0 0) (lt_of rfl) trivial))
    (oC (oS rfl rfl (r_move (av := dv (.int .i64 most)) (lt_of rfl) trivial))
    (oC (oS rfl rfl (r_call (rd_Count rest e most (by first | assumption | omega | (simp only [maxLen, kU8_sz, kSl_sz, k_quaestorlaw01_Item_sz]; omega) | (simp only [maxLen, kU8_sz, kSl_sz, k_quaestorlaw01_Item_sz, List.length_append, List.length_cons, List.length_nil, List.length_take, List.length_drop, List.length_set]; omega) | decide)) Try.func19 rfl (by decide) [0] [] (l := [(.tmp 14, pv 0 0), (.tmp 15, dv (.int .i64 most))]) [] rfl 1 1 rfl rfl rfl rfl rfl rfl rfl rfl rfl ⟨.inl ⟨rfl, rfl⟩, ⟨.inl ⟨rfl, rfl⟩, trivial⟩⟩ rfl (fun b hb => by cases hb) (.inl rfl) (lt_of rfl) trivial))
    (oC (oS rfl rfl (r_assign (av := dv (.int .i64 ((rdC rest e most : Nat) : Int))) (lt_of rfl) trivial)) (oZ rfl)))))
    (by kernel_rfl) (by kernel_rfl) ?_
  refine nT ?_
  refine T.seq ?_
  refine T.seq ?_
  refine tR (s1 := ⟨[pv 0 0, dv (.int .i64 most), AV.any, AV.any, dv (.slice none 0 0), slV false false kU8 rest, dv (.int .i64 ((rdC rest e most : Nat) : Int)), AV.any, AV.any, dv (.bool false), AV.any, AV.any, AV.any, AV.any, AV.any, AV.any, AV.any, AV.any, AV.any, AV.any, AV.any, dv (.bool (decide ((rdE rest e 4 (limE most (rest.take 4))) ≠ 0)))], [.live (.box 37 [.d (dsl false false kU8 (rdR rest e 4 (limE most (rest.take 4)))), .d (.val (.int .i64 (rdE rest e 4 (limE most (rest.take 4)))))])]⟩) [true, true, false, false, true, true, true, false, false, true, false, false, false, false, false, false, false, false, false, false, false, true] [true]
    (oC (oS rfl rfl (r_move (av := pv 0 0) (lt_of rfl) trivial))
    (oC (oS rfl rfl (r_nilCheck (av := pv 0 0) rfl (lt_of rfl) trivial))
    (oC (oS rfl rfl (r_fieldAddr (l := 0) (off := 0) fld_37_1 (lt_of rfl) trivial))
    (oC (oS rfl rfl (r_loadB (l := 0) (off := 1) (T := 37) (cs := [.d (dsl false false kU8 (rdR rest e 4 (limE most (rest.take 4)))), .d (.val (.int .i64 (rdE rest e 4 (limE most (rest.take 4)))))]) (c := .d (.val (.int .i64 (rdE rest e 4 (limE most (rest.take 4)))))) wide_35 rfl (lt_of rfl) trivial))
    (oC (oS rfl rfl (r_bin (u1 := .int .i64 (rdE rest e 4 (limE most (rest.take 4)))) (u2 := .int .i64 0) (v := .bool (decide ((rdE rest e 4 (limE most (rest.take 4))) ≠ 0))) b_neq (lt_of rfl) ⟨rfl, trivial⟩)) (oZ rfl))))))
    (by kernel_rfl) (by kernel_rfl) ?_
  refine nT ?_
  by_cases hq1 : (rdE rest e 4 (limE most (rest.take 4))) ≠ 0
  · have hy := rdY_fail hq1
    refine T.condT (b := (decide ((rdE rest e 4 (limE most (rest.take 4))) ≠ 0))) rfl (decide_eq_true hq1) ?_
    refine T.seq ?_
    refine tR (s1 := ⟨[pv 0 0, dv (.int .i64 most), AV.any, AV.any, dv (.slice none 0 0), slV false false kU8 rest, dv (.int .i64 ((rdC rest e most : Nat) : Int)), AV.any, AV.any, dv (.bool false), AV.any, AV.any, AV.any, AV.any, AV.any, AV.any, AV.any, AV.any, AV.any, AV.any, AV.any, dv (.bool (decide ((rdE rest e 4 (limE most (rest.take 4))) ≠ 0)))], [.live (.box 37 [.d (dsl false false kU8 (rdR rest e 4 (limE most (rest.take 4)))), .d (.val (.int .i64 (rdE rest e 4 (limE most (rest.take 4)))))])]⟩) [true, true, false, false, true, true, true, false, false, true, false, false, false, false, false, false, false, false, false, false, false, true] [true]
      (oC (oS rfl rfl (r_assign (av := dv (.slice none 0 0)) (lt_of rfl) ⟨rfl, trivial⟩)) (oZ rfl))
      (by kernel_rfl) (by kernel_rfl) ?_
    refine nT ?_
    refine T.ret ?_
    refine rT ?_
    refine Ends.turn (s' := ⟨[pv 0 0, dv (.int .i64 most), AV.any, AV.any, ownV 1 kU8 0 0, slV false false kU8 rest, dv (.int .i64 ((rdC rest e most : Nat) : Int)), AV.any, AV.any, dv (.bool false), AV.any, AV.any, AV.any, AV.any, AV.any, AV.any, AV.any, AV.any, AV.any, AV.any, AV.any, dv (.bool (decide ((rdE rest e 4 (limE most (rest.take 4))) ≠ 0)))], [.live (.box 37 [.d (dsl false false kU8 (rdR rest e 4 (limE most (rest.take 4)))), .d (.val (.int .i64 (rdE rest e 4 (limE most (rest.take 4)))))]), .live (arrK 5 kU8 ([] : List UInt8))]⟩) (fun _ _ hG => Gs.absent 1 4 5 kU8 rfl rfl hG) ?_
    exact tE (.inl rfl) [.t 4 (.one (.own 1 kU8.sz 0 0))] ⟨⟨rfl, rfl⟩, trivial⟩ [0, 1] (by have e1 : ((rdY rest e most).length : Nat) = 0 := (by first | rfl | (rw [hy.1]; done) | (rw [hy.1]; rfl) | (rw [hy.2.1]; first | done | rfl) | (rw [hy.2.1, hy.2.2.2]) | (rw [hy.2.2]; first | done | rfl) | (rw [hy.2.2.1]; first | done | rfl) | exact hy.1 | exact hy.1.symm | exact hy.2.1 | exact hy.2.1.symm | exact hy.2.1.trans hy.2.2.2.symm); have hE := congrArg (fun (q1 : Nat) => (ownV 1 kU8 0 q1 : AV)) e1; exact hE) rfl rfl rfl rfl rfl ⟨⟨rfl, (by have e1 : ((rdR rest e 4 (limE most (rest.take 4))) : List UInt8) = (rdYR rest e most) := (by first | rfl | (rw [hy.1]; done) | (rw [hy.1]; rfl) | (rw [hy.2.1]; first | done | rfl) | (rw [hy.2.1, hy.2.2.2]) | (rw [hy.2.2]; first | done | rfl) | (rw [hy.2.2.1]; first | done | rfl) | exact hy.1 | exact hy.1.symm | exact hy.2.1 | exact hy.2.1.symm | exact hy.2.1.trans hy.2.2.2.symm); have e2 : ((rdE rest e 4 (limE most (rest.take 4))) : Int) = (rdYE rest e most) := (by first | rfl | (rw [hy.1]; done) | (rw [hy.1]; rfl) | (rw [hy.2.1]; first | done | rfl) | (rw [hy.2.1, hy.2.2.2]) | (rw [hy.2.2]; first | done | rfl) | (rw [hy.2.2.1]; first | done | rfl) | exact hy.1 | exact hy.1.symm | exact hy.2.1 | exact hy.2.1.symm | exact hy.2.1.trans hy.2.2.2.symm); have hE := congr (congrArg (fun (q1 : List UInt8) (q2 : Int) => (.live (.box 37 [.d (dsl false false kU8 q1), .d (.val (.int .i64 q2))]) : HS)) e1) e2; exact hE)⟩, ⟨⟨rfl, (by have e1 : (([] : List UInt8) : List UInt8) = (rdY rest e most) := (by first | rfl | (rw [hy.1]; done) | (rw [hy.1]; rfl) | (rw [hy.2.1]; first | done | rfl) | (rw [hy.2.1, hy.2.2.2]) | (rw [hy.2.2]; first | done | rfl) | (rw [hy.2.2.1]; first | done | rfl) | exact hy.1 | exact hy.1.symm | exact hy.2.1 | exact hy.2.1.symm | exact hy.2.1.trans hy.2.2.2.symm); have hE := congrArg (fun (q1 : List UInt8) => (.live (arrK 5 kU8 q1) : HS)) e1; exact hE)⟩, trivial⟩⟩
  · have hz := Classical.not_not.1 hq1
    refine T.condF (b := (decide ((rdE rest e 4 (limE most (rest.take 4))) ≠ 0))) rfl (decide_eq_false hq1) ?_
    refine T.skip ?_
    refine nT ?_
    refine T.seq ?_
    by_cases hq2 : okT (rdR rest e 4 (limE most (rest.take 4))) (rdE rest e 4 (limE most (rest.take 4))) ((rdC rest e most : Nat) : Int) 0
    · have hy := rdY_ok hz hq2
      refine tR (s1 := ⟨[pv 0 0, dv (.int .i64 most), AV.any, AV.any, dv (.slice none 0 0), slV false false kU8 rest, dv (.int .i64 ((rdC rest e most : Nat) : Int)), slV false false kU8 ((rdR rest e 4 (limE most (rest.take 4))).take ((rdC rest e most : Nat) : Int).toNat), AV.any, dv (.bool false), AV.any, AV.any, AV.any, AV.any, AV.any, AV.any, AV.any, AV.any, AV.any, AV.any, AV.any, dv (.bool (decide ((rdE rest e 4 (limE most (rest.take 4))) ≠ 0)))], [.live (.box 37 [.d (dsl false false kU8 ((rdR rest e 4 (limE most (rest.take 4))).drop ((rdC rest e most : Nat) : Int).toNat)), .d (.val (.int .i64 0))])]⟩) [true, true, false, false, true, true, true, true, false, true, false, false, false, false, false, false, false, false, false, false, false, true] [true]
        (oC (oS rfl rfl (r_move (av := pv 0 0) (lt_of rfl) trivial))
        (oC (oS rfl rfl (r_move (av := dv (.int .i64 ((rdC rest e most : Nat) : Int))) (lt_of rfl) trivial))
        (oC (oS rfl rfl (r_call (take_any_ok (rdR rest e 4 (limE most (rest.take 4))) (rdE rest e 4 (limE most (rest.take 4))) ((rdC rest e most : Nat) : Int) (by first | assumption | omega | (simp only [maxLen, kU8_sz, kSl_sz, k_quaestorlaw01_Item_sz]; omega) | (simp only [maxLen, kU8_sz, kSl_sz, k_quaestorlaw01_Item_sz, List.length_append, List.length_cons, List.length_nil, List.length_take, List.length_drop, List.length_set]; omega) | decide) (by first | assumption | omega | (simp only [maxLen, kU8_sz, kSl_sz, k_quaestorlaw01_Item_sz]; omega) | (simp only [maxLen, kU8_sz, kSl_sz, k_quaestorlaw01_Item_sz, List.length_append, List.length_cons, List.length_nil, List.length_take, List.length_drop, List.length_set]; omega) | decide) (by first | assumption | omega | (simp only [maxLen, kU8_sz, kSl_sz, k_quaestorlaw01_Item_sz]; omega) | (simp only [maxLen, kU8_sz, kSl_sz, k_quaestorlaw01_Item_sz, List.length_append, List.length_cons, List.length_nil, List.length_take, List.length_drop, List.length_set]; omega) | decide)) Try.func40 rfl (by decide) [0] [] (l := [(.tmp 22, pv 0 0), (.tmp 23, dv (.int .i64 ((rdC rest e most : Nat) : Int))), (.func 41, dv (.func (.func 41) #[] #[]))]) [] rfl 1 1 rfl rfl rfl rfl rfl rfl rfl rfl rfl ⟨.inl ⟨rfl, rfl⟩, ⟨.inl ⟨rfl, rfl⟩, ⟨.inl ⟨rfl, rfl⟩, trivial⟩⟩⟩ rfl (fun b hb => by cases hb) (.inl rfl) (lt_of rfl) ⟨rfl, trivial⟩))
        (oC (oS rfl rfl (r_assign (av := slV false false kU8 ((rdR rest e 4 (limE most (rest.take 4))).take ((rdC rest e most : Nat) : Int).toNat)) (lt_of rfl) trivial)) (oZ rfl)))))
        (by kernel_rfl) (by kernel_rfl) ?_
      refine nT ?_
      refine T.seq ?_
      refine T.seq ?_
      refine tR (s1 := ⟨[pv 0 0, dv (.int .i64 most), AV.any, AV.any, dv (.slice none 0 0), slV false false kU8 rest, dv (.int .i64 ((rdC rest e most : Nat) : Int)), slV false false kU8 ((rdR rest e 4 (limE most (rest.take 4))).take ((rdC rest e most : Nat) : Int).toNat), AV.any, dv (.bool false), AV.any, AV.any, AV.any, AV.any, AV.any, AV.any, AV.any, AV.any, AV.any, AV.any, AV.any, dv (.bool (decide ((rdE rest e 4 (limE most (rest.take 4))) ≠ 0))), AV.any, AV.any, AV.any, AV.any, AV.any, AV.any, AV.any, dv (.bool false)], [.live (.box 37 [.d (dsl false false kU8 ((rdR rest e 4 (limE most (rest.take 4))).drop ((rdC rest e most : Nat) : Int).toNat)), .d (.val (.int .i64 0))])]⟩) [true, true, false, false, true, true, true, true, false, true, false, false, false, false, false, false, false, false, false, false, false, true, false, false, false, false, false, false, false, true] [true]
        (oC (oS rfl rfl (r_move (av := pv 0 0) (lt_of rfl) trivial))
        (oC (oS rfl rfl (r_nilCheck (av := pv 0 0) rfl (lt_of rfl) trivial))
        (oC (oS rfl rfl (r_fieldAddr (l := 0) (off := 0) fld_37_1 (lt_of rfl) trivial))
        (oC (oS rfl rfl (r_loadB (l := 0) (off := 1) (T := 37) (cs := [.d (dsl false false kU8 ((rdR rest e 4 (limE most (rest.take 4))).drop ((rdC rest e most : Nat) : Int).toNat)), .d (.val (.int .i64 0))]) (c := .d (.val (.int .i64 0))) wide_35 rfl (lt_of rfl) trivial))
        (oC (oS rfl rfl (r_bin (u1 := .int .i64 0) (u2 := .int .i64 0) (v := .bool false) b_neq (lt_of rfl) ⟨rfl, trivial⟩)) (oZ rfl))))))
        (by kernel_rfl) (by kernel_rfl) ?_
      refine nT ?_
      refine T.condF (b := false) rfl rfl ?_
      refine T.skip ?_
      refine nT ?_
      refine T.seq ?_
      refine tR (s1 := ⟨[pv 0 0, dv (.int .i64 most), AV.any, AV.any, ownV 1 kU8 0 ((rdR rest e 4 (limE most (rest.take 4))).take ((rdC rest e most : Nat) : Int).toNat).length, slV false false kU8 rest, dv (.int .i64 ((rdC rest e most : Nat) : Int)), slV false false kU8 ((rdR rest e 4 (limE most (rest.take 4))).take ((rdC rest e most : Nat) : Int).toNat), AV.any, dv (.bool false), AV.any, AV.any, AV.any, AV.any, AV.any, AV.any, AV.any, AV.any, AV.any, AV.any, AV.any, dv (.bool (decide ((rdE rest e 4 (limE most (rest.take 4))) ≠ 0))), AV.any, AV.any, AV.any, AV.any, AV.any, AV.any, AV.any, dv (.bool false)], [.live (.box 37 [.d (dsl false false kU8 ((rdR rest e 4 (limE most (rest.take 4))).drop ((rdC rest e most : Nat) : Int).toNat)), .d (.val (.int .i64 0))]), .live (arrK 5 kU8 ((rdR rest e 4 (limE most (rest.take 4))).take ((rdC rest e most : Nat) : Int).toNat))]⟩) [true, true, false, false, true, true, true, true, false, true, false, false, false, false, false, false, false, false, false, false, false, true, false, false, false, false, false, false, false, true] [true, true]
        (oC (oS rfl rfl (r_move (av := slV false false kU8 ((rdR rest e 4 (limE most (rest.take 4))).take ((rdC rest e most : Nat) : Int).toNat)) (lt_of rfl) trivial))
        (oC (oS rfl rfl (r_call (clone_u8 false false ((rdR rest e 4 (limE most (rest.take 4))).take ((rdC rest e most : Nat) : Int).toNat) (by first | assumption | omega | (simp only [maxLen, kU8_sz, kSl_sz, k_quaestorlaw01_Item_sz]; omega) | (simp only [maxLen, kU8_sz, kSl_sz, k_quaestorlaw01_Item_sz, List.length_append, List.length_cons, List.length_nil, List.length_take, List.length_drop, List.length_set]; omega) | decide)) Try.func39 rfl (by decide) [1] [] (l := [(.tmp 34, slV false false kU8 ((rdR rest e 4 (limE most (rest.take 4))).take ((rdC rest e most : Nat) : Int).toNat))]) [] rfl 0 1 rfl rfl rfl rfl rfl rfl rfl rfl rfl ⟨.inl ⟨rfl, rfl⟩, trivial⟩ rfl (fun b hb => by cases hb) (.inl rfl) (lt_of rfl) trivial))
        (oC (oS rfl rfl (r_assign (av := ownV 1 kU8 0 ((rdR rest e 4 (limE most (rest.take 4))).take ((rdC rest e most : Nat) : Int).toNat).length) (lt_of rfl) trivial)) (oZ rfl))))
        (by kernel_rfl) (by kernel_rfl) ?_
      refine nT ?_
      refine T.ret ?_
      exact tE (.inl rfl) [.t 4 (.one (.own 1 kU8.sz 0 ((rdR rest e 4 (limE most (rest.take 4))).take ((rdC rest e most : Nat) : Int).toNat).length))] ⟨⟨rfl, rfl⟩, trivial⟩ [0, 1] (by have e1 : ((rdY rest e most).length : Nat) = ((rdR rest e 4 (limE most (rest.take 4))).take ((rdC rest e most : Nat) : Int).toNat).length := (by first | rfl | (rw [hy.1]; done) | (rw [hy.1]; rfl) | (rw [hy.2.1]; first | done | rfl) | (rw [hy.2.1, hy.2.2.2]) | (rw [hy.2.2]; first | done | rfl) | (rw [hy.2.2.1]; first | done | rfl) | exact hy.1 | exact hy.1.symm | exact hy.2.1 | exact hy.2.1.symm | exact hy.2.1.trans hy.2.2.2.symm); have hE := congrArg (fun (q1 : Nat) => (ownV 1 kU8 0 q1 : AV)) e1; exact hE) rfl rfl rfl rfl rfl ⟨⟨rfl, (by have e1 : (((rdR rest e 4 (limE most (rest.take 4))).drop ((rdC rest e most : Nat) : Int).toNat) : List UInt8) = (rdYR rest e most) := (by first | rfl | (rw [hy.1]; done) | (rw [hy.1]; rfl) | (rw [hy.2.1]; first | done | rfl) | (rw [hy.2.1, hy.2.2.2]) | (rw [hy.2.2]; first | done | rfl) | (rw [hy.2.2.1]; first | done | rfl) | exact hy.1 | exact hy.1.symm | exact hy.2.1 | exact hy.2.1.symm | exact hy.2.1.trans hy.2.2.2.symm); have e2 : (0 : Int) = (rdYE rest e most) := (by first | rfl | (rw [hy.1]; done) | (rw [hy.1]; rfl) | (rw [hy.2.1]; first | done | rfl) | (rw [hy.2.1, hy.2.2.2]) | (rw [hy.2.2]; first | done | rfl) | (rw [hy.2.2.1]; first | done | rfl) | exact hy.1 | exact hy.1.symm | exact hy.2.1 | exact hy.2.1.symm | exact hy.2.1.trans hy.2.2.2.symm); have hE := congr (congrArg (fun (q1 : List UInt8) (q2 : Int) => (.live (.box 37 [.d (dsl false false kU8 q1), .d (.val (.int .i64 q2))]) : HS)) e1) e2; exact hE)⟩, ⟨⟨rfl, (by have e1 : (((rdR rest e 4 (limE most (rest.take 4))).take ((rdC rest e most : Nat) : Int).toNat) : List UInt8) = (rdY rest e most) := (by first | rfl | (rw [hy.1]; done) | (rw [hy.1]; rfl) | (rw [hy.2.1]; first | done | rfl) | (rw [hy.2.1, hy.2.2.2]) | (rw [hy.2.2]; first | done | rfl) | (rw [hy.2.2.1]; first | done | rfl) | exact hy.1 | exact hy.1.symm | exact hy.2.1 | exact hy.2.1.symm | exact hy.2.1.trans hy.2.2.2.symm); have hE := congrArg (fun (q1 : List UInt8) => (.live (arrK 5 kU8 q1) : HS)) e1; exact hE)⟩, trivial⟩⟩
    · have hy := rdY_short hz hq2
      refine tR (s1 := ⟨[pv 0 0, dv (.int .i64 most), AV.any, AV.any, dv (.slice none 0 0), slV false false kU8 rest, dv (.int .i64 ((rdC rest e most : Nat) : Int)), dv (.slice none 0 0), AV.any, dv (.bool false), AV.any, AV.any, AV.any, AV.any, AV.any, AV.any, AV.any, AV.any, AV.any, AV.any, AV.any, dv (.bool (decide ((rdE rest e 4 (limE most (rest.take 4))) ≠ 0)))], [.live (.box 37 [.d (dsl false false kU8 (rdR rest e 4 (limE most (rest.take 4)))), .d (.val (.int .i64 (rdE (rdR rest e 4 (limE most (rest.take 4))) (rdE rest e 4 (limE most (rest.take 4))) ((rdC rest e most : Nat) : Int) 0)))])]⟩) [true, true, false, false, true, true, true, true, false, true, false, false, false, false, false, false, false, false, false, false, false, true] [true]
        (oC (oS rfl rfl (r_move (av := pv 0 0) (lt_of rfl) trivial))
        (oC (oS rfl rfl (r_move (av := dv (.int .i64 ((rdC rest e most : Nat) : Int))) (lt_of rfl) trivial))
        (oC (oS rfl rfl (r_call (take_any_no (rdR rest e 4 (limE most (rest.take 4))) (rdE rest e 4 (limE most (rest.take 4))) ((rdC rest e most : Nat) : Int) (by first | assumption | omega | (simp only [maxLen, kU8_sz, kSl_sz, k_quaestorlaw01_Item_sz]; omega) | (simp only [maxLen, kU8_sz, kSl_sz, k_quaestorlaw01_Item_sz, List.length_append, List.length_cons, List.length_nil, List.length_take, List.length_drop, List.length_set]; omega) | decide) (by first | assumption | omega | (simp only [maxLen, kU8_sz, kSl_sz, k_quaestorlaw01_Item_sz]; omega) | (simp only [maxLen, kU8_sz, kSl_sz, k_quaestorlaw01_Item_sz, List.length_append, List.length_cons, List.length_nil, List.length_take, List.length_drop, List.length_set]; omega) | decide) (by first | assumption | omega | (simp only [maxLen, kU8_sz, kSl_sz, k_quaestorlaw01_Item_sz]; omega) | (simp only [maxLen, kU8_sz, kSl_sz, k_quaestorlaw01_Item_sz, List.length_append, List.length_cons, List.length_nil, List.length_take, List.length_drop, List.length_set]; omega) | decide)) Try.func40 rfl (by decide) [0] [] (l := [(.tmp 22, pv 0 0), (.tmp 23, dv (.int .i64 ((rdC rest e most : Nat) : Int))), (.func 41, dv (.func (.func 41) #[] #[]))]) [] rfl 1 1 rfl rfl rfl rfl rfl rfl rfl rfl rfl ⟨.inl ⟨rfl, rfl⟩, ⟨.inl ⟨rfl, rfl⟩, ⟨.inl ⟨rfl, rfl⟩, trivial⟩⟩⟩ rfl (fun b hb => by cases hb) (.inl rfl) (lt_of rfl) ⟨rfl, trivial⟩))
        (oC (oS rfl rfl (r_assign (av := dv (.slice none 0 0)) (lt_of rfl) trivial)) (oZ rfl)))))
        (by kernel_rfl) (by kernel_rfl) ?_
      refine nT ?_
      refine T.seq ?_
      refine T.seq ?_
      refine tR (s1 := ⟨[pv 0 0, dv (.int .i64 most), AV.any, AV.any, dv (.slice none 0 0), slV false false kU8 rest, dv (.int .i64 ((rdC rest e most : Nat) : Int)), dv (.slice none 0 0), AV.any, dv (.bool false), AV.any, AV.any, AV.any, AV.any, AV.any, AV.any, AV.any, AV.any, AV.any, AV.any, AV.any, dv (.bool (decide ((rdE rest e 4 (limE most (rest.take 4))) ≠ 0))), AV.any, AV.any, AV.any, AV.any, AV.any, AV.any, AV.any, dv (.bool (decide ((rdE (rdR rest e 4 (limE most (rest.take 4))) (rdE rest e 4 (limE most (rest.take 4))) ((rdC rest e most : Nat) : Int) 0) ≠ 0)))], [.live (.box 37 [.d (dsl false false kU8 (rdR rest e 4 (limE most (rest.take 4)))), .d (.val (.int .i64 (rdE (rdR rest e 4 (limE most (rest.take 4))) (rdE rest e 4 (limE most (rest.take 4))) ((rdC rest e most : Nat) : Int) 0)))])]⟩) [true, true, false, false, true, true, true, true, false, true, false, false, false, false, false, false, false, false, false, false, false, true, false, false, false, false, false, false, false, true] [true]
        (oC (oS rfl rfl (r_move (av := pv 0 0) (lt_of rfl) trivial))
        (oC (oS rfl rfl (r_nilCheck (av := pv 0 0) rfl (lt_of rfl) trivial))
        (oC (oS rfl rfl (r_fieldAddr (l := 0) (off := 0) fld_37_1 (lt_of rfl) trivial))
        (oC (oS rfl rfl (r_loadB (l := 0) (off := 1) (T := 37) (cs := [.d (dsl false false kU8 (rdR rest e 4 (limE most (rest.take 4)))), .d (.val (.int .i64 (rdE (rdR rest e 4 (limE most (rest.take 4))) (rdE rest e 4 (limE most (rest.take 4))) ((rdC rest e most : Nat) : Int) 0)))]) (c := .d (.val (.int .i64 (rdE (rdR rest e 4 (limE most (rest.take 4))) (rdE rest e 4 (limE most (rest.take 4))) ((rdC rest e most : Nat) : Int) 0)))) wide_35 rfl (lt_of rfl) trivial))
        (oC (oS rfl rfl (r_bin (u1 := .int .i64 (rdE (rdR rest e 4 (limE most (rest.take 4))) (rdE rest e 4 (limE most (rest.take 4))) ((rdC rest e most : Nat) : Int) 0)) (u2 := .int .i64 0) (v := .bool (decide ((rdE (rdR rest e 4 (limE most (rest.take 4))) (rdE rest e 4 (limE most (rest.take 4))) ((rdC rest e most : Nat) : Int) 0) ≠ 0))) b_neq (lt_of rfl) ⟨rfl, trivial⟩)) (oZ rfl))))))
        (by kernel_rfl) (by kernel_rfl) ?_
      refine nT ?_
      by_cases hq3 : (rdE (rdR rest e 4 (limE most (rest.take 4))) (rdE rest e 4 (limE most (rest.take 4))) ((rdC rest e most : Nat) : Int) 0) ≠ 0
      · refine T.condT (b := (decide ((rdE (rdR rest e 4 (limE most (rest.take 4))) (rdE rest e 4 (limE most (rest.take 4))) ((rdC rest e most : Nat) : Int) 0) ≠ 0))) rfl (decide_eq_true hq3) ?_
        refine tR (s1 := ⟨[pv 0 0, dv (.int .i64 most), AV.any, AV.any, dv (.slice none 0 0), slV false false kU8 rest, dv (.int .i64 ((rdC rest e most : Nat) : Int)), dv (.slice none 0 0), AV.any, dv (.bool false), AV.any, AV.any, AV.any, AV.any, AV.any, AV.any, AV.any, AV.any, AV.any, AV.any, AV.any, dv (.bool (decide ((rdE rest e 4 (limE most (rest.take 4))) ≠ 0))), AV.any, AV.any, AV.any, AV.any, AV.any, AV.any, AV.any, dv (.bool (decide ((rdE (rdR rest e 4 (limE most (rest.take 4))) (rdE rest e 4 (limE most (rest.take 4))) ((rdC rest e most : Nat) : Int) 0) ≠ 0)))], [.live (.box 37 [.d (dsl false false kU8 rest), .d (.val (.int .i64 (rdE (rdR rest e 4 (limE most (rest.take 4))) (rdE rest e 4 (limE most (rest.take 4))) ((rdC rest e most : Nat) : Int) 0)))])]⟩) [true, true, false, false, true, true, true, true, false, true, false, false, false, false, false, false, false, false, false, false, false, true, false, false, false, false, false, false, false, true] [true]
          (oC (oS rfl rfl (r_move (av := pv 0 0) (lt_of rfl) trivial))
          (oC (oS rfl rfl (r_move (av := slV false false kU8 rest) (lt_of rfl) trivial))
          (oC (oS rfl rfl (r_nilCheck (av := pv 0 0) rfl (lt_of rfl) trivial))
          (oC (oS rfl rfl (r_fieldAddr (l := 0) (off := 0) fld_37_0 (lt_of rfl) trivial))
          (oC (oS rfl rfl (r_store (l := 0) (off := 0) (n := 1) (T := 37) (cs := [.d (dsl false false kU8 (rdR rest e 4 (limE most (rest.take 4)))), .d (.val (.int .i64 (rdE (rdR rest e 4 (limE most (rest.take 4))) (rdE rest e 4 (limE most (rest.take 4))) ((rdC rest e most : Nat) : Int) 0)))]) (cs' := [.d (dsl false false kU8 rest), .d (.val (.int .i64 (rdE (rdR rest e 4 (limE most (rest.take 4))) (rdE rest e 4 (limE most (rest.take 4))) ((rdC rest e most : Nat) : Int) 0)))]) (tv := .one (.d (dsl false false kU8 rest))) cells_24 rfl (Nat.le_of_ble_eq_true rfl) rfl rfl trivial)) (oZ rfl))))))
          (by kernel_rfl) (by kernel_rfl) ?_
        refine nT ?_
        refine T.seq ?_
        refine tR (s1 := ⟨[pv 0 0, dv (.int .i64 most), AV.any, AV.any, ownV 1 kU8 0 ([] : List UInt8).length, slV false false kU8 rest, dv (.int .i64 ((rdC rest e most : Nat) : Int)), dv (.slice none 0 0), AV.any, dv (.bool false), AV.any, AV.any, AV.any, AV.any, AV.any, AV.any, AV.any, AV.any, AV.any, AV.any, AV.any, dv (.bool (decide ((rdE rest e 4 (limE most (rest.take 4))) ≠ 0))), AV.any, AV.any, AV.any, AV.any, AV.any, AV.any, AV.any, dv (.bool (decide ((rdE (rdR rest e 4 (limE most (rest.take 4))) (rdE rest e 4 (limE most (rest.take 4))) ((rdC rest e most : Nat) : Int) 0) ≠ 0)))], [.live (.box 37 [.d (dsl false false kU8 rest), .d (.val (.int .i64 (rdE (rdR rest e 4 (limE most (rest.take 4))) (rdE rest e 4 (limE most (rest.take 4))) ((rdC rest e most : Nat) : Int) 0)))]), .live (arrK 5 kU8 ([] : List UInt8))]⟩) [true, true, false, false, true, true, true, true, false, true, false, false, false, false, false, false, false, false, false, false, false, true, false, false, false, false, false, false, false, true] [true, true]
          (oC (oS rfl rfl (r_move (av := dv (.slice none 0 0)) (lt_of rfl) trivial))
          (oC (oS rfl rfl (r_call (clone_u8 false false ([] : List UInt8) (by first | assumption | omega | (simp only [maxLen, kU8_sz, kSl_sz, k_quaestorlaw01_Item_sz]; omega) | (simp only [maxLen, kU8_sz, kSl_sz, k_quaestorlaw01_Item_sz, List.length_append, List.length_cons, List.length_nil, List.length_take, List.length_drop, List.length_set]; omega) | decide)) Try.func39 rfl (by decide) [1] [] (l := [(.tmp 34, dv (.slice none 0 0))]) [] rfl 0 1 rfl rfl rfl rfl rfl rfl rfl rfl rfl ⟨.inr (.inr ⟨rfl, rfl, rfl⟩), trivial⟩ rfl (fun b hb => by cases hb) (.inl rfl) (lt_of rfl) trivial))
          (oC (oS rfl rfl (r_assign (av := ownV 1 kU8 0 ([] : List UInt8).length) (lt_of rfl) trivial)) (oZ rfl))))
          (by kernel_rfl) (by kernel_rfl) ?_
        refine nT ?_
        refine T.ret ?_
        exact tE (.inl rfl) [.t 4 (.one (.own 1 kU8.sz 0 ([] : List UInt8).length))] ⟨⟨rfl, rfl⟩, trivial⟩ [0, 1] (by have e1 : ((rdY rest e most).length : Nat) = ([] : List UInt8).length := (by first | rfl | (rw [hy.1]; done) | (rw [hy.1]; rfl) | (rw [hy.2.1]; first | done | rfl) | (rw [hy.2.1, hy.2.2.2]) | (rw [hy.2.2]; first | done | rfl) | (rw [hy.2.2.1]; first | done | rfl) | exact hy.1 | exact hy.1.symm | exact hy.2.1 | exact hy.2.1.symm | exact hy.2.1.trans hy.2.2.2.symm); have hE := congrArg (fun (q1 : Nat) => (ownV 1 kU8 0 q1 : AV)) e1; exact hE) rfl rfl rfl rfl rfl ⟨⟨rfl, (by have e1 : (rest : List UInt8) = (rdYR rest e most) := (by first | rfl | (rw [hy.1]; done) | (rw [hy.1]; rfl) | (rw [hy.2.1]; first | done | rfl) | (rw [hy.2.1, hy.2.2.2]) | (rw [hy.2.2]; first | done | rfl) | (rw [hy.2.2.1]; first | done | rfl) | exact hy.1 | exact hy.1.symm | exact hy.2.1 | exact hy.2.1.symm | exact hy.2.1.trans hy.2.2.2.symm); have e2 : ((rdE (rdR rest e 4 (limE most (rest.take 4))) (rdE rest e 4 (limE most (rest.take 4))) ((rdC rest e most : Nat) : Int) 0) : Int) = (rdYE rest e most) := (by first | rfl | (rw [hy.1]; done) | (rw [hy.1]; rfl) | (rw [hy.2.1]; first | done | rfl) | (rw [hy.2.1, hy.2.2.2]) | (rw [hy.2.2]; first | done | rfl) | (rw [hy.2.2.1]; first | done | rfl) | exact hy.1 | exact hy.1.symm | exact hy.2.1 | exact hy.2.1.symm | exact hy.2.1.trans hy.2.2.2.symm); have hE := congr (congrArg (fun (q1 : List UInt8) (q2 : Int) => (.live (.box 37 [.d (dsl false false kU8 q1), .d (.val (.int .i64 q2))]) : HS)) e1) e2; exact hE)⟩, ⟨⟨rfl, (by have e1 : (([] : List UInt8) : List UInt8) = (rdY rest e most) := (by first | rfl | (rw [hy.1]; done) | (rw [hy.1]; rfl) | (rw [hy.2.1]; first | done | rfl) | (rw [hy.2.1, hy.2.2.2]) | (rw [hy.2.2]; first | done | rfl) | (rw [hy.2.2.1]; first | done | rfl) | exact hy.1 | exact hy.1.symm | exact hy.2.1 | exact hy.2.1.symm | exact hy.2.1.trans hy.2.2.2.symm); have hE := congrArg (fun (q1 : List UInt8) => (.live (arrK 5 kU8 q1) : HS)) e1; exact hE)⟩, trivial⟩⟩
      · exact absurd (rdE_no hq2) hq3

theorem iat_30 : Try.prog.info? 30 = some Try.t30 := by kernel_rfl
theorem fld_30_2 : FieldAt Try.prog 30 2 2 := ⟨_, _, _, Try.underlying30, rfl, iat_24, by decide, rfl⟩
-- quaestor/quaestorlaw01.few
theorem law_few (tl : Bool) (nl : Bool) (sl_ : Bool) (l : List quaestorlaw01_Item) (hl : l.length ≤ 9223372036854775807) : Holds Try.prog 7 ⟨[slV tl nl (k_quaestorlaw01_Item sl_) l], [], dv (.bool (decide (fewG szI 200 2000 l))), []⟩ := by
  refine Holds.of Try.func7 rfl (N := 20) Try.ntmps7 rfl fun w0 B0 S0 U0 => ?_
  show T _ (mkBase 20 0 w0 S0 U0 B0) ⟨[slV tl nl (k_quaestorlaw01_Item sl_) l], []⟩ _ _
  refine T.seq ?_
  refine tR (s1 := ⟨[slV tl nl (k_quaestorlaw01_Item sl_) l, AV.any, dv (.bool false)], []⟩) [true, false, true] []
    (oC (oS rfl rfl (r_assign (av := dv (.bool false)) (lt_of rfl) ⟨rfl, trivial⟩)) (oZ rfl))
    (by kernel_rfl) (by kernel_rfl) ?_
  refine nT ?_
  refine T.seq ?_
  refine T.seq ?_
  refine tR (s1 := ⟨[slV tl nl (k_quaestorlaw01_Item sl_) l, AV.any, dv (.bool false), AV.any, AV.any, AV.any, dv (.bool (decide (((l.length : Nat) : Int) > 200)))], []⟩) [true, false, true, false, false, false, true] []
    (oC (oS rfl rfl (r_move (av := slV tl nl (k_quaestorlaw01_Item sl_) l) (lt_of rfl) trivial))
    (oC (oS rfl rfl (q_len tl nl (k_quaestorlaw01_Item sl_) l Try.underlying22 (lt_of rfl) trivial))
    (oC (oS rfl rfl (r_bin (u1 := .int .i64 ((l.length : Nat) : Int)) (u2 := .int .i64 200) (v := .bool (decide (((l.length : Nat) : Int) > 200))) b_gtr (lt_of rfl) ⟨rfl, trivial⟩)) (oZ rfl))))
    (by kernel_rfl) (by kernel_rfl) ?_
  refine nT ?_
  by_cases hq1 : ((l.length : Nat) : Int) > 200
  · refine T.condT (b := (decide (((l.length : Nat) : Int) > 200))) rfl (decide_eq_true hq1) ?_
    refine T.seq ?_
    refine tR (s1 := ⟨[slV tl nl (k_quaestorlaw01_Item sl_) l, AV.any, dv (.bool false), AV.any, AV.any, AV.any, dv (.bool (decide (((l.length : Nat) : Int) > 200)))], []⟩) [true, false, true, false, false, false, true] []
      (oC (oS rfl rfl (r_assign (av := dv (.bool false)) (lt_of rfl) ⟨rfl, trivial⟩)) (oZ rfl))
      (by kernel_rfl) (by kernel_rfl) ?_
    refine nT ?_
    refine T.ret ?_
    refine rT ?_
    exact tE (.inl rfl) [.t 2 (.one (.d (.val (.bool false))))] ⟨⟨rfl, rfl⟩, trivial⟩ [] (by have e1 : ((decide (fewG szI 200 2000 l)) : Bool) = false := (by first | exact decide_eq_false (fewG_no1 hq1 rfl) | exact decide_eq_false (fewG_no2 (z := z_quaestorlaw01_Item) (k := k) (by omega) hq3 rfl) | exact decide_eq_true (fewG_yes (z := z_quaestorlaw01_Item) (k := k) hq1 rfl (by omega) hb)); have hE := congrArg (fun (q1 : Bool) => (dv (.bool q1) : AV)) e1; exact hE) rfl rfl rfl rfl rfl trivial
  · refine T.condF (b := (decide (((l.length : Nat) : Int) > 200))) rfl (decide_eq_false hq1) ?_
    refine T.skip ?_
    refine nT ?_
    refine T.seq ?_
    refine T.seq ?_
    refine tR (s1 := ⟨[slV tl nl (k_quaestorlaw01_Item sl_) l, AV.any, dv (.bool false), dv (.int .i64 0), AV.any, AV.any, dv (.bool (decide (((l.length : Nat) : Int) > 200)))], []⟩) [true, false, true, true, false, false, true] []
      (oC (oS rfl rfl (r_assign (av := dv (.int .i64 0)) (lt_of rfl) ⟨rfl, trivial⟩)) (oZ rfl))
      (by kernel_rfl) (by kernel_rfl) ?_
    refine nT ?_
    refine T.block ?_
    refine T.loop (ι := Nat) (fun (k : Nat) => ⟨[slV tl nl (k_quaestorlaw01_Item sl_) l, AV.any, dv (.bool false), dv (.int .i64 ((k : Nat) : Int)), AV.any, AV.any, dv (.bool (decide (((l.length : Nat) : Int) > 200)))], []⟩) (fun (k : Nat) => (k ≤ l.length) ∧ (∀ j, j < k → szI (l.getD j z_quaestorlaw01_Item) ≤ 2000)) (fun (k : Nat) => l.length - k) (0) ⟨(Nat.zero_le _), (fun j hj => absurd hj (Nat.not_lt_zero _))⟩ (fun _ _ hG => Gs.into2 (s := ⟨[slV tl nl (k_quaestorlaw01_Item sl_) l, AV.any, dv (.bool false), dv (.int .i64 0), AV.any, AV.any, dv (.bool (decide (((l.length : Nat) : Int) > 200)))], []⟩) (s' := ⟨[slV tl nl (k_quaestorlaw01_Item sl_) l, AV.any, dv (.bool false), dv (.int .i64 0), AV.any, AV.any, dv (.bool (decide (((l.length : Nat) : Int) > 200)))], []⟩) [] [true, false, true, true, false, false, true] (t1 := [slV tl nl (k_quaestorlaw01_Item sl_) l, AV.any, dv (.bool false), dv (.int .i64 0), AV.any, AV.any, dv (.bool (decide (((l.length : Nat) : Int) > 200)))]) (t2 := [slV tl nl (k_quaestorlaw01_Item sl_) l, AV.any, dv (.bool false), dv (.int .i64 0), AV.any, AV.any, dv (.bool (decide (((l.length : Nat) : Int) > 200)))]) (h1 := []) (h2 := []) rfl rfl (by kernel_rfl) (by kernel_rfl) (by kernel_rfl) (by kernel_rfl) (by kernel_rfl) (by kernel_rfl) (by kernel_rfl) (by kernel_rfl) (by kernel_rfl) (by kernel_rfl) (by kernel_rfl) hG) ?_
    rintro k ⟨hk, hb⟩
    show T _ _ ⟨[slV tl nl (k_quaestorlaw01_Item sl_) l, AV.any, dv (.bool false), dv (.int .i64 ((k : Nat) : Int)), AV.any, AV.any, dv (.bool (decide (((l.length : Nat) : Int) > 200)))], []⟩ _ _
    replace hk : k ≤ l.length := hk
    replace hb : ∀ j, j < k → szI (l.getD j z_quaestorlaw01_Item) ≤ 2000 := hb
    refine T.seq ?_
    refine T.seq ?_
    refine tR (s1 := ⟨[slV tl nl (k_quaestorlaw01_Item sl_) l, AV.any, dv (.bool false), dv (.int .i64 ((k : Nat) : Int)), AV.any, AV.any, dv (.bool (decide (((l.length : Nat) : Int) > 200))), AV.any, AV.any, AV.any, dv (.bool (decide (((k : Nat) : Int) < ((l.length : Nat) : Int))))], []⟩) [true, false, true, true, false, false, true, false, false, false, true] []
      (oC (oS rfl rfl (r_move (av := dv (.int .i64 ((k : Nat) : Int))) (lt_of rfl) trivial))
      (oC (oS rfl rfl (r_move (av := slV tl nl (k_quaestorlaw01_Item sl_) l) (lt_of rfl) trivial))
      (oC (oS rfl rfl (q_len tl nl (k_quaestorlaw01_Item sl_) l Try.underlying22 (lt_of rfl) trivial))
      (oC (oS rfl rfl (r_bin (u1 := .int .i64 ((k : Nat) : Int)) (u2 := .int .i64 ((l.length : Nat) : Int)) (v := .bool (decide (((k : Nat) : Int) < ((l.length : Nat) : Int)))) b_lss (lt_of rfl) trivial)) (oZ rfl)))))
      (by kernel_rfl) (by kernel_rfl) ?_
    refine nT ?_
    by_cases hq2 : ((k : Nat) : Int) < ((l.length : Nat) : Int)
    · refine T.condT (b := (decide (((k : Nat) : Int) < ((l.length : Nat) : Int)))) rfl (decide_eq_true hq2) ?_
      refine T.skip ?_
      refine nT ?_
      refine T.seq ?_
      refine T.block ?_
      refine T.seq ?_
      refine tR (s1 := ⟨[slV tl nl (k_quaestorlaw01_Item sl_) l, AV.any, dv (.bool false), dv (.int .i64 ((k : Nat) : Int)), AV.any, AV.any, dv (.bool (decide (((l.length : Nat) : Int) > 200))), AV.any, AV.any, AV.any, dv (.bool (decide (((k : Nat) : Int) < ((l.length : Nat) : Int)))), AV.any, AV.any, AV.any, AV.any, AV.any, AV.any, AV.any, AV.any, dv (.bool (decide ((((l.getD k z_quaestorlaw01_Item).f_B.length : Nat) : Int) > 2000)))], []⟩) [true, false, true, true, false, false, true, false, false, false, true, false, false, false, false, false, false, false, false, true] []
        (oC (oS rfl rfl (r_move (av := slV tl nl (k_quaestorlaw01_Item sl_) l) (lt_of rfl) trivial))
        (oC (oS rfl rfl (r_move (av := dv (.int .i64 ((k : Nat) : Int))) (lt_of rfl) trivial))
        (oC (oS rfl rfl (q_index tl nl (k_quaestorlaw01_Item sl_) l k (k := .i64) (i := ((k : Nat) : Int)) Try.underlying22 iat_30 rfl rfl (by first | assumption | omega | (simp only [maxLen, kU8_sz, kSl_sz, k_quaestorlaw01_Item_sz]; omega) | (simp only [maxLen, kU8_sz, kSl_sz, k_quaestorlaw01_Item_sz, List.length_append, List.length_cons, List.length_nil, List.length_take, List.length_drop, List.length_set]; omega) | decide) (lt_of rfl) trivial))
        (oC (oS rfl rfl (r_fieldAddrE (tag := tl) (n := 4) (m := 1) (el := (k_quaestorlaw01_Item sl_).cell (l.getD k (k_quaestorlaw01_Item sl_).z)) fld_30_2 (by decide) (lt_of rfl) trivial))
        (oC (oS rfl rfl (r_loadE (tag := tl) (n := 1) (el := fun j_ => ((k_quaestorlaw01_Item sl_).cell (l.getD k (k_quaestorlaw01_Item sl_).z)) (2 + j_)) (e0 := dsl sl_ false kU8 (l.getD k z_quaestorlaw01_Item).f_B) wide_24 (by decide) rfl (lt_of rfl) trivial))
        (oC (oS rfl rfl (q_len sl_ false kU8 (l.getD k z_quaestorlaw01_Item).f_B Try.underlying24 (lt_of rfl) trivial))
        (oC (oS rfl rfl (r_bin (u1 := .int .i64 (((l.getD k z_quaestorlaw01_Item).f_B.length : Nat) : Int)) (u2 := .int .i64 2000) (v := .bool (decide ((((l.getD k z_quaestorlaw01_Item).f_B.length : Nat) : Int) > 2000))) b_gtr (lt_of rfl) ⟨rfl, trivial⟩)) (oZ rfl))))))))
        (by kernel_rfl) (by kernel_rfl) ?_
      refine nT ?_
      by_cases hq3 : (((l.getD k z_quaestorlaw01_Item).f_B.length : Nat) : Int) > 2000
      · refine T.condT (b := (decide ((((l.getD k z_quaestorlaw01_Item).f_B.length : Nat) : Int) > 2000))) rfl (decide_eq_true hq3) ?_
        refine T.seq ?_
        refine tR (s1 := ⟨[slV tl nl (k_quaestorlaw01_Item sl_) l, AV.any, dv (.bool false), dv (.int .i64 ((k : Nat) : Int)), AV.any, AV.any, dv (.bool (decide (((l.length : Nat) : Int) > 200))), AV.any, AV.any, AV.any, dv (.bool (decide (((k : Nat) : Int) < ((l.length : Nat) : Int)))), AV.any, AV.any, AV.any, AV.any, AV.any, AV.any, AV.any, AV.any, dv (.bool (decide ((((l.getD k z_quaestorlaw01_Item).f_B.length : Nat) : Int) > 2000)))], []⟩) [true, false, true, true, false, false, true, false, false, false, true, false, false, false, false, false, false, false, false, true] []
          (oC (oS rfl rfl (r_assign (av := dv (.bool false)) (lt_of rfl) ⟨rfl, trivial⟩)) (oZ rfl))
          (by kernel_rfl) (by kernel_rfl) ?_
        refine nT ?_
        refine T.ret ?_
        refine rB ?_
        refine rT ?_
        refine rT ?_
        refine rB ?_
        refine rT ?_
        exact tE (.inl rfl) [.t 2 (.one (.d (.val (.bool false))))] ⟨⟨rfl, rfl⟩, trivial⟩ [] (by have e1 : ((decide (fewG szI 200 2000 l)) : Bool) = false := (by first | exact decide_eq_false (fewG_no1 hq1 rfl) | exact decide_eq_false (fewG_no2 (z := z_quaestorlaw01_Item) (k := k) (by omega) hq3 rfl) | exact decide_eq_true (fewG_yes (z := z_quaestorlaw01_Item) (k := k) hq1 rfl (by omega) hb)); have hE := congrArg (fun (q1 : Bool) => (dv (.bool q1) : AV)) e1; exact hE) rfl rfl rfl rfl rfl trivial
      · refine T.condF (b := (decide ((((l.getD k z_quaestorlaw01_Item).f_B.length : Nat) : Int) > 2000))) rfl (decide_eq_false hq3) ?_
        refine T.skip ?_
        refine nB ?_
        refine nT ?_
        refine tR (s1 := ⟨[slV tl nl (k_quaestorlaw01_Item sl_) l, AV.any, dv (.bool false), dv (.int .i64 ((k + 1 : Nat) : Int)), AV.any, AV.any, dv (.bool (decide (((l.length : Nat) : Int) > 200))), AV.any, AV.any, AV.any, dv (.bool (decide (((k : Nat) : Int) < ((l.length : Nat) : Int)))), AV.any, AV.any, AV.any, AV.any, AV.any, AV.any, AV.any, AV.any, dv (.bool (decide ((((l.getD k z_quaestorlaw01_Item).f_B.length : Nat) : Int) > 2000)))], []⟩) [true, false, true, true, false, false, true, false, false, false, true, false, false, false, false, false, false, false, false, true] []
          (oC (oS rfl rfl (r_move (av := dv (.int .i64 ((k : Nat) : Int))) (lt_of rfl) trivial))
          (oC (oS rfl rfl (r_bin (u1 := .int .i64 ((k : Nat) : Int)) (u2 := .int .i64 1) (v := .int .i64 ((k + 1 : Nat) : Int)) (b_add (by rw [IntKind.wrap_i64]; omega)) (lt_of rfl) ⟨rfl, trivial⟩))
          (oC (oS rfl rfl (r_assign (av := dv (.int .i64 ((k + 1 : Nat) : Int))) (lt_of rfl) trivial)) (oZ rfl))))
          (by kernel_rfl) (by kernel_rfl) ?_
        refine nL (k + 1) ⟨(show (k + 1) ≤ l.length from (by omega)), (show ∀ j, j < (k + 1) → szI (l.getD j z_quaestorlaw01_Item) ≤ 2000 from (all_succ hb (by have h9 : (((l.getD k z_quaestorlaw01_Item).f_B.length : Nat) : Int) ≤ 2000 := (by omega); exact Int.ofNat_le.1 h9)))⟩ (show (l.length - (k + 1) : Nat) < l.length - k from (by omega)) (fun _ _ hG => Gs.into2 (s := ⟨[slV tl nl (k_quaestorlaw01_Item sl_) l, AV.any, dv (.bool false), dv (.int .i64 ((k + 1 : Nat) : Int)), AV.any, AV.any, dv (.bool (decide (((l.length : Nat) : Int) > 200))), AV.any, AV.any, AV.any, dv (.bool (decide (((k : Nat) : Int) < ((l.length : Nat) : Int)))), AV.any, AV.any, AV.any, AV.any, AV.any, AV.any, AV.any, AV.any, dv (.bool (decide ((((l.getD k z_quaestorlaw01_Item).f_B.length : Nat) : Int) > 2000)))], []⟩) (s' := ⟨[slV tl nl (k_quaestorlaw01_Item sl_) l, AV.any, dv (.bool false), dv (.int .i64 ((k + 1 : Nat) : Int)), AV.any, AV.any, dv (.bool (decide (((l.length : Nat) : Int) > 200)))], []⟩) [] [true, false, true, true, false, false, true] (t1 := [slV tl nl (k_quaestorlaw01_Item sl_) l, AV.any, dv (.bool false), dv (.int .i64 ((k + 1 : Nat) : Int)), AV.any, AV.any, dv (.bool (decide (((l.length : Nat) : Int) > 200)))]) (t2 := [slV tl nl (k_quaestorlaw01_Item sl_) l, AV.any, dv (.bool false), dv (.int .i64 ((k + 1 : Nat) : Int)), AV.any, AV.any, dv (.bool (decide (((l.length : Nat) : Int) > 200)))]) (h1 := []) (h2 := []) rfl rfl (by kernel_rfl) (by kernel_rfl) (by kernel_rfl) (by kernel_rfl) (by kernel_rfl) (by kernel_rfl) (by kernel_rfl) (by kernel_rfl) (by kernel_rfl) (by kernel_rfl) (by kernel_rfl) hG)
    · refine T.condF (b := (decide (((k : Nat) : Int) < ((l.length : Nat) : Int)))) rfl (decide_eq_false hq2) ?_
      refine T.exit ?_
      refine xT ?_
      refine xT ?_
      refine xH ?_
      refine nT ?_
      refine T.seq ?_
      refine tR (s1 := ⟨[slV tl nl (k_quaestorlaw01_Item sl_) l, AV.any, dv (.bool true), dv (.int .i64 ((k : Nat) : Int)), AV.any, AV.any, dv (.bool (decide (((l.length : Nat) : Int) > 200))), AV.any, AV.any, AV.any, dv (.bool (decide (((k : Nat) : Int) < ((l.length : Nat) : Int))))], []⟩) [true, false, true, true, false, false, true, false, false, false, true] []
        (oC (oS rfl rfl (r_assign (av := dv (.bool true)) (lt_of rfl) ⟨rfl, trivial⟩)) (oZ rfl))
        (by kernel_rfl) (by kernel_rfl) ?_
      refine nT ?_
      refine T.ret ?_
      exact tE (.inl rfl) [.t 2 (.one (.d (.val (.bool true))))] ⟨⟨rfl, rfl⟩, trivial⟩ [] (by have e1 : ((decide (fewG szI 200 2000 l)) : Bool) = true := (by first | exact decide_eq_false (fewG_no1 hq1 rfl) | exact decide_eq_false (fewG_no2 (z := z_quaestorlaw01_Item) (k := k) (by omega) hq3 rfl) | exact decide_eq_true (fewG_yes (z := z_quaestorlaw01_Item) (k := k) hq1 rfl (by omega) hb)); have hE := congrArg (fun (q1 : Bool) => (dv (.bool q1) : AV)) e1; exact hE) rfl rfl rfl rfl rfl trivial
end Go.Proofs.Ytafkobdlcahdbaa.Q
