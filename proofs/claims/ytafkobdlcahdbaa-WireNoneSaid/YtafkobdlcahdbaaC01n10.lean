import Derived.Test.YtafkobdlcahdbaaC01n9
namespace Go.Proofs.Ytafkobdlcahdbaa.Q
open Go Go.RowKit
set_option linter.unusedVariables false
set_option linter.unusedSimpArgs false
set_option maxRecDepth 100000
set_option maxHeartbeats 4000000
theorem fld_40_2 : FieldAt Try.prog 40 2 2 := ⟨_, _, _, Try.underlying40, rfl, iat_35, by decide, rfl⟩
theorem cells_3 : Cells Try.prog 3 1 := ⟨_, iat_3, rfl⟩
-- (*quaestor/quaestorref01.Reader).Int
theorem ref01_rInt (B : List UInt8) (a : Nat) (e : Int) (ha : a ≤ B.length) (hB : B.length ≤ 140737488350000) : Holds Try.prog 33 ⟨[pv 0 0], [.box 40 [.d (dsl false false kU8 B), .d (.val (.int .i64 ((a : Nat) : Int))), .d (.val (.int .i64 e))]], dv (.int .i64 (rdI (B.drop a) e)), [.live (.box 40 [.d (dsl false false kU8 B), .d (.val (.int .i64 ((rfA B a e 8 0 : Nat) : Int))), .d (.val (.int .i64 (rdE (B.drop a) e 8 0)))])]⟩ := by
  refine Holds.of Try.func33 rfl (N := 29) Try.ntmps33 rfl fun w0 B0 S0 U0 => ?_
  show T _ (mkBase 29 1 w0 S0 U0 B0) ⟨[pv 0 0], [.live (.box 40 [.d (dsl false false kU8 B), .d (.val (.int .i64 ((a : Nat) : Int))), .d (.val (.int .i64 e))])]⟩ _ _
  have hn8 := rfN_lt B a (m := 8) (by decide)
  refine T.seq ?_
  refine tR (s1 := ⟨[pv 0 0, AV.any, dv (.int .i64 0)], [.live (.box 40 [.d (dsl false false kU8 B), .d (.val (.int .i64 ((a : Nat) : Int))), .d (.val (.int .i64 e))])]⟩) [true, false, true] [true]
    (oC (oS rfl rfl (r_assign (av := dv (.int .i64 0)) (lt_of rfl) ⟨rfl, trivial⟩)) (oZ rfl))
    (by kernel_rfl) (by kernel_rfl) ?_
  refine nT ?_
  refine T.seq ?_
  refine T.seq ?_
  refine tR (s1 := ⟨[pv 0 0, AV.any, dv (.int .i64 0), AV.any, AV.any, AV.any, AV.any, AV.any, AV.any, dv (.bool (decide (e ≠ 0)))], [.live (.box 40 [.d (dsl false false kU8 B), .d (.val (.int .i64 ((a : Nat) : Int))), .d (.val (.int .i64 e))])]⟩) [true, false, true, false, false, false, false, false, false, true] [true]
    (oC (oS rfl rfl (r_move (av := pv 0 0) (lt_of rfl) trivial))
    (oC (oS rfl rfl (r_nilCheck (av := pv 0 0) rfl (lt_of rfl) trivial))
    (oC (oS rfl rfl (r_fieldAddr (l := 0) (off := 0) fld_40_2 (lt_of rfl) trivial))
    (oC (oS rfl rfl (r_loadB (l := 0) (off := 2) (T := 40) (cs := [.d (dsl false false kU8 B), .d (.val (.int .i64 ((a : Nat) : Int))), .d (.val (.int .i64 e))]) (c := .d (.val (.int .i64 e))) wide_35 rfl (lt_of rfl) trivial))
    (oC (oS rfl rfl (r_bin (u1 := .int .i64 e) (u2 := .int .i64 0) (v := .bool (decide (e ≠ 0))) b_neq (lt_of rfl) ⟨rfl, trivial⟩)) (oZ rfl))))))
    (by kernel_rfl) (by kernel_rfl) ?_
  refine nT ?_
  by_cases hq1 : e ≠ 0
  · have hr := rf_e (B := B) (a := a) hq1 8 0
    refine T.condT (b := (decide (e ≠ 0))) rfl (decide_eq_true hq1) ?_
    refine T.seq ?_
    refine tR (s1 := ⟨[pv 0 0, AV.any, dv (.int .i64 0), AV.any, AV.any, AV.any, AV.any, AV.any, AV.any, dv (.bool (decide (e ≠ 0)))], [.live (.box 40 [.d (dsl false false kU8 B), .d (.val (.int .i64 ((a : Nat) : Int))), .d (.val (.int .i64 e))])]⟩) [true, false, true, false, false, false, false, false, false, true] [true]
      (oC (oS rfl rfl (r_assign (av := dv (.int .i64 0)) (lt_of rfl) ⟨rfl, trivial⟩)) (oZ rfl))
      (by kernel_rfl) (by kernel_rfl) ?_
    refine nT ?_
    refine T.ret ?_
    refine rT ?_
    exact tE (.inl rfl) [.t 2 (.one (.d (.val (.int .i64 0))))] ⟨⟨rfl, rfl⟩, trivial⟩ [0] (by have e1 : (rdI (B.drop a) e : Int) = 0 := (by first | rfl | exact hr.2 | exact hr.2.symm | (rw [hr.2]; first | done | rfl | omega) | (rw [rfA_ok hr.1]; first | done | rfl) | (rw [rfA_no hr.1]) | (simp only [rdI]; first | (rw [if_pos hr.1, ← rfN_ok (by assumption)]; done) | (rw [if_pos hr.1]; done) | (rw [if_neg hr.1]; first | done | rfl))); have hE := congrArg (fun (q1 : Int) => (dv (.int .i64 q1) : AV)) e1; exact hE) rfl rfl rfl rfl rfl ⟨⟨rfl, (by have e1 : (((a : Nat) : Int) : Int) = ((rfA B a e 8 0 : Nat) : Int) := (by first | rfl | exact hr.2 | exact hr.2.symm | (rw [hr.2]; first | done | rfl | omega) | (rw [rfA_ok hr.1]; first | done | rfl) | (rw [rfA_no hr.1]) | (simp only [rdI]; first | (rw [if_pos hr.1, ← rfN_ok (by assumption)]; done) | (rw [if_pos hr.1]; done) | (rw [if_neg hr.1]; first | done | rfl))); have e2 : (e : Int) = (rdE (B.drop a) e 8 0) := (by first | rfl | exact hr.2 | exact hr.2.symm | (rw [hr.2]; first | done | rfl | omega) | (rw [rfA_ok hr.1]; first | done | rfl) | (rw [rfA_no hr.1]) | (simp only [rdI]; first | (rw [if_pos hr.1, ← rfN_ok (by assumption)]; done) | (rw [if_pos hr.1]; done) | (rw [if_neg hr.1]; first | done | rfl))); have hE := congr (congrArg (fun (q1 : Int) (q2 : Int) => (.live (.box 40 [.d (dsl false false kU8 B), .d (.val (.int .i64 q1)), .d (.val (.int .i64 q2))]) : HS)) e1) e2; exact hE)⟩, trivial⟩
  · refine T.condF (b := (decide (e ≠ 0))) rfl (decide_eq_false hq1) ?_
    refine T.skip ?_
    refine nT ?_
    refine T.seq ?_
    refine tR (s1 := ⟨[pv 0 0, AV.any, dv (.int .i64 0), dv (.int .u64 ((rfN B a 8 : Nat) : Int)), dv (.bool (decide (a + 8 ≤ B.length))), AV.any, AV.any, AV.any, AV.any, dv (.bool (decide (e ≠ 0)))], [.live (.box 40 [.d (dsl false false kU8 B), .d (.val (.int .i64 ((a : Nat) : Int))), .d (.val (.int .i64 e))])]⟩) [true, false, true, true, true, false, false, false, false, true] [true]
      (oC (oS rfl rfl (r_move (av := pv 0 0) (lt_of rfl) trivial))
      (oC (oS rfl rfl (r_call (ref01_number B a e 8 (by first | assumption | omega | (simp only [maxLen, kU8_sz, kSl_sz, k_quaestorlaw01_Item_sz]; omega) | (simp only [maxLen, kU8_sz, kSl_sz, k_quaestorlaw01_Item_sz, List.length_append, List.length_cons, List.length_nil, List.length_take, List.length_drop, List.length_set]; omega) | decide) (by first | assumption | omega | (simp only [maxLen, kU8_sz, kSl_sz, k_quaestorlaw01_Item_sz]; omega) | (simp only [maxLen, kU8_sz, kSl_sz, k_quaestorlaw01_Item_sz, List.length_append, List.length_cons, List.length_nil, List.length_take, List.length_drop, List.length_set]; omega) | decide) (by first | assumption | omega | (simp only [maxLen, kU8_sz, kSl_sz, k_quaestorlaw01_Item_sz]; omega) | (simp only [maxLen, kU8_sz, kSl_sz, k_quaestorlaw01_Item_sz, List.length_append, List.length_cons, List.length_nil, List.length_take, List.length_drop, List.length_set]; omega) | decide)) Try.func52 rfl (by decide) [0] [] (l := [(.tmp 11, pv 0 0), (.const (.int .i64 8), dv (.int .i64 8))]) [] rfl 1 1 rfl rfl rfl rfl rfl rfl rfl rfl rfl ⟨.inl ⟨rfl, rfl⟩, ⟨.inl ⟨rfl, rfl⟩, trivial⟩⟩ rfl (fun b hb => by cases hb) (.inl rfl) (lt_of rfl) ⟨rfl, trivial⟩))
      (oC (oS rfl rfl (r_move (av := .tup [.one (.d (.val (.int .u64 ((rfN B a 8 : Nat) : Int)))), .one (.d (.val (.bool (decide (a + 8 ≤ B.length)))))]) (lt_of rfl) trivial))
      (oC (oS rfl rfl (r_extract (l := [.one (.d (.val (.int .u64 ((rfN B a 8 : Nat) : Int)))), .one (.d (.val (.bool (decide (a + 8 ≤ B.length)))))]) (tv := .one (.d (.val (.int .u64 ((rfN B a 8 : Nat) : Int))))) rfl (lt_of rfl) trivial))
      (oC (oS rfl rfl (r_extract (l := [.one (.d (.val (.int .u64 ((rfN B a 8 : Nat) : Int)))), .one (.d (.val (.bool (decide (a + 8 ≤ B.length)))))]) (tv := .one (.d (.val (.bool (decide (a + 8 ≤ B.length)))))) rfl (lt_of rfl) trivial))
      (oC (oS rfl rfl (r_assign (av := dv (.int .u64 ((rfN B a 8 : Nat) : Int))) (lt_of rfl) trivial))
      (oC (oS rfl rfl (r_assign (av := dv (.bool (decide (a + 8 ≤ B.length)))) (lt_of rfl) trivial)) (oZ rfl))))))))
      (by kernel_rfl) (by kernel_rfl) ?_
    refine nT ?_
    refine T.seq ?_
    refine T.seq ?_
    refine tR (s1 := ⟨[pv 0 0, AV.any, dv (.int .i64 0), dv (.int .u64 ((rfN B a 8 : Nat) : Int)), dv (.bool (decide (a + 8 ≤ B.length))), AV.any, AV.any, AV.any, AV.any, dv (.bool (decide (e ≠ 0))), AV.any, AV.any, AV.any, AV.any, AV.any, AV.any, dv (.bool (!(decide (a + 8 ≤ B.length))))], [.live (.box 40 [.d (dsl false false kU8 B), .d (.val (.int .i64 ((a : Nat) : Int))), .d (.val (.int .i64 e))])]⟩) [true, false, true, true, true, false, false, false, false, true, false, false, false, false, false, false, true] [true]
      (oC (oS rfl rfl (r_move (av := dv (.bool (decide (a + 8 ≤ B.length)))) (lt_of rfl) trivial))
      (oC (oS rfl rfl (r_un (u := .bool (decide (a + 8 ≤ B.length))) (v := .bool (!(decide (a + 8 ≤ B.length)))) u_not (lt_of rfl) trivial)) (oZ rfl)))
      (by kernel_rfl) (by kernel_rfl) ?_
    refine nT ?_
    by_cases hq2 : a + 8 ≤ B.length
    · have hr := rf_ok (n := 8) (k := 8) (m := 0) rfl (by assumption) hq2 rfl
      refine T.condF (b := (!(decide (a + 8 ≤ B.length)))) rfl (congrArg Bool.not (decide_eq_true hq2)) ?_
      refine T.skip ?_
      refine nT ?_
      refine T.seq ?_
      refine tR (s1 := ⟨[pv 0 0, AV.any, dv (.int .i64 0), dv (.int .u64 ((rfN B a 8 : Nat) : Int)), dv (.bool (decide (a + 8 ≤ B.length))), AV.any, AV.any, AV.any, AV.any, dv (.bool (decide (e ≠ 0))), AV.any, AV.any, AV.any, AV.any, AV.any, AV.any, dv (.bool (!(decide (a + 8 ≤ B.length))))], [.live (.box 40 [.d (dsl false false kU8 B), .d (.val (.int .i64 ((a + 8 : Nat) : Int))), .d (.val (.int .i64 e))])]⟩) [true, false, true, true, true, false, false, false, false, true, false, false, false, false, false, false, true] [true]
        (oC (oS rfl rfl (r_move (av := pv 0 0) (lt_of rfl) trivial))
        (oC (oS rfl rfl (r_nilCheck (av := pv 0 0) rfl (lt_of rfl) trivial))
        (oC (oS rfl rfl (r_fieldAddr (l := 0) (off := 0) fld_40_1 (lt_of rfl) trivial))
        (oC (oS rfl rfl (r_loadB (l := 0) (off := 1) (T := 40) (cs := [.d (dsl false false kU8 B), .d (.val (.int .i64 ((a : Nat) : Int))), .d (.val (.int .i64 e))]) (c := .d (.val (.int .i64 ((a : Nat) : Int)))) wide_3 rfl (lt_of rfl) trivial))
        (oC (oS rfl rfl (r_bin (u1 := .int .i64 ((a : Nat) : Int)) (u2 := .int .i64 8) (v := .int .i64 ((a + 8 : Nat) : Int)) (b_add (by rw [IntKind.wrap_i64]; omega)) (lt_of rfl) ⟨rfl, trivial⟩))
        (oC (oS rfl rfl (r_nilCheck (av := pv 0 0) rfl (lt_of rfl) trivial))
        (oC (oS rfl rfl (r_fieldAddr (l := 0) (off := 0) fld_40_1 (lt_of rfl) trivial))
        (oC (oS rfl rfl (r_store (l := 0) (off := 1) (n := 1) (T := 40) (cs := [.d (dsl false false kU8 B), .d (.val (.int .i64 ((a : Nat) : Int))), .d (.val (.int .i64 e))]) (cs' := [.d (dsl false false kU8 B), .d (.val (.int .i64 ((a + 8 : Nat) : Int))), .d (.val (.int .i64 e))]) (tv := .one (.d (.val (.int .i64 ((a + 8 : Nat) : Int))))) cells_3 rfl (Nat.le_of_ble_eq_true rfl) rfl rfl trivial)) (oZ rfl)))))))))
        (by kernel_rfl) (by kernel_rfl) ?_
      refine nT ?_
      refine T.seq ?_
      refine tR (s1 := ⟨[pv 0 0, AV.any, dv (.int .i64 (toI64 (rfN B a 8))), dv (.int .u64 ((rfN B a 8 : Nat) : Int)), dv (.bool (decide (a + 8 ≤ B.length))), AV.any, AV.any, AV.any, AV.any, dv (.bool (decide (e ≠ 0))), AV.any, AV.any, AV.any, AV.any, AV.any, AV.any, dv (.bool (!(decide (a + 8 ≤ B.length))))], [.live (.box 40 [.d (dsl false false kU8 B), .d (.val (.int .i64 ((a + 8 : Nat) : Int))), .d (.val (.int .i64 e))])]⟩) [true, false, true, true, true, false, false, false, false, true, false, false, false, false, false, false, true] [true]
        (oC (oS rfl rfl (r_move (av := dv (.int .u64 ((rfN B a 8 : Nat) : Int))) (lt_of rfl) trivial))
        (oC (oS rfl rfl (r_conv (u := .int .u64 ((rfN B a 8 : Nat) : Int)) (v := .int .i64 (toI64 (rfN B a 8))) (c_i64 (by first | assumption | omega | (simp only [maxLen, kU8_sz, kSl_sz, k_quaestorlaw01_Item_sz]; omega) | (simp only [maxLen, kU8_sz, kSl_sz, k_quaestorlaw01_Item_sz, List.length_append, List.length_cons, List.length_nil, List.length_take, List.length_drop, List.length_set]; omega) | decide) Try.underlying48 Try.underlying2) (lt_of rfl) trivial))
        (oC (oS rfl rfl (r_assign (av := dv (.int .i64 (toI64 (rfN B a 8)))) (lt_of rfl) trivial)) (oZ rfl))))
        (by kernel_rfl) (by kernel_rfl) ?_
      refine nT ?_
      refine T.ret ?_
      exact tE (.inl rfl) [.t 2 (.one (.d (.val (.int .i64 (toI64 (rfN B a 8))))))] ⟨⟨rfl, rfl⟩, trivial⟩ [0] (by have e1 : (rdI (B.drop a) e : Int) = toI64 (rfN B a 8) := (by first | rfl | exact hr.2 | exact hr.2.symm | (rw [hr.2]; first | done | rfl | omega) | (rw [rfA_ok hr.1]; first | done | rfl) | (rw [rfA_no hr.1]) | (simp only [rdI]; first | (rw [if_pos hr.1, ← rfN_ok (by assumption)]; done) | (rw [if_pos hr.1]; done) | (rw [if_neg hr.1]; first | done | rfl))); have hE := congrArg (fun (q1 : Int) => (dv (.int .i64 q1) : AV)) e1; exact hE) rfl rfl rfl rfl rfl ⟨⟨rfl, (by have e1 : (((a + 8 : Nat) : Int) : Int) = ((rfA B a e 8 0 : Nat) : Int) := (by first | rfl | exact hr.2 | exact hr.2.symm | (rw [hr.2]; first | done | rfl | omega) | (rw [rfA_ok hr.1]; first | done | rfl) | (rw [rfA_no hr.1]) | (simp only [rdI]; first | (rw [if_pos hr.1, ← rfN_ok (by assumption)]; done) | (rw [if_pos hr.1]; done) | (rw [if_neg hr.1]; first | done | rfl))); have e2 : (e : Int) = (rdE (B.drop a) e 8 0) := (by first | rfl | exact hr.2 | exact hr.2.symm | (rw [hr.2]; first | done | rfl | omega) | (rw [rfA_ok hr.1]; first | done | rfl) | (rw [rfA_no hr.1]) | (simp only [rdI]; first | (rw [if_pos hr.1, ← rfN_ok (by assumption)]; done) | (rw [if_pos hr.1]; done) | (rw [if_neg hr.1]; first | done | rfl))); have hE := congr (congrArg (fun (q1 : Int) (q2 : Int) => (.live (.box 40 [.d (dsl false false kU8 B), .d (.val (.int .i64 q1)), .d (.val (.int .i64 q2))]) : HS)) e1) e2; exact hE)⟩, trivial⟩
    · have hr := rf_short (n := 8) (k := 8) rfl (by assumption) hq2 ha 0
      refine T.condT (b := (!(decide (a + 8 ≤ B.length)))) rfl (congrArg Bool.not (decide_eq_false hq2)) ?_
      refine T.seq ?_
      refine tR (s1 := ⟨[pv 0 0, AV.any, dv (.int .i64 0), dv (.int .u64 ((rfN B a 8 : Nat) : Int)), dv (.bool (decide (a + 8 ≤ B.length))), AV.any, AV.any, AV.any, AV.any, dv (.bool (decide (e ≠ 0))), AV.any, AV.any, AV.any, AV.any, AV.any, AV.any, dv (.bool (!(decide (a + 8 ≤ B.length))))], [.live (.box 40 [.d (dsl false false kU8 B), .d (.val (.int .i64 ((a : Nat) : Int))), .d (.val (.int .i64 10))])]⟩) [true, false, true, true, true, false, false, false, false, true, false, false, false, false, false, false, true] [true]
        (oC (oS rfl rfl (r_move (av := pv 0 0) (lt_of rfl) trivial))
        (oC (oS rfl rfl (r_nilCheck (av := pv 0 0) rfl (lt_of rfl) trivial))
        (oC (oS rfl rfl (r_fieldAddr (l := 0) (off := 0) fld_40_2 (lt_of rfl) trivial))
        (oC (oS rfl rfl (r_store (l := 0) (off := 2) (n := 1) (T := 40) (cs := [.d (dsl false false kU8 B), .d (.val (.int .i64 ((a : Nat) : Int))), .d (.val (.int .i64 e))]) (cs' := [.d (dsl false false kU8 B), .d (.val (.int .i64 ((a : Nat) : Int))), .d (.val (.int .i64 10))]) (tv := .one (.d (.val (.int .i64 10)))) cells_35 rfl (Nat.le_of_ble_eq_true rfl) rfl rfl ⟨rfl, trivial⟩)) (oZ rfl)))))
        (by kernel_rfl) (by kernel_rfl) ?_
      refine nT ?_
      refine T.seq ?_
      refine tR (s1 := ⟨[pv 0 0, AV.any, dv (.int .i64 0), dv (.int .u64 ((rfN B a 8 : Nat) : Int)), dv (.bool (decide (a + 8 ≤ B.length))), AV.any, AV.any, AV.any, AV.any, dv (.bool (decide (e ≠ 0))), AV.any, AV.any, AV.any, AV.any, AV.any, AV.any, dv (.bool (!(decide (a + 8 ≤ B.length))))], [.live (.box 40 [.d (dsl false false kU8 B), .d (.val (.int .i64 ((a : Nat) : Int))), .d (.val (.int .i64 10))])]⟩) [true, false, true, true, true, false, false, false, false, true, false, false, false, false, false, false, true] [true]
        (oC (oS rfl rfl (r_assign (av := dv (.int .i64 0)) (lt_of rfl) ⟨rfl, trivial⟩)) (oZ rfl))
        (by kernel_rfl) (by kernel_rfl) ?_
      refine nT ?_
      refine T.ret ?_
      refine rT ?_
      exact tE (.inl rfl) [.t 2 (.one (.d (.val (.int .i64 0))))] ⟨⟨rfl, rfl⟩, trivial⟩ [0] (by have e1 : (rdI (B.drop a) e : Int) = 0 := (by first | rfl | exact hr.2 | exact hr.2.symm | (rw [hr.2]; first | done | rfl | omega) | (rw [rfA_ok hr.1]; first | done | rfl) | (rw [rfA_no hr.1]) | (simp only [rdI]; first | (rw [if_pos hr.1, ← rfN_ok (by assumption)]; done) | (rw [if_pos hr.1]; done) | (rw [if_neg hr.1]; first | done | rfl))); have hE := congrArg (fun (q1 : Int) => (dv (.int .i64 q1) : AV)) e1; exact hE) rfl rfl rfl rfl rfl ⟨⟨rfl, (by have e1 : (((a : Nat) : Int) : Int) = ((rfA B a e 8 0 : Nat) : Int) := (by first | rfl | exact hr.2 | exact hr.2.symm | (rw [hr.2]; first | done | rfl | omega) | (rw [rfA_ok hr.1]; first | done | rfl) | (rw [rfA_no hr.1]) | (simp only [rdI]; first | (rw [if_pos hr.1, ← rfN_ok (by assumption)]; done) | (rw [if_pos hr.1]; done) | (rw [if_neg hr.1]; first | done | rfl))); have e2 : (10 : Int) = (rdE (B.drop a) e 8 0) := (by first | rfl | exact hr.2 | exact hr.2.symm | (rw [hr.2]; first | done | rfl | omega) | (rw [rfA_ok hr.1]; first | done | rfl) | (rw [rfA_no hr.1]) | (simp only [rdI]; first | (rw [if_pos hr.1, ← rfN_ok (by assumption)]; done) | (rw [if_pos hr.1]; done) | (rw [if_neg hr.1]; first | done | rfl))); have hE := congr (congrArg (fun (q1 : Int) (q2 : Int) => (.live (.box 40 [.d (dsl false false kU8 B), .d (.val (.int .i64 q1)), .d (.val (.int .i64 q2))]) : HS)) e1) e2; exact hE)⟩, trivial⟩

-- (*quaestor/quaestorref01.Reader).Bool
theorem ref01_rBool (B : List UInt8) (a : Nat) (e : Int) (ha : a ≤ B.length) (hB : B.length ≤ 140737488350000) : Holds Try.prog 34 ⟨[pv 0 0], [.box 40 [.d (dsl false false kU8 B), .d (.val (.int .i64 ((a : Nat) : Int))), .d (.val (.int .i64 e))]], dv (.bool (rdB (B.drop a) e)), [.live (.box 40 [.d (dsl false false kU8 B), .d (.val (.int .i64 ((rfA B a e 1 (truthE ((B.drop a).take 1)) : Nat) : Int))), .d (.val (.int .i64 (rdE (B.drop a) e 1 (truthE ((B.drop a).take 1)))))])]⟩ := by
  refine Holds.of Try.func34 rfl (N := 34) Try.ntmps34 rfl fun w0 B0 S0 U0 => ?_
  show T _ (mkBase 34 1 w0 S0 U0 B0) ⟨[pv 0 0], [.live (.box 40 [.d (dsl false false kU8 B), .d (.val (.int .i64 ((a : Nat) : Int))), .d (.val (.int .i64 e))])]⟩ _ _
  refine T.seq ?_
  refine tR (s1 := ⟨[pv 0 0, AV.any, dv (.bool false)], [.live (.box 40 [.d (dsl false false kU8 B), .d (.val (.int .i64 ((a : Nat) : Int))), .d (.val (.int .i64 e))])]⟩) [true, false, true] [true]
    (oC (oS rfl rfl (r_assign (av := dv (.bool false)) (lt_of rfl) ⟨rfl, trivial⟩)) (oZ rfl))
    (by kernel_rfl) (by kernel_rfl) ?_
  refine nT ?_
  refine T.seq ?_
  refine T.seq ?_
  refine tR (s1 := ⟨[pv 0 0, AV.any, dv (.bool false), AV.any, AV.any, AV.any, AV.any, AV.any, AV.any, dv (.bool (decide (e ≠ 0)))], [.live (.box 40 [.d (dsl false false kU8 B), .d (.val (.int .i64 ((a : Nat) : Int))), .d (.val (.int .i64 e))])]⟩) [true, false, true, false, false, false, false, false, false, true] [true]
    (oC (oS rfl rfl (r_move (av := pv 0 0) (lt_of rfl) trivial))
    (oC (oS rfl rfl (r_nilCheck (av := pv 0 0) rfl (lt_of rfl) trivial))
    (oC (oS rfl rfl (r_fieldAddr (l := 0) (off := 0) fld_40_2 (lt_of rfl) trivial))
    (oC (oS rfl rfl (r_loadB (l := 0) (off := 2) (T := 40) (cs := [.d (dsl false false kU8 B), .d (.val (.int .i64 ((a : Nat) : Int))), .d (.val (.int .i64 e))]) (c := .d (.val (.int .i64 e))) wide_35 rfl (lt_of rfl) trivial))
    (oC (oS rfl rfl (r_bin (u1 := .int .i64 e) (u2 := .int .i64 0) (v := .bool (decide (e ≠ 0))) b_neq (lt_of rfl) ⟨rfl, trivial⟩)) (oZ rfl))))))
    (by kernel_rfl) (by kernel_rfl) ?_
  refine nT ?_
  by_cases hq1 : e ≠ 0
  · have hr := rf_e (B := B) (a := a) hq1 1 (truthE ((B.drop a).take 1))
    refine T.condT (b := (decide (e ≠ 0))) rfl (decide_eq_true hq1) ?_
    refine T.seq ?_
    refine tR (s1 := ⟨[pv 0 0, AV.any, dv (.bool false), AV.any, AV.any, AV.any, AV.any, AV.any, AV.any, dv (.bool (decide (e ≠ 0)))], [.live (.box 40 [.d (dsl false false kU8 B), .d (.val (.int .i64 ((a : Nat) : Int))), .d (.val (.int .i64 e))])]⟩) [true, false, true, false, false, false, false, false, false, true] [true]
      (oC (oS rfl rfl (r_assign (av := dv (.bool false)) (lt_of rfl) ⟨rfl, trivial⟩)) (oZ rfl))
      (by kernel_rfl) (by kernel_rfl) ?_
    refine nT ?_
    refine T.ret ?_
    refine rT ?_
    exact tE (.inl rfl) [.t 2 (.one (.d (.val (.bool false))))] ⟨⟨rfl, rfl⟩, trivial⟩ [0] (by have e1 : ((rdB (B.drop a) e) : Bool) = false := (by first | rfl | exact hr.2 | exact hr.2.symm | (rw [hr.2]; first | done | rfl | omega) | (rw [rfA_ok hr.1]; first | done | rfl) | (rw [rfA_no hr.1]) | (simp only [rdB]; first | (rw [if_pos hr.1, ← rfN_ok (by assumption)]; done) | (rw [if_pos hr.1]; done) | (rw [if_neg hr.1]; first | done | rfl)) | (rw [rdB_ok hr.1, bool_of (by assumption)]) | (rw [rdB_no hr.1])); have hE := congrArg (fun (q1 : Bool) => (dv (.bool q1) : AV)) e1; exact hE) rfl rfl rfl rfl rfl ⟨⟨rfl, (by have e1 : (((a : Nat) : Int) : Int) = ((rfA B a e 1 (truthE ((B.drop a).take 1)) : Nat) : Int) := (by first | rfl | exact hr.2 | exact hr.2.symm | (rw [hr.2]; first | done | rfl | omega) | (rw [rfA_ok hr.1]; first | done | rfl) | (rw [rfA_no hr.1]) | (simp only [rdB]; first | (rw [if_pos hr.1, ← rfN_ok (by assumption)]; done) | (rw [if_pos hr.1]; done) | (rw [if_neg hr.1]; first | done | rfl)) | (rw [rdB_ok hr.1, bool_of (by assumption)]) | (rw [rdB_no hr.1])); have e2 : (e : Int) = (rdE (B.drop a) e 1 (truthE ((B.drop a).take 1))) := (by first | rfl | exact hr.2 | exact hr.2.symm | (rw [hr.2]; first | done | rfl | omega) | (rw [rfA_ok hr.1]; first | done | rfl) | (rw [rfA_no hr.1]) | (simp only [rdB]; first | (rw [if_pos hr.1, ← rfN_ok (by assumption)]; done) | (rw [if_pos hr.1]; done) | (rw [if_neg hr.1]; first | done | rfl)) | (rw [rdB_ok hr.1, bool_of (by assumption)]) | (rw [rdB_no hr.1])); have hE := congr (congrArg (fun (q1 : Int) (q2 : Int) => (.live (.box 40 [.d (dsl false false kU8 B), .d (.val (.int .i64 q1)), .d (.val (.int .i64 q2))]) : HS)) e1) e2; exact hE)⟩, trivial⟩
  · refine T.condF (b := (decide (e ≠ 0))) rfl (decide_eq_false hq1) ?_
    refine T.skip ?_
    refine nT ?_
    refine T.seq ?_
    refine tR (s1 := ⟨[pv 0 0, AV.any, dv (.bool false), dv (.int .u64 ((rfN B a 1 : Nat) : Int)), dv (.bool (decide (a + 1 ≤ B.length))), AV.any, AV.any, AV.any, AV.any, dv (.bool (decide (e ≠ 0)))], [.live (.box 40 [.d (dsl false false kU8 B), .d (.val (.int .i64 ((a : Nat) : Int))), .d (.val (.int .i64 e))])]⟩) [true, false, true, true, true, false, false, false, false, true] [true]
      (oC (oS rfl rfl (r_move (av := pv 0 0) (lt_of rfl) trivial))
      (oC (oS rfl rfl (r_call (ref01_number B a e 1 (by first | assumption | omega | (simp only [maxLen, kU8_sz, kSl_sz, k_quaestorlaw01_Item_sz]; omega) | (simp only [maxLen, kU8_sz, kSl_sz, k_quaestorlaw01_Item_sz, List.length_append, List.length_cons, List.length_nil, List.length_take, List.length_drop, List.length_set]; omega) | decide) (by first | assumption | omega | (simp only [maxLen, kU8_sz, kSl_sz, k_quaestorlaw01_Item_sz]; omega) | (simp only [maxLen, kU8_sz, kSl_sz, k_quaestorlaw01_Item_sz, List.length_append, List.length_cons, List.length_nil, List.length_take, List.length_drop, List.length_set]; omega) | decide) (by first | assumption | omega | (simp only [maxLen, kU8_sz, kSl_sz, k_quaestorlaw01_Item_sz]; omega) | (simp only [maxLen, kU8_sz, kSl_sz, k_quaestorlaw01_Item_sz, List.length_append, List.length_cons, List.length_nil, List.length_take, List.length_drop, List.length_set]; omega) | decide)) Try.func52 rfl (by decide) [0] [] (l := [(.tmp 11, pv 0 0), (.const (.int .i64 1), dv (.int .i64 1))]) [] rfl 1 1 rfl rfl rfl rfl rfl rfl rfl rfl rfl ⟨.inl ⟨rfl, rfl⟩, ⟨.inl ⟨rfl, rfl⟩, trivial⟩⟩ rfl (fun b hb => by cases hb) (.inl rfl) (lt_of rfl) ⟨rfl, trivial⟩))
      (oC (oS rfl rfl (r_move (av := .tup [.one (.d (.val (.int .u64 ((rfN B a 1 : Nat) : Int)))), .one (.d (.val (.bool (decide (a + 1 ≤ B.length)))))]) (lt_of rfl) trivial))
      (oC (oS rfl rfl (r_extract (l := [.one (.d (.val (.int .u64 ((rfN B a 1 : Nat) : Int)))), .one (.d (.val (.bool (decide (a + 1 ≤ B.length)))))]) (tv := .one (.d (.val (.int .u64 ((rfN B a 1 : Nat) : Int))))) rfl (lt_of rfl) trivial))
      (oC (oS rfl rfl (r_extract (l := [.one (.d (.val (.int .u64 ((rfN B a 1 : Nat) : Int)))), .one (.d (.val (.bool (decide (a + 1 ≤ B.length)))))]) (tv := .one (.d (.val (.bool (decide (a + 1 ≤ B.length)))))) rfl (lt_of rfl) trivial))
      (oC (oS rfl rfl (r_assign (av := dv (.int .u64 ((rfN B a 1 : Nat) : Int))) (lt_of rfl) trivial))
      (oC (oS rfl rfl (r_assign (av := dv (.bool (decide (a + 1 ≤ B.length)))) (lt_of rfl) trivial)) (oZ rfl))))))))
      (by kernel_rfl) (by kernel_rfl) ?_
    refine nT ?_
    refine T.seq ?_
    refine T.seq ?_
    refine tR (s1 := ⟨[pv 0 0, AV.any, dv (.bool false), dv (.int .u64 ((rfN B a 1 : Nat) : Int)), dv (.bool (decide (a + 1 ≤ B.length))), AV.any, AV.any, AV.any, AV.any, dv (.bool (decide (e ≠ 0))), AV.any, AV.any, AV.any, AV.any, AV.any, AV.any, dv (.bool (!(decide (a + 1 ≤ B.length))))], [.live (.box 40 [.d (dsl false false kU8 B), .d (.val (.int .i64 ((a : Nat) : Int))), .d (.val (.int .i64 e))])]⟩) [true, false, true, true, true, false, false, false, false, true, false, false, false, false, false, false, true] [true]
      (oC (oS rfl rfl (r_move (av := dv (.bool (decide (a + 1 ≤ B.length)))) (lt_of rfl) trivial))
      (oC (oS rfl rfl (r_un (u := .bool (decide (a + 1 ≤ B.length))) (v := .bool (!(decide (a + 1 ≤ B.length)))) u_not (lt_of rfl) trivial)) (oZ rfl)))
      (by kernel_rfl) (by kernel_rfl) ?_
    refine nT ?_
    by_cases hq2 : a + 1 ≤ B.length
    · refine T.condF (b := (!(decide (a + 1 ≤ B.length)))) rfl (congrArg Bool.not (decide_eq_true hq2)) ?_
      refine T.skip ?_
      refine nT ?_
      refine T.seq ?_
      refine T.seq ?_
      refine tR (s1 := ⟨[pv 0 0, AV.any, dv (.bool false), dv (.int .u64 ((rfN B a 1 : Nat) : Int)), dv (.bool (decide (a + 1 ≤ B.length))), AV.any, AV.any, AV.any, AV.any, dv (.bool (decide (e ≠ 0))), AV.any, AV.any, AV.any, AV.any, AV.any, AV.any, dv (.bool (!(decide (a + 1 ≤ B.length)))), AV.any, AV.any, AV.any, AV.any, dv (.bool (decide (((rfN B a 1 : Nat) : Int) > 1)))], [.live (.box 40 [.d (dsl false false kU8 B), .d (.val (.int .i64 ((a : Nat) : Int))), .d (.val (.int .i64 e))])]⟩) [true, false, true, true, true, false, false, false, false, true, false, false, false, false, false, false, true, false, false, false, false, true] [true]
        (oC (oS rfl rfl (r_move (av := dv (.int .u64 ((rfN B a 1 : Nat) : Int))) (lt_of rfl) trivial))
        (oC (oS rfl rfl (r_bin (u1 := .int .u64 ((rfN B a 1 : Nat) : Int)) (u2 := .int .u64 1) (v := .bool (decide (((rfN B a 1 : Nat) : Int) > 1))) b_gtr (lt_of rfl) ⟨rfl, trivial⟩)) (oZ rfl)))
        (by kernel_rfl) (by kernel_rfl) ?_
      refine nT ?_
      by_cases hq3 : ((rfN B a 1 : Nat) : Int) > 1
      · have hr := rf_m (n := 1) (k := 1) (c := 12) (m := (truthE ((B.drop a).take 1))) rfl (by assumption) (by assumption) (by rw [truth_of (by assumption), if_pos (by assumption)]) (by decide)
        refine T.condT (b := (decide (((rfN B a 1 : Nat) : Int) > 1))) rfl (decide_eq_true hq3) ?_
        refine T.seq ?_
        refine tR (s1 := ⟨[pv 0 0, AV.any, dv (.bool false), dv (.int .u64 ((rfN B a 1 : Nat) : Int)), dv (.bool (decide (a + 1 ≤ B.length))), AV.any, AV.any, AV.any, AV.any, dv (.bool (decide (e ≠ 0))), AV.any, AV.any, AV.any, AV.any, AV.any, AV.any, dv (.bool (!(decide (a + 1 ≤ B.length)))), AV.any, AV.any, AV.any, AV.any, dv (.bool (decide (((rfN B a 1 : Nat) : Int) > 1)))], [.live (.box 40 [.d (dsl false false kU8 B), .d (.val (.int .i64 ((a : Nat) : Int))), .d (.val (.int .i64 12))])]⟩) [true, false, true, true, true, false, false, false, false, true, false, false, false, false, false, false, true, false, false, false, false, true] [true]
          (oC (oS rfl rfl (r_move (av := pv 0 0) (lt_of rfl) trivial))
          (oC (oS rfl rfl (r_nilCheck (av := pv 0 0) rfl (lt_of rfl) trivial))
          (oC (oS rfl rfl (r_fieldAddr (l := 0) (off := 0) fld_40_2 (lt_of rfl) trivial))
          (oC (oS rfl rfl (r_store (l := 0) (off := 2) (n := 1) (T := 40) (cs := [.d (dsl false false kU8 B), .d (.val (.int .i64 ((a : Nat) : Int))), .d (.val (.int .i64 e))]) (cs' := [.d (dsl false false kU8 B), .d (.val (.int .i64 ((a : Nat) : Int))), .d (.val (.int .i64 12))]) (tv := .one (.d (.val (.int .i64 12)))) cells_35 rfl (Nat.le_of_ble_eq_true rfl) rfl rfl ⟨rfl, trivial⟩)) (oZ rfl)))))
          (by kernel_rfl) (by kernel_rfl) ?_
        refine nT ?_
        refine T.seq ?_
        refine tR (s1 := ⟨[pv 0 0, AV.any, dv (.bool false), dv (.int .u64 ((rfN B a 1 : Nat) : Int)), dv (.bool (decide (a + 1 ≤ B.length))), AV.any, AV.any, AV.any, AV.any, dv (.bool (decide (e ≠ 0))), AV.any, AV.any, AV.any, AV.any, AV.any, AV.any, dv (.bool (!(decide (a + 1 ≤ B.length)))), AV.any, AV.any, AV.any, AV.any, dv (.bool (decide (((rfN B a 1 : Nat) : Int) > 1)))], [.live (.box 40 [.d (dsl false false kU8 B), .d (.val (.int .i64 ((a : Nat) : Int))), .d (.val (.int .i64 12))])]⟩) [true, false, true, true, true, false, false, false, false, true, false, false, false, false, false, false, true, false, false, false, false, true] [true]
          (oC (oS rfl rfl (r_assign (av := dv (.bool false)) (lt_of rfl) ⟨rfl, trivial⟩)) (oZ rfl))
          (by kernel_rfl) (by kernel_rfl) ?_
        refine nT ?_
        refine T.ret ?_
        refine rT ?_
        exact tE (.inl rfl) [.t 2 (.one (.d (.val (.bool false))))] ⟨⟨rfl, rfl⟩, trivial⟩ [0] (by have e1 : ((rdB (B.drop a) e) : Bool) = false := (by first | rfl | exact hr.2 | exact hr.2.symm | (rw [hr.2]; first | done | rfl | omega) | (rw [rfA_ok hr.1]; first | done | rfl) | (rw [rfA_no hr.1]) | (simp only [rdB]; first | (rw [if_pos hr.1, ← rfN_ok (by assumption)]; done) | (rw [if_pos hr.1]; done) | (rw [if_neg hr.1]; first | done | rfl)) | (rw [rdB_ok hr.1, bool_of (by assumption)]) | (rw [rdB_no hr.1])); have hE := congrArg (fun (q1 : Bool) => (dv (.bool q1) : AV)) e1; exact hE) rfl rfl rfl rfl rfl ⟨⟨rfl, (by have e1 : (((a : Nat) : Int) : Int) = ((rfA B a e 1 (truthE ((B.drop a).take 1)) : Nat) : Int) := (by first | rfl | exact hr.2 | exact hr.2.symm | (rw [hr.2]; first | done | rfl | omega) | (rw [rfA_ok hr.1]; first | done | rfl) | (rw [rfA_no hr.1]) | (simp only [rdB]; first | (rw [if_pos hr.1, ← rfN_ok (by assumption)]; done) | (rw [if_pos hr.1]; done) | (rw [if_neg hr.1]; first | done | rfl)) | (rw [rdB_ok hr.1, bool_of (by assumption)]) | (rw [rdB_no hr.1])); have e2 : (12 : Int) = (rdE (B.drop a) e 1 (truthE ((B.drop a).take 1))) := (by first | rfl | exact hr.2 | exact hr.2.symm | (rw [hr.2]; first | done | rfl | omega) | (rw [rfA_ok hr.1]; first | done | rfl) | (rw [rfA_no hr.1]) | (simp only [rdB]; first | (rw [if_pos hr.1, ← rfN_ok (by assumption)]; done) | (rw [if_pos hr.1]; done) | (rw [if_neg hr.1]; first | done | rfl)) | (rw [rdB_ok hr.1, bool_of (by assumption)]) | (rw [rdB_no hr.1])); have hE := congr (congrArg (fun (q1 : Int) (q2 : Int) => (.live (.box 40 [.d (dsl false false kU8 B), .d (.val (.int .i64 q1)), .d (.val (.int .i64 q2))]) : HS)) e1) e2; exact hE)⟩, trivial⟩
      · have hr := rf_ok (n := 1) (k := 1) (m := (truthE ((B.drop a).take 1))) rfl (by assumption) (by assumption) (by rw [truth_of (by assumption), if_neg (by assumption)])
        refine T.condF (b := (decide (((rfN B a 1 : Nat) : Int) > 1))) rfl (decide_eq_false hq3) ?_
        refine T.skip ?_
        refine nT ?_
        refine T.seq ?_
        refine tR (s1 := ⟨[pv 0 0, AV.any, dv (.bool false), dv (.int .u64 ((rfN B a 1 : Nat) : Int)), dv (.bool (decide (a + 1 ≤ B.length))), AV.any, AV.any, AV.any, AV.any, dv (.bool (decide (e ≠ 0))), AV.any, AV.any, AV.any, AV.any, AV.any, AV.any, dv (.bool (!(decide (a + 1 ≤ B.length)))), AV.any, AV.any, AV.any, AV.any, dv (.bool (decide (((rfN B a 1 : Nat) : Int) > 1)))], [.live (.box 40 [.d (dsl false false kU8 B), .d (.val (.int .i64 ((a + 1 : Nat) : Int))), .d (.val (.int .i64 e))])]⟩) [true, false, true, true, true, false, false, false, false, true, false, false, false, false, false, false, true, false, false, false, false, true] [true]
          (oC (oS rfl rfl (r_move (av := pv 0 0) (lt_of rfl) trivial))
          (oC (oS rfl rfl (r_nilCheck (av := pv 0 0) rfl (lt_of rfl) trivial))
          (oC (oS rfl rfl (r_fieldAddr (l := 0) (off := 0) fld_40_1 (lt_of rfl) trivial))
          (oC (oS rfl rfl (r_loadB (l := 0) (off := 1) (T := 40) (cs := [.d (dsl false false kU8 B), .d (.val (.int .i64 ((a : Nat) : Int))), .d (.val (.int .i64 e))]) (c := .d (.val (.int .i64 ((a : Nat) : Int)))) wide_3 rfl (lt_of rfl) trivial))
          (oC (oS rfl rfl (r_bin (u1 := .int .i64 ((a : Nat) : Int)) (u2 := .int .i64 1) (v := .int .i64 ((a + 1 : Nat) : Int)) (b_add (by rw [IntKind.wrap_i64]; omega)) (lt_of rfl) ⟨rfl, trivial⟩))
          (oC (oS rfl rfl (r_nilCheck (av := pv 0 0) rfl (lt_of rfl) trivial))
          (oC (oS rfl rfl (r_fieldAddr (l := 0) (off := 0) fld_40_1 (lt_of rfl) trivial))
          (oC (oS rfl rfl (r_store (l := 0) (off := 1) (n := 1) (T := 40) (cs := [.d (dsl false false kU8 B), .d (.val (.int .i64 ((a : Nat) : Int))), .d (.val (.int .i64 e))]) (cs' := [.d (dsl false false kU8 B), .d (.val (.int .i64 ((a + 1 : Nat) : Int))), .d (.val (.int .i64 e))]) (tv := .one (.d (.val (.int .i64 ((a + 1 : Nat) : Int))))) cells_3 rfl (Nat.le_of_ble_eq_true rfl) rfl rfl trivial)) (oZ rfl)))))))))
          (by kernel_rfl) (by kernel_rfl) ?_
        refine nT ?_
        refine T.seq ?_
        refine tR (s1 := ⟨[pv 0 0, AV.any, dv (.bool (decide (((rfN B a 1 : Nat) : Int) = 1))), dv (.int .u64 ((rfN B a 1 : Nat) : Int)), dv (.bool (decide (a + 1 ≤ B.length))), AV.any, AV.any, AV.any, AV.any, dv (.bool (decide (e ≠ 0))), AV.any, AV.any, AV.any, AV.any, AV.any, AV.any, dv (.bool (!(decide (a + 1 ≤ B.length)))), AV.any, AV.any, AV.any, AV.any, dv (.bool (decide (((rfN B a 1 : Nat) : Int) > 1)))], [.live (.box 40 [.d (dsl false false kU8 B), .d (.val (.int .i64 ((a + 1 : Nat) : Int))), .d (.val (.int .i64 e))])]⟩) [true, false, true, true, true, false, false, false, false, true, false, false, false, false, false, false, true, false, false, false, false, true] [true]
          (oC (oS rfl rfl (r_move (av := dv (.int .u64 ((rfN B a 1 : Nat) : Int))) (lt_of rfl) trivial))
          (oC (oS rfl rfl (r_bin (u1 := .int .u64 ((rfN B a 1 : Nat) : Int)) (u2 := .int .u64 1) (v := .bool (decide (((rfN B a 1 : Nat) : Int) = 1))) b_eql (lt_of rfl) ⟨rfl, trivial⟩))
          (oC (oS rfl rfl (r_assign (av := dv (.bool (decide (((rfN B a 1 : Nat) : Int) = 1)))) (lt_of rfl) trivial)) (oZ rfl))))
          (by kernel_rfl) (by kernel_rfl) ?_
        refine nT ?_
        refine T.ret ?_
        exact tE (.inl rfl) [.t 2 (.one (.d (.val (.bool (decide (((rfN B a 1 : Nat) : Int) = 1))))))] ⟨⟨rfl, rfl⟩, trivial⟩ [0] (by have e1 : ((rdB (B.drop a) e) : Bool) = (decide (((rfN B a 1 : Nat) : Int) = 1)) := (by first | rfl | exact hr.2 | exact hr.2.symm | (rw [hr.2]; first | done | rfl | omega) | (rw [rfA_ok hr.1]; first | done | rfl) | (rw [rfA_no hr.1]) | (simp only [rdB]; first | (rw [if_pos hr.1, ← rfN_ok (by assumption)]; done) | (rw [if_pos hr.1]; done) | (rw [if_neg hr.1]; first | done | rfl)) | (rw [rdB_ok hr.1, bool_of (by assumption)]) | (rw [rdB_no hr.1])); have hE := congrArg (fun (q1 : Bool) => (dv (.bool q1) : AV)) e1; exact hE) rfl rfl rfl rfl rfl ⟨⟨rfl, (by have e1 : (((a + 1 : Nat) : Int) : Int) = ((rfA B a e 1 (truthE ((B.drop a).take 1)) : Nat) : Int) := (by first | rfl | exact hr.2 | exact hr.2.symm | (rw [hr.2]; first | done | rfl | omega) | (rw [rfA_ok hr.1]; first | done | rfl) | (rw [rfA_no hr.1]) | (simp only [rdB]; first | (rw [if_pos hr.1, ← rfN_ok (by assumption)]; done) | (rw [if_pos hr.1]; done) | (rw [if_neg hr.1]; first | done | rfl)) | (rw [rdB_ok hr.1, bool_of (by assumption)]) | (rw [rdB_no hr.1])); have e2 : (e : Int) = (rdE (B.drop a) e 1 (truthE ((B.drop a).take 1))) := (by first | rfl | exact hr.2 | exact hr.2.symm | (rw [hr.2]; first | done | rfl | omega) | (rw [rfA_ok hr.1]; first | done | rfl) | (rw [rfA_no hr.1]) | (simp only [rdB]; first | (rw [if_pos hr.1, ← rfN_ok (by assumption)]; done) | (rw [if_pos hr.1]; done) | (rw [if_neg hr.1]; first | done | rfl)) | (rw [rdB_ok hr.1, bool_of (by assumption)]) | (rw [rdB_no hr.1])); have hE := congr (congrArg (fun (q1 : Int) (q2 : Int) => (.live (.box 40 [.d (dsl false false kU8 B), .d (.val (.int .i64 q1)), .d (.val (.int .i64 q2))]) : HS)) e1) e2; exact hE)⟩, trivial⟩
    · have hr := rf_short (n := 1) (k := 1) rfl (by assumption) hq2 ha (truthE ((B.drop a).take 1))
      refine T.condT (b := (!(decide (a + 1 ≤ B.length)))) rfl (congrArg Bool.not (decide_eq_false hq2)) ?_
      refine T.seq ?_
      refine tR (s1 := ⟨[pv 0 0, AV.any, dv (.bool false), dv (.int .u64 ((rfN B a 1 : Nat) : Int)), dv (.bool (decide (a + 1 ≤ B.length))), AV.any, AV.any, AV.any, AV.any, dv (.bool (decide (e ≠ 0))), AV.any, AV.any, AV.any, AV.any, AV.any, AV.any, dv (.bool (!(decide (a + 1 ≤ B.length))))], [.live (.box 40 [.d (dsl false false kU8 B), .d (.val (.int .i64 ((a : Nat) : Int))), .d (.val (.int .i64 10))])]⟩) [true, false, true, true, true, false, false, false, false, true, false, false, false, false, false, false, true] [true]
        (oC (oS rfl rfl (r_move (av := pv 0 0) (lt_of rfl) trivial))
        (oC (oS rfl rfl (r_nilCheck (av := pv 0 0) rfl (lt_of rfl) trivial))
        (oC (oS rfl rfl (r_fieldAddr (l := 0) (off := 0) fld_40_2 (lt_of rfl) trivial))
        (oC (oS rfl rfl (r_store (l := 0) (off := 2) (n := 1) (T := 40) (cs := [.d (dsl false false kU8 B), .d (.val (.int .i64 ((a : Nat) : Int))), .d (.val (.int .i64 e))]) (cs' := [.d (dsl false false kU8 B), .d (.val (.int .i64 ((a : Nat) : Int))), .d (.val (.int .i64 10))]) (tv := .one (.d (.val (.int .i64 10)))) cells_35 rfl (Nat.le_of_ble_eq_true rfl) rfl rfl ⟨rfl, trivial⟩)) (oZ rfl)))))
        (by kernel_rfl) (by kernel_rfl) ?_
      refine nT ?_
      refine T.seq ?_
      refine tR (s1 := ⟨[pv 0 0, AV.any, dv (.bool false), dv (.int .u64 ((rfN B a 1 : Nat) : Int)), dv (.bool (decide (a + 1 ≤ B.length))), AV.any, AV.any, AV.any, AV.any, dv (.bool (decide (e ≠ 0))), AV.any, AV.any, AV.any, AV.any, AV.any, AV.any, dv (.bool (!(decide (a + 1 ≤ B.length))))], [.live (.box 40 [.d (dsl false false kU8 B), .d (.val (.int .i64 ((a : Nat) : Int))), .d (.val (.int .i64 10))])]⟩) [true, false, true, true, true, false, false, false, false, true, false, false, false, false, false, false, true] [true]
        (oC (oS rfl rfl (r_assign (av := dv (.bool false)) (lt_of rfl) ⟨rfl, trivial⟩)) (oZ rfl))
        (by kernel_rfl) (by kernel_rfl) ?_
      refine nT ?_
      refine T.ret ?_
      refine rT ?_
      exact tE (.inl rfl) [.t 2 (.one (.d (.val (.bool false))))] ⟨⟨rfl, rfl⟩, trivial⟩ [0] (by have e1 : ((rdB (B.drop a) e) : Bool) = false := (by first | rfl | exact hr.2 | exact hr.2.symm | (rw [hr.2]; first | done | rfl | omega) | (rw [rfA_ok hr.1]; first | done | rfl) | (rw [rfA_no hr.1]) | (simp only [rdB]; first | (rw [if_pos hr.1, ← rfN_ok (by assumption)]; done) | (rw [if_pos hr.1]; done) | (rw [if_neg hr.1]; first | done | rfl)) | (rw [rdB_ok hr.1, bool_of (by assumption)]) | (rw [rdB_no hr.1])); have hE := congrArg (fun (q1 : Bool) => (dv (.bool q1) : AV)) e1; exact hE) rfl rfl rfl rfl rfl ⟨⟨rfl, (by have e1 : (((a : Nat) : Int) : Int) = ((rfA B a e 1 (truthE ((B.drop a).take 1)) : Nat) : Int) := (by first | rfl | exact hr.2 | exact hr.2.symm | (rw [hr.2]; first | done | rfl | omega) | (rw [rfA_ok hr.1]; first | done | rfl) | (rw [rfA_no hr.1]) | (simp only [rdB]; first | (rw [if_pos hr.1, ← rfN_ok (by assumption)]; done) | (rw [if_pos hr.1]; done) | (rw [if_neg hr.1]; first | done | rfl)) | (rw [rdB_ok hr.1, bool_of (by assumption)]) | (rw [rdB_no hr.1])); have e2 : (10 : Int) = (rdE (B.drop a) e 1 (truthE ((B.drop a).take 1))) := (by first | rfl | exact hr.2 | exact hr.2.symm | (rw [hr.2]; first | done | rfl | omega) | (rw [rfA_ok hr.1]; first | done | rfl) | (rw [rfA_no hr.1]) | (simp only [rdB]; first | (rw [if_pos hr.1, ← rfN_ok (by assumption)]; done) | (rw [if_pos hr.1]; done) | (rw [if_neg hr.1]; first | done | rfl)) | (rw [rdB_ok hr.1, bool_of (by assumption)]) | (rw [rdB_no hr.1])); have hE := congr (congrArg (fun (q1 : Int) (q2 : Int) => (.live (.box 40 [.d (dsl false false kU8 B), .d (.val (.int .i64 q1)), .d (.val (.int .i64 q2))]) : HS)) e1) e2; exact hE)⟩, trivial⟩

-- (*quaestor/quaestorref01.Reader).Count
theorem ref01_rCount (B : List UInt8) (a : Nat) (e : Int) (most : Int) (ha : a ≤ B.length) (hB : B.length ≤ 140737488350000) : Holds Try.prog 35 ⟨[pv 0 0, dv (.int .i64 most)], [.box 40 [.d (dsl false false kU8 B), .d (.val (.int .i64 ((a : Nat) : Int))), .d (.val (.int .i64 e))]], dv (.int .i64 ((rdC (B.drop a) e most : Nat) : Int)), [.live (.box 40 [.d (dsl false false kU8 B), .d (.val (.int .i64 ((rfA B a e 4 (limE most ((B.drop a).take 4)) : Nat) : Int))), .d (.val (.int .i64 (rdE (B.drop a) e 4 (limE most ((B.drop a).take 4)))))])]⟩ := by
  refine Holds.of Try.func35 rfl (N := 39) Try.ntmps35 rfl fun w0 B0 S0 U0 => ?_
  show T _ (mkBase 39 1 w0 S0 U0 B0) ⟨[pv 0 0, dv (.int .i64 most)], [.live (.box 40 [.d (dsl false false kU8 B), .d (.val (.int .i64 ((a : Nat) : Int))), .d (.val (.int .i64 e))])]⟩ _ _
  have hn4 := rfN_lt4 B a
  refine T.seq ?_
  refine tR (s1 := ⟨[pv 0 0, dv (.int .i64 most), AV.any, AV.any, dv (.int .i64 0)], [.live (.box 40 [.d (dsl false false kU8 B), .d (.val (.int .i64 ((a : Nat) : Int))), .d (.val (.int .i64 e))])]⟩) [true, true, false, false, true] [true]
    (oC (oS rfl rfl (r_assign (av := dv (.int .i64 0)) (lt_of rfl) ⟨rfl, trivial⟩)) (oZ rfl))
    (by kernel_rfl) (by kernel_rfl) ?_
  refine nT ?_
  refine T.seq ?_
  refine T.seq ?_
  refine tR (s1 := ⟨[pv 0 0, dv (.int .i64 most), AV.any, AV.any, dv (.int .i64 0), AV.any, AV.any, AV.any, AV.any, AV.any, AV.any, dv (.bool (decide (e ≠ 0)))], [.live (.box 40 [.d (dsl false false kU8 B), .d (.val (.int .i64 ((a : Nat) : Int))), .d (.val (.int .i64 e))])]⟩) [true, true, false, false, true, false, false, false, false, false, false, true] [true]
    (oC (oS rfl rfl (r_move (av := pv 0 0) (lt_of rfl) trivial))
    (oC (oS rfl rfl (r_nilCheck (av := pv 0 0) rfl (lt_of rfl) trivial))
    (oC (oS rfl rfl (r_fieldAddr (l := 0) (off := 0) fld_40_2 (lt_of rfl) trivial))
    (oC (oS rfl rfl (r_loadB (l := 0) (off := 2) (T := 40) (cs := [.d (dsl false false kU8 B), .d (.val (.int .i64 ((a : Nat) : Int))), .d (.val (.int .i64 e))]) (c := .d (.val (.int .i64 e))) wide_35 rfl (lt_of rfl) trivial))
    (oC (oS rfl rfl (r_bin (u1 := .int .i64 e) (u2 := .int .i64 0) (v := .bool (decide (e ≠ 0))) b_neq (lt_of rfl) ⟨rfl, trivial⟩)) (oZ rfl))))))
    (by kernel_rfl) (by kernel_rfl) ?_
  refine nT ?_
  by_cases hq1 : e ≠ 0
  · have hr := rf_e (B := B) (a := a) hq1 4 (limE most ((B.drop a).take 4))
    refine T.condT (b := (decide (e ≠ 0))) rfl (decide_eq_true hq1) ?_
    refine T.seq ?_
    refine tR (s1 := ⟨[pv 0 0, dv (.int .i64 most), AV.any, AV.any, dv (.int .i64 0), AV.any, AV.any, AV.any, AV.any, AV.any, AV.any, dv (.bool (decide (e ≠ 0)))], [.live (.box 40 [.d (dsl false false kU8 B), .d (.val (.int .i64 ((a : Nat) : Int))), .d (.val (.int .i64 e))])]⟩) [true, true, false, false, true, false, false, false, false, false, false, true] [true]
      (oC (oS rfl rfl (r_assign (av := dv (.int .i64 0)) (lt_of rfl) ⟨rfl, trivial⟩)) (oZ rfl))
      (by kernel_rfl) (by kernel_rfl) ?_
    refine nT ?_
    refine T.ret ?_
    refine rT ?_
    exact tE (.inl rfl) [.t 4 (.one (.d (.val (.int .i64 0))))] ⟨⟨rfl, rfl⟩, trivial⟩ [0] (by have e1 : (((rdC (B.drop a) e most : Nat) : Int) : Int) = 0 := (by first | rfl | exact hr.2 | exact hr.2.symm | (rw [hr.2]; first | done | rfl | omega) | (rw [rfA_ok hr.1]; first | done | rfl) | (rw [rfA_no hr.1]) | (simp only [rdC]; first | (rw [if_pos hr.1, ← rfN_ok (by assumption)]; done) | (rw [if_pos hr.1]; done) | (rw [if_neg hr.1]; first | done | rfl))); have hE := congrArg (fun (q1 : Int) => (dv (.int .i64 q1) : AV)) e1; exact hE) rfl rfl rfl rfl rfl ⟨⟨rfl, (by have e1 : (((a : Nat) : Int) : Int) = ((rfA B a e 4 (limE most ((B.drop a).take 4)) : Nat) : Int) := (by first | rfl | exact hr.2 | exact hr.2.symm | (rw [hr.2]; first | done | rfl | omega) | (rw [rfA_ok hr.1]; first | done | rfl) | (rw [rfA_no hr.1]) | (simp only [rdC]; first | (rw [if_pos hr.1, ← rfN_ok (by assumption)]; done) | (rw [if_pos hr.1]; done) | (rw [if_neg hr.1]; first | done | rfl))); have e2 : (e : Int) = (rdE (B.drop a) e 4 (limE most ((B.drop a).take 4))) := (by first | rfl | exact hr.2 | exact hr.2.symm | (rw [hr.2]; first | done | rfl | omega) | (rw [rfA_ok hr.1]; first | done | rfl) | (rw [rfA_no hr.1]) | (simp only [rdC]; first | (rw [if_pos hr.1, ← rfN_ok (by assumption)]; done) | (rw [if_pos hr.1]; done) | (rw [if_neg hr.1]; first | done | rfl))); have hE := congr (congrArg (fun (q1 : Int) (q2 : Int) => (.live (.box 40 [.d (dsl false false kU8 B), .d (.val (.int .i64 q1)), .d (.val (.int .i64 q2))]) : HS)) e1) e2; exact hE)⟩, trivial⟩
  · refine T.condF (b := (decide (e ≠ 0))) rfl (decide_eq_false hq1) ?_
    refine T.skip ?_
    refine nT ?_
    refine T.seq ?_
    refine tR (s1 := ⟨[pv 0 0, dv (.int .i64 most), AV.any, AV.any, dv (.int .i64 0), dv (.int .u64 ((rfN B a 4 : Nat) : Int)), dv (.bool (decide (a + 4 ≤ B.length))), AV.any, AV.any, AV.any, AV.any, dv (.bool (decide (e ≠ 0)))], [.live (.box 40 [.d (dsl false false kU8 B), .d (.val (.int .i64 ((a : Nat) : Int))), .d (.val (.int .i64 e))])]⟩) [true, true, false, false, true, true, true, false, false, false, false, true] [true]
      (oC (oS rfl rfl (r_move (av := pv 0 0) (lt_of rfl) trivial))
      (oC (oS rfl rfl (r_call (ref01_number B a e 4 (by first | assumption | omega | (simp only [maxLen, kU8_sz, kSl_sz, k_quaestorlaw01_Item_sz]; omega) | (simp only [maxLen, kU8_sz, kSl_sz, k_quaestorlaw01_Item_sz, List.length_append, List.length_cons, List.length_nil, List.length_take, List.length_drop, List.length_set]; omega) | decide) (by first | assumption | omega | (simp only [maxLen, kU8_sz, kSl_sz, k_quaestorlaw01_Item_sz]; omega) | (simp only [maxLen, kU8_sz, kSl_sz, k_quaestorlaw01_Item_sz, List.length_append, List.length_cons, List.length_nil, List.length_take, List.length_drop, List.length_set]; omega) | decide) (by first | assumption | omega | (simp only [maxLen, kU8_sz, kSl_sz, k_quaestorlaw01_Item_sz]; omega) | (simp only [maxLen, kU8_sz, kSl_sz, k_quaestorlaw01_Item_sz, List.length_append, List.length_cons, List.length_nil, List.length_take, List.length_drop, List.length_set]; omega) | decide)) Try.func52 rfl (by decide) [0] [] (l := [(.tmp 13, pv 0 0), (.const (.int .i64 4), dv (.int .i64 4))]) [] rfl 1 1 rfl rfl rfl rfl rfl rfl rfl rfl rfl ⟨.inl ⟨rfl, rfl⟩, ⟨.inl ⟨rfl, rfl⟩, trivial⟩⟩ rfl (fun b hb => by cases hb) (.inl rfl) (lt_of rfl) ⟨rfl, trivial⟩))
      (oC (oS rfl rfl (r_move (av := .tup [.one (.d (.val (.int .u64 ((rfN B a 4 : Nat) : Int)))), .one (.d (.val (.bool (decide (a + 4 ≤ B.length)))))]) (lt_of rfl) trivial))
      (oC (oS rfl rfl (r_extract (l := [.one (.d (.val (.int .u64 ((rfN B a 4 : Nat) : Int)))), .one (.d (.val (.bool (decide (a + 4 ≤ B.length)))))]) (tv := .one (.d (.val (.int .u64 ((rfN B a 4 : Nat) : Int))))) rfl (lt_of rfl) trivial))
      (oC (oS rfl rfl (r_extract (l := [.one (.d (.val (.int .u64 ((rfN B a 4 : Nat) : Int)))), .one (.d (.val (.bool (decide (a + 4 ≤ B.length)))))]) (tv := .one (.d (.val (.bool (decide (a + 4 ≤ B.length)))))) rfl (lt_of rfl) trivial))
      (oC (oS rfl rfl (r_assign (av := dv (.int .u64 ((rfN B a 4 : Nat) : Int))) (lt_of rfl) trivial))
      (oC (oS rfl rfl (r_assign (av := dv (.bool (decide (a + 4 ≤ B.length)))) (lt_of rfl) trivial)) (oZ rfl))))))))
      (by kernel_rfl) (by kernel_rfl) ?_
    refine nT ?_
    refine T.seq ?_
    refine T.seq ?_
    refine tR (s1 := ⟨[pv 0 0, dv (.int .i64 most), AV.any, AV.any, dv (.int .i64 0), dv (.int .u64 ((rfN B a 4 : Nat) : Int)), dv (.bool (decide (a + 4 ≤ B.length))), AV.any, AV.any, AV.any, AV.any, dv (.bool (decide (e ≠ 0))), AV.any, AV.any, AV.any, AV.any, AV.any, AV.any, dv (.bool (!(decide (a + 4 ≤ B.length))))], [.live (.box 40 [.d (dsl false false kU8 B), .d (.val (.int .i64 ((a : Nat) : Int))), .d (.val (.int .i64 e))])]⟩) [true, true, false, false, true, true, true, false, false, false, false, true, false, false, false, false, false, false, true] [true]
      (oC (oS rfl rfl (r_move (av := dv (.bool (decide (a + 4 ≤ B.length)))) (lt_of rfl) trivial))
      (oC (oS rfl rfl (r_un (u := .bool (decide (a + 4 ≤ B.length))) (v := .bool (!(decide (a + 4 ≤ B.length)))) u_not (lt_of rfl) trivial)) (oZ rfl)))
      (by kernel_rfl) (by kernel_rfl) ?_
    refine nT ?_
    by_cases hq2 : a + 4 ≤ B.length
    · refine T.condF (b := (!(decide (a + 4 ≤ B.length)))) rfl (congrArg Bool.not (decide_eq_true hq2)) ?_
      refine T.skip ?_
      refine nT ?_
      refine T.seq ?_
      refine T.seq ?_
      refine tR (s1 := ⟨[pv 0 0, dv (.int .i64 most), AV.any, AV.any, dv (.int .i64 0), dv (.int .u64 ((rfN B a 4 : Nat) : Int)), dv (.bool (decide (a + 4 ≤ B.length))), AV.any, AV.any, AV.any, AV.any, dv (.bool (decide (e ≠ 0))), AV.any, AV.any, AV.any, AV.any, AV.any, AV.any, dv (.bool (!(decide (a + 4 ≤ B.length)))), AV.any, AV.any, AV.any, AV.any, AV.any, AV.any, AV.any, dv (.bool (decide (((rfN B a 4 : Nat) : Int) > (max 0 most))))], [.live (.box 40 [.d (dsl false false kU8 B), .d (.val (.int .i64 ((a : Nat) : Int))), .d (.val (.int .i64 e))])]⟩) [true, true, false, false, true, true, true, false, false, false, false, true, false, false, false, false, false, false, true, false, false, false, false, false, false, false, true] [true]
        (oC (oS rfl rfl (r_move (av := dv (.int .u64 ((rfN B a 4 : Nat) : Int))) (lt_of rfl) trivial))
        (oC (oS rfl rfl (r_conv (u := .int .u64 ((rfN B a 4 : Nat) : Int)) (v := .int .i64 ((rfN B a 4 : Nat) : Int)) (c_int Try.underlying48 Try.underlying3 (by rw [IntKind.wrap_i64]; omega)) (lt_of rfl) trivial))
        (oC (oS rfl rfl (r_move (av := dv (.int .i64 most)) (lt_of rfl) trivial))
        (oC (oS rfl rfl (r_max (k := .i64) (a := 0) (b := most) (lt_of rfl) ⟨rfl, trivial⟩))
        (oC (oS rfl rfl (r_bin (u1 := .int .i64 ((rfN B a 4 : Nat) : Int)) (u2 := .int .i64 (max 0 most)) (v := .bool (decide (((rfN B a 4 : Nat) : Int) > (max 0 most)))) b_gtr (lt_of rfl) trivial)) (oZ rfl))))))
        (by kernel_rfl) (by kernel_rfl) ?_
      refine nT ?_
      by_cases hq3 : ((rfN B a 4 : Nat) : Int) > (max 0 most)
      · have hr := rf_m (n := 4) (k := 4) (c := 11) (m := (limE most ((B.drop a).take 4))) rfl (by assumption) (by assumption) (by rw [lim_of (by assumption), if_pos (by assumption)]) (by decide)
        refine T.condT (b := (decide (((rfN B a 4 : Nat) : Int) > (max 0 most)))) rfl (decide_eq_true hq3) ?_
        refine T.seq ?_
        refine tR (s1 := ⟨[pv 0 0, dv (.int .i64 most), AV.any, AV.any, dv (.int .i64 0), dv (.int .u64 ((rfN B a 4 : Nat) : Int)), dv (.bool (decide (a + 4 ≤ B.length))), AV.any, AV.any, AV.any, AV.any, dv (.bool (decide (e ≠ 0))), AV.any, AV.any, AV.any, AV.any, AV.any, AV.any, dv (.bool (!(decide (a + 4 ≤ B.length)))), AV.any, AV.any, AV.any, AV.any, AV.any, AV.any, AV.any, dv (.bool (decide (((rfN B a 4 : Nat) : Int) > (max 0 most))))], [.live (.box 40 [.d (dsl false false kU8 B), .d (.val (.int .i64 ((a : Nat) : Int))), .d (.val (.int .i64 11))])]⟩) [true, true, false, false, true, true, true, false, false, false, false, true, false, false, false, false, false, false, true, false, false, false, false, false, false, false, true] [true]
          (oC (oS rfl rfl (r_move (av := pv 0 0) (lt_of rfl) trivial))
          (oC (oS rfl rfl (r_nilCheck (av := pv 0 0) rfl (lt_of rfl) trivial))
          (oC (oS rfl rfl (r_fieldAddr (l := 0) (off := 0) fld_40_2 (lt_of rfl) trivial))
          (oC (oS rfl rfl (r_store (l := 0) (off := 2) (n := 1) (T := 40) (cs := [.d (dsl false false kU8 B), .d (.val (.int .i64 ((a : Nat) : Int))), .d (.val (.int .i64 e))]) (cs' := [.d (dsl false false kU8 B), .d (.val (.int .i64 ((a : Nat) : Int))), .d (.val (.int .i64 11))]) (tv := .one (.d (.val (.int .i64 11)))) cells_35 rfl (Nat.le_of_ble_eq_true rfl) rfl rfl ⟨rfl, trivial⟩)) (oZ rfl)))))
          (by kernel_rfl) (by kernel_rfl) ?_
        refine nT ?_
        refine T.seq ?_
        refine tR (s1 := ⟨[pv 0 0, dv (.int .i64 most), AV.any, AV.any, dv (.int .i64 0), dv (.int .u64 ((rfN B a 4 : Nat) : Int)), dv (.bool (decide (a + 4 ≤ B.length))), AV.any, AV.any, AV.any, AV.any, dv (.bool (decide (e ≠ 0))), AV.any, AV.any, AV.any, AV.any, AV.any, AV.any, dv (.bool (!(decide (a + 4 ≤ B.length)))), AV.any, AV.any, AV.any, AV.any, AV.any, AV.any, AV.any, dv (.bool (decide (((rfN B a 4 : Nat) : Int) > (max 0 most))))], [.live (.box 40 [.d (dsl false false kU8 B), .d (.val (.int .i64 ((a : Nat) : Int))), .d (.val (.int .i64 11))])]⟩) [true, true, false, false, true, true, true, false, false, false, false, true, false, false, false, false, false, false, true, false, false, false, false, false, false, false, true] [true]
          (oC (oS rfl rfl (r_assign (av := dv (.int .i64 0)) (lt_of rfl) ⟨rfl, trivial⟩)) (oZ rfl))
          (by kernel_rfl) (by kernel_rfl) ?_
        refine nT ?_
        refine T.ret ?_
        refine rT ?_
        exact tE (.inl rfl) [.t 4 (.one (.d (.val (.int .i64 0))))] ⟨⟨rfl, rfl⟩, trivial⟩ [0] (by have e1 : (((rdC (B.drop a) e most : Nat) : Int) : Int) = 0 := (by first | rfl | exact hr.2 | exact hr.2.symm | (rw [hr.2]; first | done | rfl | omega) | (rw [rfA_ok hr.1]; first | done | rfl) | (rw [rfA_no hr.1]) | (simp only [rdC]; first | (rw [if_pos hr.1, ← rfN_ok (by assumption)]; done) | (rw [if_pos hr.1]; done) | (rw [if_neg hr.1]; first | done | rfl))); have hE := congrArg (fun (q1 : Int) => (dv (.int .i64 q1) : AV)) e1; exact hE) rfl rfl rfl rfl rfl ⟨⟨rfl, (by have e1 : (((a : Nat) : Int) : Int) = ((rfA B a e 4 (limE most ((B.drop a).take 4)) : Nat) : Int) := (by first | rfl | exact hr.2 | exact hr.2.symm | (rw [hr.2]; first | done | rfl | omega) | (rw [rfA_ok hr.1]; first | done | rfl) | (rw [rfA_no hr.1]) | (simp only [rdC]; first | (rw [if_pos hr.1, ← rfN_ok (by assumption)]; done) | (rw [if_pos hr.1]; done) | (rw [if_neg hr.1]; first | done | rfl))); have e2 : (11 : Int) = (rdE (B.drop a) e 4 (limE most ((B.drop a).take 4))) := (by first | rfl | exact hr.2 | exact hr.2.symm | (rw [hr.2]; first | done | rfl | omega) | (rw [rfA_ok hr.1]; first | done | rfl) | (rw [rfA_no hr.1]) | (simp only [rdC]; first | (rw [if_pos hr.1, ← rfN_ok (by assumption)]; done) | (rw [if_pos hr.1]; done) | (rw [if_neg hr.1]; first | done | rfl))); have hE := congr (congrArg (fun (q1 : Int) (q2 : Int) => (.live (.box 40 [.d (dsl false false kU8 B), .d (.val (.int .i64 q1)), .d (.val (.int .i64 q2))]) : HS)) e1) e2; exact hE)⟩, trivial⟩
      · have hr := rf_ok (n := 4) (k := 4) (m := (limE most ((B.drop a).take 4))) rfl (by assumption) (by assumption) (by rw [lim_of (by assumption), if_neg (by assumption)])
        refine T.condF (b := (decide (((rfN B a 4 : Nat) : Int) > (max 0 most)))) rfl (decide_eq_false hq3) ?_
        refine T.skip ?_
        refine nT ?_
        refine T.seq ?_
        refine tR (s1 := ⟨[pv 0 0, dv (.int .i64 most), AV.any, AV.any, dv (.int .i64 0), dv (.int .u64 ((rfN B a 4 : Nat) : Int)), dv (.bool (decide (a + 4 ≤ B.length))), AV.any, AV.any, AV.any, AV.any, dv (.bool (decide (e ≠ 0))), AV.any, AV.any, AV.any, AV.any, AV.any, AV.any, dv (.bool (!(decide (a + 4 ≤ B.length)))), AV.any, AV.any, AV.any, AV.any, AV.any, AV.any, AV.any, dv (.bool (decide (((rfN B a 4 : Nat) : Int) > (max 0 most))))], [.live (.box 40 [.d (dsl false false kU8 B), .d (.val (.int .i64 ((a + 4 : Nat) : Int))), .d (.val (.int .i64 e))])]⟩) [true, true, false, false, true, true, true, false, false, false, false, true, false, false, false, false, false, false, true, false, false, false, false, false, false, false, true] [true]
          (oC (oS rfl rfl (r_move (av := pv 0 0) (lt_of rfl) trivial))
          (oC (oS rfl rfl (r_nilCheck (av := pv 0 0) rfl (lt_of rfl) trivial))
          (oC (oS rfl rfl (r_fieldAddr (l := 0) (off := 0) fld_40_1 (lt_of rfl) trivial))
          (oC (oS rfl rfl (r_loadB (l := 0) (off := 1) (T := 40) (cs := [.d (dsl false false kU8 B), .d (.val (.int .i64 ((a : Nat) : Int))), .d (.val (.int .i64 e))]) (c := .d (.val (.int .i64 ((a : Nat) : Int)))) wide_3 rfl (lt_of rfl) trivial))
          (oC (oS rfl rfl (r_bin (u1 := .int .i64 ((a : Nat) : Int)) (u2 := .int .i64 4) (v := .int .i64 ((a + 4 : Nat) : Int)) (b_add (by rw [IntKind.wrap_i64]; omega)) (lt_of rfl) ⟨rfl, trivial⟩))
          (oC (oS rfl rfl (r_nilCheck (av := pv 0 0) rfl (lt_of rfl) trivial))
          (oC (oS rfl rfl (r_fieldAddr (l := 0) (off := 0) fld_40_1 (lt_of rfl) trivial))
          (oC (oS rfl rfl (r_store (l := 0) (off := 1) (n := 1) (T := 40) (cs := [.d (dsl false false kU8 B), .d (.val (.int .i64 ((a : Nat) : Int))), .d (.val (.int .i64 e))]) (cs' := [.d (dsl false false kU8 B), .d (.val (.int .i64 ((a + 4 : Nat) : Int))), .d (.val (.int .i64 e))]) (tv := .one (.d (.val (.int .i64 ((a + 4 : Nat) : Int))))) cells_3 rfl (Nat.le_of_ble_eq_true rfl) rfl rfl trivial)) (oZ rfl)))))))))
          (by kernel_rfl) (by kernel_rfl) ?_
        refine nT ?_
        refine T.seq ?_
        refine tR (s1 := ⟨[pv 0 0, dv (.int .i64 most), AV.any, AV.any, dv (.int .i64 ((rfN B a 4 : Nat) : Int)), dv (.int .u64 ((rfN B a 4 : Nat) : Int)), dv (.bool (decide (a + 4 ≤ B.length))), AV.any, AV.any, AV.any, AV.any, dv (.bool (decide (e ≠ 0))), AV.any, AV.any, AV.any, AV.any, AV.any, AV.any, dv (.bool (!(decide (a + 4 ≤ B.length)))), AV.any, AV.any, AV.any, AV.any, AV.any, AV.any, AV.any, dv (.bool (decide (((rfN B a 4 : Nat) : Int) > (max 0 most))))], [.live (.box 40 [.d (dsl false false kU8 B), .d (.val (.int .i64 ((a + 4 : Nat) : Int))), .d (.val (.int .i64 e))])]⟩) [true, true, false, false, true, true, true, false, false, false, false, true, false, false, false, false, false, false, true, false, false, false, false, false, false, false, true] [true]
          (oC (oS rfl rfl (r_move (av := dv (.int .u64 ((rfN B a 4 : Nat) : Int))) (lt_of rfl) trivial))
          (oC (oS rfl rfl (r_conv (u := .int .u64 ((rfN B a 4 : Nat) : Int)) (v := .int .i64 ((rfN B a 4 : Nat) : Int)) (c_int Try.underlying48 Try.underlying3 (by rw [IntKind.wrap_i64]; omega)) (lt_of rfl) trivial))
          (oC (oS rfl rfl (r_assign (av := dv (.int .i64 ((rfN B a 4 : Nat) : Int))) (lt_of rfl) trivial)) (oZ rfl))))
          (by kernel_rfl) (by kernel_rfl) ?_
        refine nT ?_
        refine T.ret ?_
        exact tE (.inl rfl) [.t 4 (.one (.d (.val (.int .i64 ((rfN B a 4 : Nat) : Int)))))] ⟨⟨rfl, rfl⟩, trivial⟩ [0] (by have e1 : (((rdC (B.drop a) e most : Nat) : Int) : Int) = ((rfN B a 4 : Nat) : Int) := (by first | rfl | exact hr.2 | exact hr.2.symm | (rw [hr.2]; first | done | rfl | omega) | (rw [rfA_ok hr.1]; first | done | rfl) | (rw [rfA_no hr.1]) | (simp only [rdC]; first | (rw [if_pos hr.1, ← rfN_ok (by assumption)]; done) | (rw [if_pos hr.1]; done) | (rw [if_neg hr.1]; first | done | rfl))); have hE := congrArg (fun (q1 : Int) => (dv (.int .i64 q1) : AV)) e1; exact hE) rfl rfl rfl rfl rfl ⟨⟨rfl, (by have e1 : (((a + 4 : Nat) : Int) : Int) = ((rfA B a e 4 (limE most ((B.drop a).take 4)) : Nat) : Int) := (by first | rfl | exact hr.2 | exact hr.2.symm | (rw [hr.2]; first | done | rfl | omega) | (rw [rfA_ok hr.1]; first | done | rfl) | (rw [rfA_no hr.1]) | (simp only [rdC]; first | (rw [if_pos hr.1, ← rfN_ok (by assumption)]; done) | (rw [if_pos hr.1]; done) | (rw [if_neg hr.1]; first | done | rfl))); have e2 : (e : Int) = (rdE (B.drop a) e 4 (limE most ((B.drop a).take 4))) := (by first | rfl | exact hr.2 | exact hr.2.symm | (rw [hr.2]; first | done | rfl | omega) | (rw [rfA_ok hr.1]; first | done | rfl) | (rw [rfA_no hr.1]) | (simp only [rdC]; first | (rw [if_pos hr.1, ← rfN_ok (by assumption)]; done) | (rw [if_pos hr.1]; done) | (rw [if_neg hr.1]; first | done | rfl))); have hE := congr (congrArg (fun (q1 : Int) (q2 : Int) => (.live (.box 40 [.d (dsl false false kU8 B), .d (.val (.int .i64 q1)), .d (.val (.int .i64 q2))]) : HS)) e1) e2; exact hE)⟩, trivial⟩
    · have hr := rf_short (n := 4) (k := 4) rfl (by assumption) hq2 ha (limE most ((B.drop a).take 4))
      refine T.condT (b := (!(decide (a + 4 ≤ B.length)))) rfl (congrArg Bool.not (decide_eq_false hq2)) ?_
      refine T.seq ?_
      refine tR (s1 := ⟨[pv 0 0, dv (.int .i64 most), AV.any, AV.any, dv (.int .i64 0), dv (.int .u64 ((rfN B a 4 : Nat) : Int)), dv (.bool (decide (a + 4 ≤ B.length))), AV.any, AV.any, AV.any, AV.any, dv (.bool (decide (e ≠ 0))), AV.any, AV.any, AV.any, AV.any, AV.any, AV.any, dv (.bool (!(decide (a + 4 ≤ B.length))))], [.live (.box 40 [.d (dsl false false kU8 B), .d (.val (.int .i64 ((a : Nat) : Int))), .d (.val (.int .i64 10))])]⟩) [true, true, false, false, true, true, true, false, false, false, false, true, false, false, false, false, false, false, true] [true]
        (oC (oS rfl rfl (r_move (av := pv 0 0) (lt_of rfl) trivial))
        (oC (oS rfl rfl (r_nilCheck (av := pv 0 0) rfl (lt_of rfl) trivial))
        (oC (oS rfl rfl (r_fieldAddr (l := 0) (off := 0) fld_40_2 (lt_of rfl) trivial))
        (oC (oS rfl rfl (r_store (l := 0) (off := 2) (n := 1) (T := 40) (cs := [.d (dsl false false kU8 B), .d (.val (.int .i64 ((a : Nat) : Int))), .d (.val (.int .i64 e))]) (cs' := [.d (dsl false false kU8 B), .d (.val (.int .i64 ((a : Nat) : Int))), .d (.val (.int .i64 10))]) (tv := .one (.d (.val (.int .i64 10)))) cells_35 rfl (Nat.le_of_ble_eq_true rfl) rfl rfl ⟨rfl, trivial⟩)) (oZ rfl)))))
        (by kernel_rfl) (by kernel_rfl) ?_
      refine nT ?_
      refine T.seq ?_
      refine tR (s1 := ⟨[pv 0 0, dv (.int .i64 most), AV.any, AV.any, dv (.int .i64 0), dv (.int .u64 ((rfN B a 4 : Nat) : Int)), dv (.bool (decide (a + 4 ≤ B.length))), AV.any, AV.any, AV.any, AV.any, dv (.bool (decide (e ≠ 0))), AV.any, AV.any, AV.any, AV.any, AV.any, AV.any, dv (.bool (!(decide (a + 4 ≤ B.length))))], [.live (.box 40 [.d (dsl false false kU8 B), .d (.val (.int .i64 ((a : Nat) : Int))), .d (.val (.int .i64 10))])]⟩) [true, true, false, false, true, true, true, false, false, false, false, true, false, false, false, false, false, false, true] [true]
        (oC (oS rfl rfl (r_assign (av := dv (.int .i64 0)) (lt_of rfl) ⟨rfl, trivial⟩)) (oZ rfl))
        (by kernel_rfl) (by kernel_rfl) ?_
      refine nT ?_
      refine T.ret ?_
      refine rT ?_
      exact tE (.inl rfl) [.t 4 (.one (.d (.val (.int .i64 0))))] ⟨⟨rfl, rfl⟩, trivial⟩ [0] (by have e1 : (((rdC (B.drop a) e most : Nat) : Int) : Int) = 0 := (by first | rfl | exact hr.2 | exact hr.2.symm | (rw [hr.2]; first | done | rfl | omega) | (rw [rfA_ok hr.1]; first | done | rfl) | (rw [rfA_no hr.1]) | (simp only [rdC]; first | (rw [if_pos hr.1, ← rfN_ok (by assumption)]; done) | (rw [if_pos hr.1]; done) | (rw [if_neg hr.1]; first | done | rfl))); have hE := congrArg (fun (q1 : Int) => (dv (.int .i64 q1) : AV)) e1; exact hE) rfl rfl rfl rfl rfl ⟨⟨rfl, (by have e1 : (((a : Nat) : Int) : Int) = ((rfA B a e 4 (limE most ((B.drop a).take 4)) : Nat) : Int) := (by first | rfl | exact hr.2 | exact hr.2.symm | (rw [hr.2]; first | done | rfl | omega) | (rw [rfA_ok hr.1]; first | done | rfl) | (rw [rfA_no hr.1]) | (simp only [rdC]; first | (rw [if_pos hr.1, ← rfN_ok (by assumption)]; done) | (rw [if_pos hr.1]; done) | (rw [if_neg hr.1]; first | done | rfl))); have e2 : (10 : Int) = (rdE (B.drop a) e 4 (limE most ((B.drop a).take 4))) := (by first | rfl | exact hr.2 | exact hr.2.symm | (rw [hr.2]; first | done | rfl | omega) | (rw [rfA_ok hr.1]; first | done | rfl) | (rw [rfA_no hr.1]) | (simp only [rdC]; first | (rw [if_pos hr.1, ← rfN_ok (by assumption)]; done) | (rw [if_pos hr.1]; done) | (rw [if_neg hr.1]; first | done | rfl))); have hE := congr (congrArg (fun (q1 : Int) (q2 : Int) => (.live (.box 40 [.d (dsl false false kU8 B), .d (.val (.int .i64 q1)), .d (.val (.int .i64 q2))]) : HS)) e1) e2; exact hE)⟩, trivial⟩

-- (*quaestor/quaestorref01.Reader).Num
theorem ref01_rNum (B : List UInt8) (a : Nat) (e : Int) (ha : a ≤ B.length) (hB : B.length ≤ 140737488350000) : Holds Try.prog 37 ⟨[pv 0 0], [.box 40 [.d (dsl false false kU8 B), .d (.val (.int .i64 ((a : Nat) : Int))), .d (.val (.int .i64 e))]], dv (.float .f64 (rdN (B.drop a) e)), [.live (.box 40 [.d (dsl false false kU8 B), .d (.val (.int .i64 ((rfA B a e 8 (floatE ((B.drop a).take 8)) : Nat) : Int))), .d (.val (.int .i64 (rdE (B.drop a) e 8 (floatE ((B.drop a).take 8)))))])]⟩ := by
  refine Holds.of Try.func37 rfl (N := 41) Try.ntmps37 rfl fun w0 B0 S0 U0 => ?_
  show T _ (mkBase 41 1 w0 S0 U0 B0) ⟨[pv 0 0], [.live (.box 40 [.d (dsl false false kU8 B), .d (.val (.int .i64 ((a : Nat) : Int))), .d (.val (.int .i64 e))])]⟩ _ _
  have hn8 := rfN_lt B a (m := 8) (by decide)
  refine T.seq ?_
  refine tR (s1 := ⟨[pv 0 0, AV.any, dv (.float .f64 0)], [.live (.box 40 [.d (dsl false false kU8 B), .d (.val (.int .i64 ((a : Nat) : Int))), .d (.val (.int .i64 e))])]⟩) [true, false, true] [true]
    (oC (oS rfl rfl (r_assign (av := dv (.float .f64 0)) (lt_of rfl) ⟨rfl, trivial⟩)) (oZ rfl))
    (by kernel_rfl) (by kernel_rfl) ?_
  refine nT ?_
  refine T.seq ?_
  refine T.seq ?_
  refine tR (s1 := ⟨[pv 0 0, AV.any, dv (.float .f64 0), AV.any, AV.any, AV.any, AV.any, AV.any, AV.any, AV.any, dv (.bool (decide (e ≠ 0)))], [.live (.box 40 [.d (dsl false false kU8 B), .d (.val (.int .i64 ((a : Nat) : Int))), .d (.val (.int .i64 e))])]⟩) [true, false, true, false, false, false, false, false, false, false, true] [true]
    (oC (oS rfl rfl (r_move (av := pv 0 0) (lt_of rfl) trivial))
    (oC (oS rfl rfl (r_nilCheck (av := pv 0 0) rfl (lt_of rfl) trivial))
    (oC (oS rfl rfl (r_fieldAddr (l := 0) (off := 0) fld_40_2 (lt_of rfl) trivial))
    (oC (oS rfl rfl (r_loadB (l := 0) (off := 2) (T := 40) (cs := [.d (dsl false false kU8 B), .d (.val (.int .i64 ((a : Nat) : Int))), .d (.val (.int .i64 e))]) (c := .d (.val (.int .i64 e))) wide_35 rfl (lt_of rfl) trivial))
    (oC (oS rfl rfl (r_bin (u1 := .int .i64 e) (u2 := .int .i64 0) (v := .bool (decide (e ≠ 0))) b_neq (lt_of rfl) ⟨rfl, trivial⟩)) (oZ rfl))))))
    (by kernel_rfl) (by kernel_rfl) ?_
  refine nT ?_
  by_cases hq1 : e ≠ 0
  · have hr := rf_e (B := B) (a := a) hq1 8 (floatE ((B.drop a).take 8))
    refine T.condT (b := (decide (e ≠ 0))) rfl (decide_eq_true hq1) ?_
    refine T.seq ?_
    refine tR (s1 := ⟨[pv 0 0, AV.any, dv (.float .f64 0), AV.any, AV.any, AV.any, AV.any, AV.any, AV.any, AV.any, dv (.bool (decide (e ≠ 0)))], [.live (.box 40 [.d (dsl false false kU8 B), .d (.val (.int .i64 ((a : Nat) : Int))), .d (.val (.int .i64 e))])]⟩) [true, false, true, false, false, false, false, false, false, false, true] [true]
      (oC (oS rfl rfl (r_assign (av := dv (.float .f64 0)) (lt_of rfl) ⟨rfl, trivial⟩)) (oZ rfl))
      (by kernel_rfl) (by kernel_rfl) ?_
    refine nT ?_
    refine T.ret ?_
    refine rT ?_
    exact tE (.inl rfl) [.t 2 (.one (.d (.val (.float .f64 0))))] ⟨⟨rfl, rfl⟩, trivial⟩ [0] (by have e1 : ((rdN (B.drop a) e) : Nat) = 0 := (by first | rfl | exact hr.2 | exact hr.2.symm | (rw [hr.2]; first | done | rfl | omega) | (rw [rfA_ok hr.1]; first | done | rfl) | (rw [rfA_no hr.1]) | (simp only [rdN]; first | (rw [if_pos hr.1, ← rfN_ok (by assumption)]; done) | (rw [if_pos hr.1]; done) | (rw [if_neg hr.1]; first | done | rfl))); have hE := congrArg (fun (q1 : Nat) => (dv (.float .f64 q1) : AV)) e1; exact hE) rfl rfl rfl rfl rfl ⟨⟨rfl, (by have e1 : (((a : Nat) : Int) : Int) = ((rfA B a e 8 (floatE ((B.drop a).take 8)) : Nat) : Int) := (by first | rfl | exact hr.2 | exact hr.2.symm | (rw [hr.2]; first | done | rfl | omega) | (rw [rfA_ok hr.1]; first | done | rfl) | (rw [rfA_no hr.1]) | (simp only [rdN]; first | (rw [if_pos hr.1, ← rfN_ok (by assumption)]; done) | (rw [if_pos hr.1]; done) | (rw [if_neg hr.1]; first | done | rfl))); have e2 : (e : Int) = (rdE (B.drop a) e 8 (floatE ((B.drop a).take 8))) := (by first | rfl | exact hr.2 | exact hr.2.symm | (rw [hr.2]; first | done | rfl | omega) | (rw [rfA_ok hr.1]; first | done | rfl) | (rw [rfA_no hr.1]) | (simp only [rdN]; first | (rw [if_pos hr.1, ← rfN_ok (by assumption)]; done) | (rw [if_pos hr.1]; done) | (rw [if_neg hr.1]; first | done | rfl))); have hE := congr (congrArg (fun (q1 : Int) (q2 : Int) => (.live (.box 40 [.d (dsl false false kU8 B), .d (.val (.int .i64 q1)), .d (.val (.int .i64 q2))]) : HS)) e1) e2; exact hE)⟩, trivial⟩
  · refine T.condF (b := (decide (e ≠ 0))) rfl (decide_eq_false hq1) ?_
    refine T.skip ?_
    refine nT ?_
    refine T.seq ?_
    refine tR (s1 := ⟨[pv 0 0, AV.any, dv (.float .f64 0), dv (.int .u64 ((rfN B a 8 : Nat) : Int)), dv (.bool (decide (a + 8 ≤ B.length))), AV.any, AV.any, AV.any, AV.any, AV.any, dv (.bool (decide (e ≠ 0)))], [.live (.box 40 [.d (dsl false false kU8 B), .d (.val (.int .i64 ((a : Nat) : Int))), .d (.val (.int .i64 e))])]⟩) [true, false, true, true, true, false, false, false, false, false, true] [true]
      (oC (oS rfl rfl (r_move (av := pv 0 0) (lt_of rfl) trivial))
      (oC (oS rfl rfl (r_call (ref01_number B a e 8 (by first | assumption | omega | (simp only [maxLen, kU8_sz, kSl_sz, k_quaestorlaw01_Item_sz]; omega) | (simp only [maxLen, kU8_sz, kSl_sz, k_quaestorlaw01_Item_sz, List.length_append, List.length_cons, List.length_nil, List.length_take, List.length_drop, List.length_set]; omega) | decide) (by first | assumption | omega | (simp only [maxLen, kU8_sz, kSl_sz, k_quaestorlaw01_Item_sz]; omega) | (simp only [maxLen, kU8_sz, kSl_sz, k_quaestorlaw01_Item_sz, List.length_append, List.length_cons, List.length_nil, List.length_take, List.length_drop, List.length_set]; omega) | decide) (by first | assumption | omega | (simp only [maxLen, kU8_sz, kSl_sz, k_quaestorlaw01_Item_sz]; omega) | (simp only [maxLen, kU8_sz, kSl_sz, k_quaestorlaw01_Item_sz, List.length_append, List.length_cons, List.length_nil, List.length_take, List.length_drop, List.length_set]; omega) | decide)) Try.func52 rfl (by decide) [0] [] (l := [(.tmp 12, pv 0 0), (.const (.int .i64 8), dv (.int .i64 8))]) [] rfl 1 1 rfl rfl rfl rfl rfl rfl rfl rfl rfl ⟨.inl ⟨rfl, rfl⟩, ⟨.inl ⟨rfl, rfl⟩, trivial⟩⟩ rfl (fun b hb => by cases hb) (.inl rfl) (lt_of rfl) ⟨rfl, trivial⟩))
      (oC (oS rfl rfl (r_move (av := .tup [.one (.d (.val (.int .u64 ((rfN B a 8 : Nat) : Int)))), .one (.d (.val (.bool (decide (a + 8 ≤ B.length)))))]) (lt_of rfl) trivial))
      (oC (oS rfl rfl (r_extract (l := [.one (.d (.val (.int .u64 ((rfN B a 8 : Nat) : Int)))), .one (.d (.val (.bool (decide (a + 8 ≤ B.length)))))]) (tv := .one (.d (.val (.int .u64 ((rfN B a 8 : Nat) : Int))))) rfl (lt_of rfl) trivial))
      (oC (oS rfl rfl (r_extract (l := [.one (.d (.val (.int .u64 ((rfN B a 8 : Nat) : Int)))), .one (.d (.val (.bool (decide (a + 8 ≤ B.length)))))]) (tv := .one (.d (.val (.bool (decide (a + 8 ≤ B.length)))))) rfl (lt_of rfl) trivial))
      (oC (oS rfl rfl (r_assign (av := dv (.int .u64 ((rfN B a 8 : Nat) : Int))) (lt_of rfl) trivial))
      (oC (oS rfl rfl (r_assign (av := dv (.bool (decide (a + 8 ≤ B.length)))) (lt_of rfl) trivial)) (oZ rfl))))))))
      (by kernel_rfl) (by kernel_rfl) ?_
    refine nT ?_
    refine T.seq ?_
    refine T.seq ?_
    refine tR (s1 := ⟨[pv 0 0, AV.any, dv (.float .f64 0), dv (.int .u64 ((rfN B a 8 : Nat) : Int)), dv (.bool (decide (a + 8 ≤ B.length))), AV.any, AV.any, AV.any, AV.any, AV.any, dv (.bool (decide (e ≠ 0))), AV.any, AV.any, AV.any, AV.any, AV.any, AV.any, dv (.bool (!(decide (a + 8 ≤ B.length))))], [.live (.box 40 [.d (dsl false false kU8 B), .d (.val (.int .i64 ((a : Nat) : Int))), .d (.val (.int .i64 e))])]⟩) [true, false, true, true, true, false, false, false, false, false, true, false, false, false, false, false, false, true] [true]
      (oC (oS rfl rfl (r_move (av := dv (.bool (decide (a + 8 ≤ B.length)))) (lt_of rfl) trivial))
      (oC (oS rfl rfl (r_un (u := .bool (decide (a + 8 ≤ B.length))) (v := .bool (!(decide (a + 8 ≤ B.length)))) u_not (lt_of rfl) trivial)) (oZ rfl)))
      (by kernel_rfl) (by kernel_rfl) ?_
    refine nT ?_
    by_cases hq2 : a + 8 ≤ B.length
    · refine T.condF (b := (!(decide (a + 8 ≤ B.length)))) rfl (congrArg Bool.not (decide_eq_true hq2)) ?_
      refine T.skip ?_
      refine nT ?_
      refine T.seq ?_
      refine tR (s1 := ⟨[pv 0 0, AV.any, dv (.float .f64 0), dv (.int .u64 ((rfN B a 8 : Nat) : Int)), dv (.bool (decide (a + 8 ≤ B.length))), dv (.float .f64 (rfN B a 8)), AV.any, AV.any, AV.any, AV.any, dv (.bool (decide (e ≠ 0))), AV.any, AV.any, AV.any, AV.any, AV.any, AV.any, dv (.bool (!(decide (a + 8 ≤ B.length))))], [.live (.box 40 [.d (dsl false false kU8 B), .d (.val (.int .i64 ((a : Nat) : Int))), .d (.val (.int .i64 e))])]⟩) [true, false, true, true, true, true, false, false, false, false, true, false, false, false, false, false, false, true] [true]
        (oC (oS rfl rfl (r_move (av := dv (.int .u64 ((rfN B a 8 : Nat) : Int))) (lt_of rfl) trivial))
        (oC (oS rfl rfl (r_ext1 (u := .int .u64 ((rfN B a 8 : Nat) : Int)) (v := .float .f64 (rfN B a 8)) (e := Extern.MathFloatBits.float64frombits) Try.func47 (by kernel_rfl) (by kernel_rfl) (by kernel_rfl) (by kernel_rfl) (fun w => rfl) (lt_of rfl) trivial))
        (oC (oS rfl rfl (r_assign (av := dv (.float .f64 (rfN B a 8))) (lt_of rfl) trivial)) (oZ rfl))))
        (by kernel_rfl) (by kernel_rfl) ?_
      refine nT ?_
      refine T.seq ?_
      refine T.seq ?_
      by_cases hq3 : (nanB (rfN B a 8)) = true
      · refine tR (s1 := ⟨[pv 0 0, AV.any, dv (.float .f64 0), dv (.int .u64 ((rfN B a 8 : Nat) : Int)), dv (.bool (decide (a + 8 ≤ B.length))), dv (.float .f64 (rfN B a 8)), AV.any, AV.any, AV.any, AV.any, dv (.bool (decide (e ≠ 0))), AV.any, AV.any, AV.any, AV.any, AV.any, AV.any, dv (.bool (!(decide (a + 8 ≤ B.length)))), AV.any, AV.any, AV.any, AV.any, AV.any, AV.any, AV.any, AV.any, AV.any, AV.any, AV.any, dv (.bool (decide (((rfN B a 8 : Nat) : Int) ≠ 9221120237041090561)))], [.live (.box 40 [.d (dsl false false kU8 B), .d (.val (.int .i64 ((a : Nat) : Int))), .d (.val (.int .i64 e))])]⟩) [true, false, true, true, true, true, false, false, false, false, true, false, false, false, false, false, false, true, false, false, false, false, false, false, false, false, false, false, false, true] [true]
          (oC (oS rfl rfl (r_move (av := dv (.float .f64 (rfN B a 8))) (lt_of rfl) trivial))
          (oC (oS rfl rfl (r_move (av := dv (.float .f64 (rfN B a 8))) (lt_of rfl) trivial))
          (oC (oS rfl rfl (r_bin (u1 := .float .f64 (rfN B a 8)) (u2 := .float .f64 (rfN B a 8)) (v := .bool (nanB (rfN B a 8))) b_nan (lt_of rfl) trivial))
          (oC (oS rfl rfl (r_move (av := dv (.bool (nanB (rfN B a 8)))) (lt_of rfl) trivial))
          (oC (oY (b := (nanB (rfN B a 8))) rfl rfl rfl rfl (lt_of rfl) hq3 (r_move (av := dv (.int .u64 ((rfN B a 8 : Nat) : Int))) (lt_of rfl) trivial))
          (oC (oY (b := (nanB (rfN B a 8))) rfl rfl rfl rfl (lt_of rfl) hq3 (r_bin (u1 := .int .u64 ((rfN B a 8 : Nat) : Int)) (u2 := .int .u64 9221120237041090561) (v := .bool (decide (((rfN B a 8 : Nat) : Int) ≠ 9221120237041090561))) b_neq (lt_of rfl) ⟨rfl, trivial⟩))
          (oC (oS rfl rfl (r_pickT (b := (nanB (rfN B a 8))) (av := dv (.bool (decide (((rfN B a 8 : Nat) : Int) ≠ 9221120237041090561)))) (lt_of rfl) trivial hq3)) (oZ rfl))))))))
          (by kernel_rfl) (by kernel_rfl) ?_
        refine nT ?_
        by_cases hq4 : ((rfN B a 8 : Nat) : Int) ≠ 9221120237041090561
        · have hr := rf_m (n := 8) (k := 8) (c := 12) (m := (floatE ((B.drop a).take 8))) rfl (by assumption) (by assumption) (by rw [float_of (by assumption), if_pos ⟨by assumption, hq4⟩]) (by decide)
          refine T.condT (b := (decide (((rfN B a 8 : Nat) : Int) ≠ 9221120237041090561))) rfl (decide_eq_true hq4) ?_
          refine T.seq ?_
          refine tR (s1 := ⟨[pv 0 0, AV.any, dv (.float .f64 0), dv (.int .u64 ((rfN B a 8 : Nat) : Int)), dv (.bool (decide (a + 8 ≤ B.length))), dv (.float .f64 (rfN B a 8)), AV.any, AV.any, AV.any, AV.any, dv (.bool (decide (e ≠ 0))), AV.any, AV.any, AV.any, AV.any, AV.any, AV.any, dv (.bool (!(decide (a + 8 ≤ B.length)))), AV.any, AV.any, AV.any, AV.any, AV.any, AV.any, AV.any, AV.any, AV.any, AV.any, AV.any, dv (.bool (decide (((rfN B a 8 : Nat) : Int) ≠ 9221120237041090561)))], [.live (.box 40 [.d (dsl false false kU8 B), .d (.val (.int .i64 ((a : Nat) : Int))), .d (.val (.int .i64 12))])]⟩) [true, false, true, true, true, true, false, false, false, false, true, false, false, false, false, false, false, true, false, false, false, false, false, false, false, false, false, false, false, true] [true]
            (oC (oS rfl rfl (r_move (av := pv 0 0) (lt_of rfl) trivial))
            (oC (oS rfl rfl (r_nilCheck (av := pv 0 0) rfl (lt_of rfl) trivial))
            (oC (oS rfl rfl (r_fieldAddr (l := 0) (off := 0) fld_40_2 (lt_of rfl) trivial))
            (oC (oS rfl rfl (r_store (l := 0) (off := 2) (n := 1) (T := 40) (cs := [.d (dsl false false kU8 B), .d (.val (.int .i64 ((a : Nat) : Int))), .d (.val (.int .i64 e))]) (cs' := [.d (dsl false false kU8 B), .d (.val (.int .i64 ((a : Nat) : Int))), .d (.val (.int .i64 12))]) (tv := .one (.d (.val (.int .i64 12)))) cells_35 rfl (Nat.le_of_ble_eq_true rfl) rfl rfl ⟨rfl, trivial⟩)) (oZ rfl)))))
            (by kernel_rfl) (by kernel_rfl) ?_
          refine nT ?_
          refine T.seq ?_
          refine tR (s1 := ⟨[pv 0 0, AV.any, dv (.float .f64 0), dv (.int .u64 ((rfN B a 8 : Nat) : Int)), dv (.bool (decide (a + 8 ≤ B.length))), dv (.float .f64 (rfN B a 8)), AV.any, AV.any, AV.any, AV.any, dv (.bool (decide (e ≠ 0))), AV.any, AV.any, AV.any, AV.any, AV.any, AV.any, dv (.bool (!(decide (a + 8 ≤ B.length)))), AV.any, AV.any, AV.any, AV.any, AV.any, AV.any, AV.any, AV.any, AV.any, AV.any, AV.any, dv (.bool (decide (((rfN B a 8 : Nat) : Int) ≠ 9221120237041090561)))], [.live (.box 40 [.d (dsl false false kU8 B), .d (.val (.int .i64 ((a : Nat) : Int))), .d (.val (.int .i64 12))])]⟩) [true, false, true, true, true, true, false, false, false, false, true, false, false, false, false, false, false, true, false, false, false, false, false, false, false, false, false, false, false, true] [true]
            (oC (oS rfl rfl (r_assign (av := dv (.float .f64 0)) (lt_of rfl) ⟨rfl, trivial⟩)) (oZ rfl))
            (by kernel_rfl) (by kernel_rfl) ?_
          refine nT ?_
          refine T.ret ?_
          refine rT ?_
          exact tE (.inl rfl) [.t 2 (.one (.d (.val (.float .f64 0))))] ⟨⟨rfl, rfl⟩, trivial⟩ [0] (by have e1 : ((rdN (B.drop a) e) : Nat) = 0 := (by first | rfl | exact hr.2 | exact hr.2.symm | (rw [hr.2]; first | done | rfl | omega) | (rw [rfA_ok hr.1]; first | done | rfl) | (rw [rfA_no hr.1]) | (simp only [rdN]; first | (rw [if_pos hr.1, ← rfN_ok (by assumption)]; done) | (rw [if_pos hr.1]; done) | (rw [if_neg hr.1]; first | done | rfl))); have hE := congrArg (fun (q1 : Nat) => (dv (.float .f64 q1) : AV)) e1; exact hE) rfl rfl rfl rfl rfl ⟨⟨rfl, (by have e1 : (((a : Nat) : Int) : Int) = ((rfA B a e 8 (floatE ((B.drop a).take 8)) : Nat) : Int) := (by first | rfl | exact hr.2 | exact hr.2.symm | (rw [hr.2]; first | done | rfl | omega) | (rw [rfA_ok hr.1]; first | done | rfl) | (rw [rfA_no hr.1]) | (simp only [rdN]; first | (rw [if_pos hr.1, ← rfN_ok (by assumption)]; done) | (rw [if_pos hr.1]; done) | (rw [if_neg hr.1]; first | done | rfl))); have e2 : (12 : Int) = (rdE (B.drop a) e 8 (floatE ((B.drop a).take 8))) := (by first | rfl | exact hr.2 | exact hr.2.symm | (rw [hr.2]; first | done | rfl | omega) | (rw [rfA_ok hr.1]; first | done | rfl) | (rw [rfA_no hr.1]) | (simp only [rdN]; first | (rw [if_pos hr.1, ← rfN_ok (by assumption)]; done) | (rw [if_pos hr.1]; done) | (rw [if_neg hr.1]; first | done | rfl))); have hE := congr (congrArg (fun (q1 : Int) (q2 : Int) => (.live (.box 40 [.d (dsl false false kU8 B), .d (.val (.int .i64 q1)), .d (.val (.int .i64 q2))]) : HS)) e1) e2; exact hE)⟩, trivial⟩
        · have hr := rf_ok (n := 8) (k := 8) (m := (floatE ((B.drop a).take 8))) rfl (by assumption) (by assumption) (by rw [float_of (by assumption), if_neg (fun h1 => h1.2 (Classical.not_not.1 hq4))])
          refine T.condF (b := (decide (((rfN B a 8 : Nat) : Int) ≠ 9221120237041090561))) rfl (decide_eq_false hq4) ?_
          refine T.skip ?_
          refine nT ?_
          refine T.seq ?_
          refine tR (s1 := ⟨[pv 0 0, AV.any, dv (.float .f64 0), dv (.int .u64 ((rfN B a 8 : Nat) : Int)), dv (.bool (decide (a + 8 ≤ B.length))), dv (.float .f64 (rfN B a 8)), AV.any, AV.any, AV.any, AV.any, dv (.bool (decide (e ≠ 0))), AV.any, AV.any, AV.any, AV.any, AV.any, AV.any, dv (.bool (!(decide (a + 8 ≤ B.length)))), AV.any, AV.any, AV.any, AV.any, AV.any, AV.any, AV.any, AV.any, AV.any, AV.any, AV.any, dv (.bool (decide (((rfN B a 8 : Nat) : Int) ≠ 9221120237041090561)))], [.live (.box 40 [.d (dsl false false kU8 B), .d (.val (.int .i64 ((a + 8 : Nat) : Int))), .d (.val (.int .i64 e))])]⟩) [true, false, true, true, true, true, false, false, false, false, true, false, false, false, false, false, false, true, false, false, false, false, false, false, false, false, false, false, false, true] [true]
            (oC (oS rfl rfl (r_move (av := pv 0 0) (lt_of rfl) trivial))
            (oC (oS rfl rfl (r_nilCheck (av := pv 0 0) rfl (lt_of rfl) trivial))
            (oC (oS rfl rfl (r_fieldAddr (l := 0) (off := 0) fld_40_1 (lt_of rfl) trivial))
            (oC (oS rfl rfl (r_loadB (l := 0) (off := 1) (T := 40) (cs := [.d (dsl false false kU8 B), .d (.val (.int .i64 ((a : Nat) : Int))), .d (.val (.int .i64 e))]) (c := .d (.val (.int .i64 ((a : Nat) : Int)))) wide_3 rfl (lt_of rfl) trivial))
            (oC (oS rfl rfl (r_bin (u1 := .int .i64 ((a : Nat) : Int)) (u2 := .int .i64 8) (v := .int .i64 ((a + 8 : Nat) : Int)) (b_add (by rw [IntKind.wrap_i64]; omega)) (lt_of rfl) ⟨rfl, trivial⟩))
            (oC (oS rfl rfl (r_nilCheck (av := pv 0 0) rfl (lt_of rfl) trivial))
            (oC (oS rfl rfl (r_fieldAddr (l := 0) (off := 0) fld_40_1 (lt_of rfl) trivial))
            (oC (oS rfl rfl (r_store (l := 0) (off := 1) (n := 1) (T := 40) (cs := [.d (dsl false false kU8 B), .d (.val (.int .i64 ((a : Nat) : Int))), .d (.val (.int .i64 e))]) (cs' := [.d (dsl false false kU8 B), .d (.val (.int .i64 ((a + 8 : Nat) : Int))), .d (.val (.int .i64 e))]) (tv := .one (.d (.val (.int .i64 ((a + 8 : Nat) : Int))))) cells_3 rfl (Nat.le_of_ble_eq_true rfl) rfl rfl trivial)) (oZ rfl)))))))))
            (by kernel_rfl) (by kernel_rfl) ?_
          refine nT ?_
          refine T.seq ?_
          refine tR (s1 := ⟨[pv 0 0, AV.any, dv (.float .f64 (rfN B a 8)), dv (.int .u64 ((rfN B a 8 : Nat) : Int)), dv (.bool (decide (a + 8 ≤ B.length))), dv (.float .f64 (rfN B a 8)), AV.any, AV.any, AV.any, AV.any, dv (.bool (decide (e ≠ 0))), AV.any, AV.any, AV.any, AV.any, AV.any, AV.any, dv (.bool (!(decide (a + 8 ≤ B.length)))), AV.any, AV.any, AV.any, AV.any, AV.any, AV.any, AV.any, AV.any, AV.any, AV.any, AV.any, dv (.bool (decide (((rfN B a 8 : Nat) : Int) ≠ 9221120237041090561)))], [.live (.box 40 [.d (dsl false false kU8 B), .d (.val (.int .i64 ((a + 8 : Nat) : Int))), .d (.val (.int .i64 e))])]⟩) [true, false, true, true, true, true, false, false, false, false, true, false, false, false, false, false, false, true, false, false, false, false, false, false, false, false, false, false, false, true] [true]
            (oC (oS rfl rfl (r_move (av := dv (.float .f64 (rfN B a 8))) (lt_of rfl) trivial))
            (oC (oS rfl rfl (r_assign (av := dv (.float .f64 (rfN B a 8))) (lt_of rfl) trivial)) (oZ rfl)))
            (by kernel_rfl) (by kernel_rfl) ?_
          refine nT ?_
          refine T.ret ?_
          exact tE (.inl rfl) [.t 2 (.one (.d (.val (.float .f64 (rfN B a 8)))))] ⟨⟨rfl, rfl⟩, trivial⟩ [0] (by have e1 : ((rdN (B.drop a) e) : Nat) = rfN B a 8 := (by first | rfl | exact hr.2 | exact hr.2.symm | (rw [hr.2]; first | done | rfl | omega) | (rw [rfA_ok hr.1]; first | done | rfl) | (rw [rfA_no hr.1]) | (simp only [rdN]; first | (rw [if_pos hr.1, ← rfN_ok (by assumption)]; done) | (rw [if_pos hr.1]; done) | (rw [if_neg hr.1]; first | done | rfl))); have hE := congrArg (fun (q1 : Nat) => (dv (.float .f64 q1) : AV)) e1; exact hE) rfl rfl rfl rfl rfl ⟨⟨rfl, (by have e1 : (((a + 8 : Nat) : Int) : Int) = ((rfA B a e 8 (floatE ((B.drop a).take 8)) : Nat) : Int) := (by first | rfl | exact hr.2 | exact hr.2.symm | (rw [hr.2]; first | done | rfl | omega) | (rw [rfA_ok hr.1]; first | done | rfl) | (rw [rfA_no hr.1]) | (simp only [rdN]; first | (rw [if_pos hr.1, ← rfN_ok (by assumption)]; done) | (rw [if_pos hr.1]; done) | (rw [if_neg hr.1]; first | done | rfl))); have e2 : (e : Int) = (rdE (B.drop a) e 8 (floatE ((B.drop a).take 8))) := (by first | rfl | exact hr.2 | exact hr.2.symm | (rw [hr.2]; first | done | rfl | omega) | (rw [rfA_ok hr.1]; first | done | rfl) | (rw [rfA_no hr.1]) | (simp only [rdN]; first | (rw [if_pos hr.1, ← rfN_ok (by assumption)]; done) | (rw [if_pos hr.1]; done) | (rw [if_neg hr.1]; first | done | rfl))); have hE := congr (congrArg (fun (q1 : Int) (q2 : Int) => (.live (.box 40 [.d (dsl false false kU8 B), .d (.val (.int .i64 q1)), .d (.val (.int .i64 q2))]) : HS)) e1) e2; exact hE)⟩, trivial⟩
      · have hr := rf_ok (n := 8) (k := 8) (m := (floatE ((B.drop a).take 8))) rfl (by assumption) (by assumption) (by rw [float_of (by assumption), if_neg (fun h1 => hq3 h1.1)])
        replace hq3 := Bool.eq_false_iff.2 hq3
        refine tR (s1 := ⟨[pv 0 0, AV.any, dv (.float .f64 0), dv (.int .u64 ((rfN B a 8 : Nat) : Int)), dv (.bool (decide (a + 8 ≤ B.length))), dv (.float .f64 (rfN B a 8)), AV.any, AV.any, AV.any, AV.any, dv (.bool (decide (e ≠ 0))), AV.any, AV.any, AV.any, AV.any, AV.any, AV.any, dv (.bool (!(decide (a + 8 ≤ B.length)))), AV.any, AV.any, AV.any, AV.any, AV.any, AV.any, AV.any, AV.any, AV.any, AV.any, AV.any, dv (.bool false)], [.live (.box 40 [.d (dsl false false kU8 B), .d (.val (.int .i64 ((a : Nat) : Int))), .d (.val (.int .i64 e))])]⟩) [true, false, true, true, true, true, false, false, false, false, true, false, false, false, false, false, false, true, false, false, false, false, false, false, false, false, false, false, false, true] [true]
          (oC (oS rfl rfl (r_move (av := dv (.float .f64 (rfN B a 8))) (lt_of rfl) trivial))
          (oC (oS rfl rfl (r_move (av := dv (.float .f64 (rfN B a 8))) (lt_of rfl) trivial))
          (oC (oS rfl rfl (r_bin (u1 := .float .f64 (rfN B a 8)) (u2 := .float .f64 (rfN B a 8)) (v := .bool (nanB (rfN B a 8))) b_nan (lt_of rfl) trivial))
          (oC (oS rfl rfl (r_move (av := dv (.bool (nanB (rfN B a 8)))) (lt_of rfl) trivial))
          (oC (oN (b := (nanB (rfN B a 8))) rfl rfl rfl rfl (lt_of rfl) hq3 rfl (lt_of rfl))
          (oC (oN (b := (nanB (rfN B a 8))) rfl rfl rfl rfl (lt_of rfl) hq3 rfl (lt_of rfl))
          (oC (oS rfl rfl (r_pickF (b := (nanB (rfN B a 8))) (av := dv (.bool false)) (lt_of rfl) ⟨rfl, trivial⟩ hq3)) (oZ rfl))))))))
          (by kernel_rfl) (by kernel_rfl) ?_
        refine nT ?_
        refine T.condF (b := false) rfl rfl ?_
        refine T.skip ?_
        refine nT ?_
        refine T.seq ?_
        refine tR (s1 := ⟨[pv 0 0, AV.any, dv (.float .f64 0), dv (.int .u64 ((rfN B a 8 : Nat) : Int)), dv (.bool (decide (a + 8 ≤ B.length))), dv (.float .f64 (rfN B a 8)), AV.any, AV.any, AV.any, AV.any, dv (.bool (decide (e ≠ 0))), AV.any, AV.any, AV.any, AV.any, AV.any, AV.any, dv (.bool (!(decide (a + 8 ≤ B.length)))), AV.any, AV.any, AV.any, AV.any, AV.any, AV.any, AV.any, AV.any, AV.any, AV.any, AV.any, dv (.bool false)], [.live (.box 40 [.d (dsl false false kU8 B), .d (.val (.int .i64 ((a + 8 : Nat) : Int))), .d (.val (.int .i64 e))])]⟩) [true, false, true, true, true, true, false, false, false, false, true, false, false, false, false, false, false, true, false, false, false, false, false, false, false, false, false, false, false, true] [true]
          (oC (oS rfl rfl (r_move (av := pv 0 0) (lt_of rfl) trivial))
          (oC (oS rfl rfl (r_nilCheck (av := pv 0 0) rfl (lt_of rfl) trivial))
          (oC (oS rfl rfl (r_fieldAddr (l := 0) (off := 0) fld_40_1 (lt_of rfl) trivial))
          (oC (oS rfl rfl (r_loadB (l := 0) (off := 1) (T := 40) (cs := [.d (dsl false false kU8 B), .d (.val (.int .i64 ((a : Nat) : Int))), .d (.val (.int .i64 e))]) (c := .d (.val (.int .i64 ((a : Nat) : Int)))) wide_3 rfl (lt_of rfl) trivial))
          (oC (oS rfl rfl (r_bin (u1 := .int .i64 ((a : Nat) : Int)) (u2 := .int .i64 8) (v := .int .i64 ((a + 8 : Nat) : Int)) (b_add (by rw [IntKind.wrap_i64]; omega)) (lt_of rfl) ⟨rfl, trivial⟩))
          (oC (oS rfl rfl (r_nilCheck (av := pv 0 0) rfl (lt_of rfl) trivial))
          (oC (oS rfl rfl (r_fieldAddr (l := 0) (off := 0) fld_40_1 (lt_of rfl) trivial))
          (oC (oS rfl rfl (r_store (l := 0) (off := 1) (n := 1) (T := 40) (cs := [.d (dsl false false kU8 B), .d (.val (.int .i64 ((a : Nat) : Int))), .d (.val (.int .i64 e))]) (cs' := [.d (dsl false false kU8 B), .d (.val (.int .i64 ((a + 8 : Nat) : Int))), .d (.val (.int .i64 e))]) (tv := .one (.d (.val (.int .i64 ((a + 8 : Nat) : Int))))) cells_3 rfl (Nat.le_of_ble_eq_true rfl) rfl rfl trivial)) (oZ rfl)))))))))
          (by kernel_rfl) (by kernel_rfl) ?_
        refine nT ?_
        refine T.seq ?_
        refine tR (s1 := ⟨[pv 0 0, AV.any, dv (.float .f64 (rfN B a 8)), dv (.int .u64 ((rfN B a 8 : Nat) : Int)), dv (.bool (decide (a + 8 ≤ B.length))), dv (.float .f64 (rfN B a 8)), AV.any, AV.any, AV.any, AV.any, dv (.bool (decide (e ≠ 0))), AV.any, AV.any, AV.any, AV.any, AV.any, AV.any, dv (.bool (!(decide (a + 8 ≤ B.length)))), AV.any, AV.any, AV.any, AV.any, AV.any, AV.any, AV.any, AV.any, AV.any, AV.any, AV.any, dv (.bool false)], [.live (.box 40 [.d (dsl false false kU8 B), .d (.val (.int .i64 ((a + 8 : Nat) : Int))), .d (.val (.int .i64 e))])]⟩) [true, false, true, true, true, true, false, false, false, false, true, false, false, false, false, false, false, true, false, false, false, false, false, false, false, false, false, false, false, true] [true]
          (oC (oS rfl rfl (r_move (av := dv (.float .f64 (rfN B a 8))) (lt_of rfl) trivial))
          (oC (oS rfl rfl (r_assign (av := dv (.float .f64 (rfN B a 8))) (lt_of rfl) trivial)) (oZ rfl)))
          (by kernel_rfl) (by kernel_rfl) ?_
        refine nT ?_
        refine T.ret ?_
        exact tE (.inl rfl) [.t 2 (.one (.d (.val (.float .f64 (rfN B a 8)))))] ⟨⟨rfl, rfl⟩, trivial⟩ [0] (by have e1 : ((rdN (B.drop a) e) : Nat) = rfN B a 8 := (by first | rfl | exact hr.2 | exact hr.2.symm | (rw [hr.2]; first | done | rfl | omega) | (rw [rfA_ok hr.1]; first | done | rfl) | (rw [rfA_no hr.1]) | (simp only [rdN]; first | (rw [if_pos hr.1, ← rfN_ok (by assumption)]; done) | (rw [if_pos hr.1]; done) | (rw [if_neg hr.1]; first | done | rfl))); have hE := congrArg (fun (q1 : Nat) => (dv (.float .f64 q1) : AV)) e1; exact hE) rfl rfl rfl rfl rfl ⟨⟨rfl, (by have e1 : (((a + 8 : Nat) : Int) : Int) = ((rfA B a e 8 (floatE ((B.drop a).take 8)) : Nat) : Int) := (by first | rfl | exact hr.2 | exact hr.2.symm | (rw [hr.2]; first | done | rfl | omega) | (rw [rfA_ok hr.1]; first | done | rfl) | (rw [rfA_no hr.1]) | (simp only [rdN]; first | (rw [if_pos hr.1, ← rfN_ok (by assumption)]; done) | (rw [if_pos hr.1]; done) | (rw [if_neg hr.1]; first | done | rfl))); have e2 : (e : Int) = (rdE (B.drop a) e 8 (floatE ((B.drop a).take 8))) := (by first | rfl | exact hr.2 | exact hr.2.symm | (rw [hr.2]; first | done | rfl | omega) | (rw [rfA_ok hr.1]; first | done | rfl) | (rw [rfA_no hr.1]) | (simp only [rdN]; first | (rw [if_pos hr.1, ← rfN_ok (by assumption)]; done) | (rw [if_pos hr.1]; done) | (rw [if_neg hr.1]; first | done | rfl))); have hE := congr (congrArg (fun (q1 : Int) (q2 : Int) => (.live (.box 40 [.d (dsl false false kU8 B), .d (.val (.int .i64 q1)), .d (.val (.int .i64 q2))]) : HS)) e1) e2; exact hE)⟩, trivial⟩
    · have hr := rf_short (n := 8) (k := 8) rfl (by assumption) hq2 ha (floatE ((B.drop a).take 8))
      refine T.condT (b := (!(decide (a + 8 ≤ B.length)))) rfl (congrArg Bool.not (decide_eq_false hq2)) ?_
      refine T.seq ?_
      refine tR (s1 := ⟨[pv 0 0, AV.any, dv (.float .f64 0), dv (.int .u64 ((rfN B a 8 : Nat) : Int)), dv (.bool (decide (a + 8 ≤ B.length))), AV.any, AV.any, AV.any, AV.any, AV.any, dv (.bool (decide (e ≠ 0))), AV.any, AV.any, AV.any, AV.any, AV.any, AV.any, dv (.bool (!(decide (a + 8 ≤ B.length))))], [.live (.box 40 [.d (dsl false false kU8 B), .d (.val (.int .i64 ((a : Nat) : Int))), .d (.val (.int .i64 10))])]⟩) [true, false, true, true, true, false, false, false, false, false, true, false, false, false, false, false, false, true] [true]
        (oC (oS rfl rfl (r_move (av := pv 0 0) (lt_of rfl) trivial))
        (oC (oS rfl rfl (r_nilCheck (av := pv 0 0) rfl (lt_of rfl) trivial))
        (oC (oS rfl rfl (r_fieldAddr (l := 0) (off := 0) fld_40_2 (lt_of rfl) trivial))
        (oC (oS rfl rfl (r_store (l := 0) (off := 2) (n := 1) (T := 40) (cs := [.d (dsl false false kU8 B), .d (.val (.int .i64 ((a : Nat) : Int))), .d (.val (.int .i64 e))]) (cs' := [.d (dsl false false kU8 B), .d (.val (.int .i64 ((a : Nat) : Int))), .d (.val (.int .i64 10))]) (tv := .one (.d (.val (.int .i64 10)))) cells_35 rfl (Nat.le_of_ble_eq_true rfl) rfl rfl ⟨rfl, trivial⟩)) (oZ rfl)))))
        (by kernel_rfl) (by kernel_rfl) ?_
      refine nT ?_
      refine T.seq ?_
      refine tR (s1 := ⟨[pv 0 0, AV.any, dv (.float .f64 0), dv (.int .u64 ((rfN B a 8 : Nat) : Int)), dv (.bool (decide (a + 8 ≤ B.length))), AV.any, AV.any, AV.any, AV.any, AV.any, dv (.bool (decide (e ≠ 0))), AV.any, AV.any, AV.any, AV.any, AV.any, AV.any, dv (.bool (!(decide (a + 8 ≤ B.length))))], [.live (.box 40 [.d (dsl false false kU8 B), .d (.val (.int .i64 ((a : Nat) : Int))), .d (.val (.int .i64 10))])]⟩) [true, false, true, true, true, false, false, false, false, false, true, false, false, false, false, false, false, true] [true]
        (oC (oS rfl rfl (r_assign (av := dv (.float .f64 0)) (lt_of rfl) ⟨rfl, trivial⟩)) (oZ rfl))
        (by kernel_rfl) (by kernel_rfl) ?_
      refine nT ?_
      refine T.ret ?_
      refine rT ?_
      exact tE (.inl rfl) [.t 2 (.one (.d (.val (.float .f64 0))))] ⟨⟨rfl, rfl⟩, trivial⟩ [0] (by have e1 : ((rdN (B.drop a) e) : Nat) = 0 := (by first | rfl | exact hr.2 | exact hr.2.symm | (rw [hr.2]; first | done | rfl | omega) | (rw [rfA_ok hr.1]; first | done | rfl) | (rw [rfA_no hr.1]) | (simp only [rdN]; first | (rw [if_pos hr.1, ← rfN_ok (by assumption)]; done) | (rw [if_pos hr.1]; done) | (rw [if_neg hr.1]; first | done | rfl))); have hE := congrArg (fun (q1 : Nat) => (dv (.float .f64 q1) : AV)) e1; exact hE) rfl rfl rfl rfl rfl ⟨⟨rfl, (by have e1 : (((a : Nat) : Int) : Int) = ((rfA B a e 8 (floatE ((B.drop a).take 8)) : Nat) : Int) := (by first | rfl | exact hr.2 | exact hr.2.symm | (rw [hr.2]; first | done | rfl | omega) | (rw [rfA_ok hr.1]; first | done | rfl) | (rw [rfA_no hr.1]) | (simp only [rdN]; first | (rw [if_pos hr.1, ← rfN_ok (by assumption)]; done) | (rw [if_pos hr.1]; done) | (rw [if_neg hr.1]; first | done | rfl))); have e2 : (10 : Int) = (rdE (B.drop a) e 8 (floatE ((B.drop a).take 8))) := (by first | rfl | exact hr.2 | exact hr.2.symm | (rw [hr.2]; first | done | rfl | omega) | (rw [rfA_ok hr.1]; first | done | rfl) | (rw [rfA_no hr.1]) | (simp only [rdN]; first | (rw [if_pos hr.1, ← rfN_ok (by assumption)]; done) | (rw [if_pos hr.1]; done) | (rw [if_neg hr.1]; first | done | rfl))); have hE := congr (congrArg (fun (q1 : Int) (q2 : Int) => (.live (.box 40 [.d (dsl false false kU8 B), .d (.val (.int .i64 q1)), .d (.val (.int .i64 q2))]) : HS)) e1) e2; exact hE)⟩, trivial⟩
end Go.Proofs.Ytafkobdlcahdbaa.Q
