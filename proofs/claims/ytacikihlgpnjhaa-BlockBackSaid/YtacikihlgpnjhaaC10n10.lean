import Derived.Test.YtacikihlgpnjhaaC10n9
namespace Go.Proofs.Ytacikihlgpnjhaa.Q
open Go Go.RowKit
set_option linter.unusedVariables false
set_option linter.unusedSimpArgs false
set_option maxRecDepth 100000
set_option maxHeartbeats 4000000
theorem seq_35 : SEq Try.prog 35 (fun x : api_Result => .agg #[.int .i64 x.f_Code, .int .i64 x.f_Stage]) := seq_of (g := fun x : api_Result => #[.int .i64 x.f_Code, .int .i64 x.f_Stage]) (bs' := fun a b => [decide (a.f_Code = b.f_Code), decide (a.f_Stage = b.f_Stage)]) Try.underlying35 (by kernel_rfl) (by kernel_rfl) (fun a b => ⟨by decide, ⟨_, _, rfl, rfl, .int Try.underlying33⟩, ⟨by decide, ⟨_, _, rfl, rfl, .int Try.underlying3⟩, trivial⟩⟩) (fun a b => by rw [Bool.eq_iff_iff]; simp [api_Result_iff])
-- quaestor/quaestorref10.Same
theorem ref10_Same (ta : Bool) (tb_ : Bool) (a : api_Block) (b : api_Block) (hq : a.f_Requests.length ≤ 9223372036854775807) (hr : a.f_Results.length ≤ 9223372036854775807) : Holds Try.prog 25 ⟨[.tv (.agg [.d (.val (.int .i64 a.f_Height)), .d (.val (strV a.f_Prev)), .d (dsl ta false (k_api_Envelope ta) a.f_Requests), .d (dsl ta false (k_api_Result ta) a.f_Results)]), .tv (.agg [.d (.val (.int .i64 b.f_Height)), .d (.val (strV b.f_Prev)), .d (dsl tb_ false (k_api_Envelope tb_) b.f_Requests), .d (dsl tb_ false (k_api_Result tb_) b.f_Results)])], [], dv (.bool (decide (a = b))), []⟩ := by
  refine Holds.of Try.func25 rfl (N := 53) Try.ntmps25 rfl fun w0 B0 S0 U0 => ?_
  show T _ (mkBase 53 0 w0 S0 U0 B0) ⟨[.tv (.agg [.d (.val (.int .i64 a.f_Height)), .d (.val (strV a.f_Prev)), .d (dsl ta false (k_api_Envelope ta) a.f_Requests), .d (dsl ta false (k_api_Result ta) a.f_Results)]), .tv (.agg [.d (.val (.int .i64 b.f_Height)), .d (.val (strV b.f_Prev)), .d (dsl tb_ false (k_api_Envelope tb_) b.f_Requests), .d (dsl tb_ false (k_api_Result tb_) b.f_Results)])], []⟩ _ _
  refine T.seq ?_
  refine xR [] (by kernel_rfl) (by kernel_rfl) ?_
  refine nT ?_
  refine T.seq ?_
  refine T.seq ?_
  by_cases hq1 : a.f_Height ≠ b.f_Height
  · refine xR [hN 6 false (decide_eq_true hq1),
      hN 7 false (decide_eq_true hq1),
      hN 8 false (decide_eq_true hq1),
      hN 9 false (decide_eq_true hq1),
      hN 10 false (decide_eq_true hq1),
      hP 11 (decide_eq_true hq1),
      hN 13 (b := true) false rfl,
      hN 14 (b := true) false rfl,
      hN 15 (b := true) false rfl,
      hN 16 (b := true) false rfl,
      hN 17 (b := true) false rfl,
      hN 18 (b := true) false rfl,
      hP 19 (b := true) (w := true) rfl,
      hN 21 (b := true) false rfl,
      hN 22 (b := true) false rfl,
      hN 23 (b := true) false rfl,
      hN 24 (b := true) false rfl,
      hN 25 (b := true) false rfl,
      hN 26 (b := true) false rfl,
      hN 27 (b := true) false rfl,
      hP 28 (b := true) (w := true) rfl] (by kernel_rfl) (by kernel_rfl) ?_
    refine nT ?_
    refine T.condT (b := true) (by kernel_rfl) rfl ?_
    refine T.seq ?_
    refine xR [] (by kernel_rfl) (by kernel_rfl) ?_
    refine nT ?_
    refine T.ret ?_
    refine rT ?_
    exact tE (.inl rfl) [.t 4 (.one (.d (.val (.bool false))))] ⟨⟨rfl, by kernel_rfl⟩, trivial⟩ [] (by have e1 : ((decide (a = b)) : Bool) = false := (by first | exact decide_eq_true ((api_Block_iff _ _).2 ⟨hh.1, hh.2.1, hh.2.2.1, rows_eq (z := z_api_Result) (k := k) hh4 (by omega) hb⟩) | (refine decide_eq_false fun e => ?_; subst e; simp_all; done)); have hE := congrArg (fun (q1 : Bool) => (dv (.bool q1) : AV)) e1; exact hE) rfl rfl rfl rfl rfl trivial
  · by_cases hq2 : a.f_Prev ≠ b.f_Prev
    · refine xR [hY 6 (decide_eq_false hq1),
        hY 7 (decide_eq_false hq1),
        hY 8 (decide_eq_false hq1),
        hY 9 (decide_eq_false hq1),
        hY 10 (decide_eq_false hq1),
        hP 11 (decide_eq_false hq1),
        hN 13 false (decide_eq_true hq2),
        hN 14 false (decide_eq_true hq2),
        hN 15 false (decide_eq_true hq2),
        hN 16 false (decide_eq_true hq2),
        hN 17 false (decide_eq_true hq2),
        hN 18 false (decide_eq_true hq2),
        hP 19 (decide_eq_true hq2),
        hN 21 (b := true) false rfl,
        hN 22 (b := true) false rfl,
        hN 23 (b := true) false rfl,
        hN 24 (b := true) false rfl,
        hN 25 (b := true) false rfl,
        hN 26 (b := true) false rfl,
        hN 27 (b := true) false rfl,
        hP 28 (b := true) (w := true) rfl] (by kernel_rfl) (by kernel_rfl) ?_
      refine nT ?_
      refine T.condT (b := true) (by kernel_rfl) rfl ?_
      refine T.seq ?_
      refine xR [] (by kernel_rfl) (by kernel_rfl) ?_
      refine nT ?_
      refine T.ret ?_
      refine rT ?_
      exact tE (.inl rfl) [.t 4 (.one (.d (.val (.bool false))))] ⟨⟨rfl, by kernel_rfl⟩, trivial⟩ [] (by have e1 : ((decide (a = b)) : Bool) = false := (by first | exact decide_eq_true ((api_Block_iff _ _).2 ⟨hh.1, hh.2.1, hh.2.2.1, rows_eq (z := z_api_Result) (k := k) hh4 (by omega) hb⟩) | (refine decide_eq_false fun e => ?_; subst e; simp_all; done)); have hE := congrArg (fun (q1 : Bool) => (dv (.bool q1) : AV)) e1; exact hE) rfl rfl rfl rfl rfl trivial
    · by_cases hq3 : a.f_Requests = b.f_Requests
      · refine xR [hY 6 (decide_eq_false hq1),
          hY 7 (decide_eq_false hq1),
          hY 8 (decide_eq_false hq1),
          hY 9 (decide_eq_false hq1),
          hY 10 (decide_eq_false hq1),
          hP 11 (decide_eq_false hq1),
          hY 13 (decide_eq_false hq2),
          hY 14 (decide_eq_false hq2),
          hY 15 (decide_eq_false hq2),
          hY 16 (decide_eq_false hq2),
          hS 17 (oY rfl rfl rfl rfl (lt_of rfl) (decide_eq_false hq2) (r_call (ref03_All ta false ta tb_ false tb_ a.f_Requests b.f_Requests (by first | assumption | omega | (unfold maxLen; omega) | (simp [maxLen, -List.getD_eq_getElem?_getD] <;> omega) | decide)) Try.func42 rfl (by decide) [] [] (l := [(.tmp 20, slV ta false (k_api_Envelope ta) a.f_Requests), (.tmp 22, slV tb_ false (k_api_Envelope tb_) b.f_Requests)]) [] rfl 0 0 rfl rfl rfl rfl rfl rfl rfl rfl rfl ⟨.inl ⟨rfl, rfl⟩, ⟨.inl ⟨rfl, rfl⟩, trivial⟩⟩ rfl (fun b hb => by cases hb) (.inl rfl) (lt_of rfl) trivial)),
          hY 18 (decide_eq_false hq2),
          hP 19 (decide_eq_false hq2),
          hY 21 (congrArg Bool.not (decide_eq_true hq3)),
          hY 22 (congrArg Bool.not (decide_eq_true hq3)),
          hY 23 (congrArg Bool.not (decide_eq_true hq3)),
          hY 24 (congrArg Bool.not (decide_eq_true hq3)),
          hY 25 (congrArg Bool.not (decide_eq_true hq3)),
          hY 26 (congrArg Bool.not (decide_eq_true hq3)),
          hY 27 (congrArg Bool.not (decide_eq_true hq3)),
          hP 28 (congrArg Bool.not (decide_eq_true hq3))] (by kernel_rfl) (by kernel_rfl) ?_
        refine nT ?_
        by_cases hq4 : ((a.f_Results.length : Nat) : Int) ≠ ((b.f_Results.length : Nat) : Int)
        · refine T.condT (by kernel_rfl) (decide_eq_true hq4) ?_
          refine T.seq ?_
          refine xR [] (by kernel_rfl) (by kernel_rfl) ?_
          refine nT ?_
          refine T.ret ?_
          refine rT ?_
          exact tE (.inl rfl) [.t 4 (.one (.d (.val (.bool false))))] ⟨⟨rfl, by kernel_rfl⟩, trivial⟩ [] (by have e1 : ((decide (a = b)) : Bool) = false := (by first | exact decide_eq_true ((api_Block_iff _ _).2 ⟨hh.1, hh.2.1, hh.2.2.1, rows_eq (z := z_api_Result) (k := k) hh4 (by omega) hb⟩) | (refine decide_eq_false fun e => ?_; subst e; simp_all; done)); have hE := congrArg (fun (q1 : Bool) => (dv (.bool q1) : AV)) e1; exact hE) rfl rfl rfl rfl rfl trivial
        · refine T.condF (by kernel_rfl) (decide_eq_false hq4) ?_
          refine T.skip ?_
          refine nT ?_
          refine T.seq ?_
          refine T.seq ?_
          refine xR [] (by kernel_rfl) (by kernel_rfl) ?_
          refine nT ?_
          refine T.block ?_
          refine T.loop (ι := Nat) (fun (k : Nat) => ⟨[.tv (.agg [.d (.val (.int .i64 a.f_Height)), .d (.val (strV a.f_Prev)), .d (dsl ta false (k_api_Envelope ta) a.f_Requests), .d (dsl ta false (k_api_Result ta) a.f_Results)]), .tv (.agg [.d (.val (.int .i64 b.f_Height)), .d (.val (strV b.f_Prev)), .d (dsl tb_ false (k_api_Envelope tb_) b.f_Requests), .d (dsl tb_ false (k_api_Result tb_) b.f_Results)]), pv 0 0, pv 1 0, dv (.bool false), dv (.int .i64 ((k : Nat) : Int)), aa, aa, aa, aa, aa, aa, aa, aa, aa, aa, aa, aa, aa, aa, aa, aa, aa, aa, aa, aa, aa, aa, aa, aa, aa, aa, aa, aa, dv (.bool (decide (((a.f_Results.length : Nat) : Int) ≠ ((b.f_Results.length : Nat) : Int))))], [.live (.box 26 [.d (.val (.int .i64 a.f_Height)), .d (.val (strV a.f_Prev)), .d (dsl ta false (k_api_Envelope ta) a.f_Requests), .d (dsl ta false (k_api_Result ta) a.f_Results)]), .live (.box 26 [.d (.val (.int .i64 b.f_Height)), .d (.val (strV b.f_Prev)), .d (dsl tb_ false (k_api_Envelope tb_) b.f_Requests), .d (dsl tb_ false (k_api_Result tb_) b.f_Results)])]⟩) (fun (k : Nat) => (k ≤ a.f_Results.length) ∧ (a.f_Height = b.f_Height ∧ a.f_Prev = b.f_Prev ∧ a.f_Requests = b.f_Requests ∧ a.f_Results.length = b.f_Results.length) ∧ (∀ j, j < k → a.f_Results.getD j z_api_Result = b.f_Results.getD j z_api_Result)) (fun (k : Nat) => a.f_Results.length - k) (0) ⟨(Nat.zero_le _), ⟨by first | assumption | exact Classical.not_not.1 (by assumption), by first | assumption | exact Classical.not_not.1 (by assumption), by assumption, by omega⟩, (fun j hj => absurd hj (Nat.not_lt_zero _))⟩ (fun _ _ hG => Gs.into2 (s' := ⟨[.tv (.agg [.d (.val (.int .i64 a.f_Height)), .d (.val (strV a.f_Prev)), .d (dsl ta false (k_api_Envelope ta) a.f_Requests), .d (dsl ta false (k_api_Result ta) a.f_Results)]), .tv (.agg [.d (.val (.int .i64 b.f_Height)), .d (.val (strV b.f_Prev)), .d (dsl tb_ false (k_api_Envelope tb_) b.f_Requests), .d (dsl tb_ false (k_api_Result tb_) b.f_Results)]), pv 0 0, pv 1 0, dv (.bool false), dv (.int .i64 0), aa, aa, aa, aa, aa, aa, aa, aa, aa, aa, aa, aa, aa, aa, aa, aa, aa, aa, aa, aa, aa, aa, aa, aa, aa, aa, aa, aa, dv (.bool (decide (((a.f_Results.length : Nat) : Int) ≠ ((b.f_Results.length : Nat) : Int))))], [.live (.box 26 [.d (.val (.int .i64 a.f_Height)), .d (.val (strV a.f_Prev)), .d (dsl ta false (k_api_Envelope ta) a.f_Requests), .d (dsl ta false (k_api_Result ta) a.f_Results)]), .live (.box 26 [.d (.val (.int .i64 b.f_Height)), .d (.val (strV b.f_Prev)), .d (dsl tb_ false (k_api_Envelope tb_) b.f_Requests), .d (dsl tb_ false (k_api_Result tb_) b.f_Results)])]⟩) [0, 1] (bm 35 17179869247) (t1 := [.tv (.agg [.d (.val (.int .i64 a.f_Height)), .d (.val (strV a.f_Prev)), .d (dsl ta false (k_api_Envelope ta) a.f_Requests), .d (dsl ta false (k_api_Result ta) a.f_Results)]), .tv (.agg [.d (.val (.int .i64 b.f_Height)), .d (.val (strV b.f_Prev)), .d (dsl tb_ false (k_api_Envelope tb_) b.f_Requests), .d (dsl tb_ false (k_api_Result tb_) b.f_Results)]), pv 0 0, pv 1 0, dv (.bool false), dv (.int .i64 0), aa, aa, aa, aa, aa, aa, aa, aa, aa, aa, aa, aa, aa, aa, aa, aa, aa, aa, aa, aa, aa, aa, aa, aa, aa, aa, aa, aa, dv (.bool (decide (((a.f_Results.length : Nat) : Int) ≠ ((b.f_Results.length : Nat) : Int))))]) (h1 := [.live (.box 26 [.d (.val (.int .i64 a.f_Height)), .d (.val (strV a.f_Prev)), .d (dsl ta false (k_api_Envelope ta) a.f_Requests), .d (dsl ta false (k_api_Result ta) a.f_Results)]), .live (.box 26 [.d (.val (.int .i64 b.f_Height)), .d (.val (strV b.f_Prev)), .d (dsl tb_ false (k_api_Envelope tb_) b.f_Requests), .d (dsl tb_ false (k_api_Result tb_) b.f_Results)])]) rfl rfl (by kernel_rfl) (by kernel_rfl) (by kernel_rfl) (by kernel_rfl) (by kernel_rfl) (by kernel_rfl) (by kernel_rfl) (by kernel_rfl) (by kernel_rfl) (by kernel_rfl) (by kernel_rfl) hG) ?_
          rintro k ⟨hk, hh, hb⟩
          show T _ _ ⟨[.tv (.agg [.d (.val (.int .i64 a.f_Height)), .d (.val (strV a.f_Prev)), .d (dsl ta false (k_api_Envelope ta) a.f_Requests), .d (dsl ta false (k_api_Result ta) a.f_Results)]), .tv (.agg [.d (.val (.int .i64 b.f_Height)), .d (.val (strV b.f_Prev)), .d (dsl tb_ false (k_api_Envelope tb_) b.f_Requests), .d (dsl tb_ false (k_api_Result tb_) b.f_Results)]), pv 0 0, pv 1 0, dv (.bool false), dv (.int .i64 ((k : Nat) : Int)), aa, aa, aa, aa, aa, aa, aa, aa, aa, aa, aa, aa, aa, aa, aa, aa, aa, aa, aa, aa, aa, aa, aa, aa, aa, aa, aa, aa, dv (.bool (decide (((a.f_Results.length : Nat) : Int) ≠ ((b.f_Results.length : Nat) : Int))))], [.live (.box 26 [.d (.val (.int .i64 a.f_Height)), .d (.val (strV a.f_Prev)), .d (dsl ta false (k_api_Envelope ta) a.f_Requests), .d (dsl ta false (k_api_Result ta) a.f_Results)]), .live (.box 26 [.d (.val (.int .i64 b.f_Height)), .d (.val (strV b.f_Prev)), .d (dsl tb_ false (k_api_Envelope tb_) b.f_Requests), .d (dsl tb_ false (k_api_Result tb_) b.f_Results)])]⟩ _ _
          replace hk : k ≤ a.f_Results.length := hk
          replace hh : a.f_Height = b.f_Height ∧ a.f_Prev = b.f_Prev ∧ a.f_Requests = b.f_Requests ∧ a.f_Results.length = b.f_Results.length := hh
          replace hb : ∀ j, j < k → a.f_Results.getD j z_api_Result = b.f_Results.getD j z_api_Result := hb
          have hh4 := hh.2.2.2
          refine T.seq ?_
          refine T.seq ?_
          refine xR [] (by kernel_rfl) (by kernel_rfl) ?_
          refine nT ?_
          by_cases hq5 : ((k : Nat) : Int) < ((a.f_Results.length : Nat) : Int)
          · refine T.condT (by kernel_rfl) (decide_eq_true hq5) ?_
            refine T.skip ?_
            refine nT ?_
            refine T.seq ?_
            refine T.block ?_
            refine T.seq ?_
            refine xD [[], [0], [], [0, 1, 2], [0, 1, 2, 3], [], [5], [], [5, 6, 7], [5, 6, 7, 8], [0, 1, 2, 3, 4, 5, 6, 7, 8, 9]] [hR 3 rfl rfl (q_index ta false (k_api_Result ta) a.f_Results k (k := .i64) (i := ((k : Nat) : Int)) Try.underlying24 iat_35 rfl rfl (by first | assumption | omega | (unfold maxLen; omega) | (simp [maxLen, -List.getD_eq_getElem?_getD] <;> omega) | decide) (lt_of rfl) trivial),
              hR 8 rfl rfl (q_index tb_ false (k_api_Result tb_) b.f_Results k (k := .i64) (i := ((k : Nat) : Int)) Try.underlying24 iat_35 rfl rfl (by first | assumption | omega | (unfold maxLen; omega) | (simp [maxLen, -List.getD_eq_getElem?_getD] <;> omega) | decide) (lt_of rfl) trivial),
              hR 10 rfl rfl (r_neSt (ax := .tv (.agg [.d (.val (.int .i64 (a.f_Results.getD k z_api_Result).f_Code)), .d (.val (.int .i64 (a.f_Results.getD k z_api_Result).f_Stage))])) (ay := .tv (.agg [.d (.val (.int .i64 (b.f_Results.getD k z_api_Result).f_Code)), .d (.val (.int .i64 (b.f_Results.getD k z_api_Result).f_Stage))])) (a := (a.f_Results.getD k z_api_Result)) (b := (b.f_Results.getD k z_api_Result)) seq_35 ⟨[.int .i64 (a.f_Results.getD k z_api_Result).f_Code, .int .i64 (a.f_Results.getD k z_api_Result).f_Stage], rfl, rfl⟩ ⟨[.int .i64 (b.f_Results.getD k z_api_Result).f_Code, .int .i64 (b.f_Results.getD k z_api_Result).f_Stage], rfl, rfl⟩ (lt_of rfl) trivial)] (by kernel_rfl) (by kernel_rfl) (by kernel_rfl) (by kernel_rfl) (by kernel_rfl) (by kernel_rfl) ?_
            refine nT ?_
            by_cases hq6 : (a.f_Results.getD k z_api_Result) ≠ (b.f_Results.getD k z_api_Result)
            · refine T.condT (by kernel_rfl) (decide_eq_true hq6) ?_
              refine T.seq ?_
              refine xR [] (by kernel_rfl) (by kernel_rfl) ?_
              refine nT ?_
              refine T.ret ?_
              refine rB ?_
              refine rT ?_
              refine rT ?_
              refine rB ?_
              refine rT ?_
              exact tE (.inl rfl) [.t 4 (.one (.d (.val (.bool false))))] ⟨⟨rfl, by kernel_rfl⟩, trivial⟩ [] (by have e1 : ((decide (a = b)) : Bool) = false := (by first | exact decide_eq_true ((api_Block_iff _ _).2 ⟨hh.1, hh.2.1, hh.2.2.1, rows_eq (z := z_api_Result) (k := k) hh4 (by omega) hb⟩) | (refine decide_eq_false fun e => ?_; subst e; simp_all; done)); have hE := congrArg (fun (q1 : Bool) => (dv (.bool q1) : AV)) e1; exact hE) rfl rfl rfl rfl rfl trivial
            · refine T.condF (by kernel_rfl) (decide_eq_false hq6) ?_
              refine T.skip ?_
              refine nB ?_
              refine nT ?_
              refine xR [hR 1 rfl rfl (r_bin (u1 := .int .i64 ((k : Nat) : Int)) (u2 := .int .i64 1) (v := .int .i64 ((k + 1 : Nat) : Int)) (b_add (by rw [IntKind.wrap_i64]; omega)) (lt_of rfl) ⟨rfl, trivial⟩)] (by kernel_rfl) (by kernel_rfl) ?_
              refine nL (k + 1) ⟨(show (k + 1) ≤ a.f_Results.length from (by omega)), (show a.f_Height = b.f_Height ∧ a.f_Prev = b.f_Prev ∧ a.f_Requests = b.f_Requests ∧ a.f_Results.length = b.f_Results.length from hh), (show ∀ j, j < (k + 1) → a.f_Results.getD j z_api_Result = b.f_Results.getD j z_api_Result from (all_succ hb (by first | assumption | exact Classical.not_not.1 (by assumption))))⟩ (show (a.f_Results.length - (k + 1) : Nat) < a.f_Results.length - k from (by omega)) (fun _ _ hG => Gs.into2 (s' := ⟨[.tv (.agg [.d (.val (.int .i64 a.f_Height)), .d (.val (strV a.f_Prev)), .d (dsl ta false (k_api_Envelope ta) a.f_Requests), .d (dsl ta false (k_api_Result ta) a.f_Results)]), .tv (.agg [.d (.val (.int .i64 b.f_Height)), .d (.val (strV b.f_Prev)), .d (dsl tb_ false (k_api_Envelope tb_) b.f_Requests), .d (dsl tb_ false (k_api_Result tb_) b.f_Results)]), pv 0 0, pv 1 0, dv (.bool false), dv (.int .i64 ((k + 1 : Nat) : Int)), aa, aa, aa, aa, aa, aa, aa, aa, aa, aa, aa, aa, aa, aa, aa, aa, aa, aa, aa, aa, aa, aa, aa, aa, aa, aa, aa, aa, dv (.bool (decide (((a.f_Results.length : Nat) : Int) ≠ ((b.f_Results.length : Nat) : Int))))], [.live (.box 26 [.d (.val (.int .i64 a.f_Height)), .d (.val (strV a.f_Prev)), .d (dsl ta false (k_api_Envelope ta) a.f_Requests), .d (dsl ta false (k_api_Result ta) a.f_Results)]), .live (.box 26 [.d (.val (.int .i64 b.f_Height)), .d (.val (strV b.f_Prev)), .d (dsl tb_ false (k_api_Envelope tb_) b.f_Requests), .d (dsl tb_ false (k_api_Result tb_) b.f_Results)])]⟩) [0, 1] (bm 35 17179869247) (t1 := [.tv (.agg [.d (.val (.int .i64 a.f_Height)), .d (.val (strV a.f_Prev)), .d (dsl ta false (k_api_Envelope ta) a.f_Requests), .d (dsl ta false (k_api_Result ta) a.f_Results)]), .tv (.agg [.d (.val (.int .i64 b.f_Height)), .d (.val (strV b.f_Prev)), .d (dsl tb_ false (k_api_Envelope tb_) b.f_Requests), .d (dsl tb_ false (k_api_Result tb_) b.f_Results)]), pv 0 0, pv 1 0, dv (.bool false), dv (.int .i64 ((k + 1 : Nat) : Int)), aa, aa, aa, aa, aa, aa, aa, aa, aa, aa, aa, aa, aa, aa, aa, aa, aa, aa, aa, aa, aa, aa, aa, aa, aa, aa, aa, aa, dv (.bool (decide (((a.f_Results.length : Nat) : Int) ≠ ((b.f_Results.length : Nat) : Int))))]) (h1 := [.live (.box 26 [.d (.val (.int .i64 a.f_Height)), .d (.val (strV a.f_Prev)), .d (dsl ta false (k_api_Envelope ta) a.f_Requests), .d (dsl ta false (k_api_Result ta) a.f_Results)]), .live (.box 26 [.d (.val (.int .i64 b.f_Height)), .d (.val (strV b.f_Prev)), .d (dsl tb_ false (k_api_Envelope tb_) b.f_Requests), .d (dsl tb_ false (k_api_Result tb_) b.f_Results)])]) rfl rfl (by kernel_rfl) (by kernel_rfl) (by kernel_rfl) (by kernel_rfl) (by kernel_rfl) (by kernel_rfl) (by kernel_rfl) (by kernel_rfl) (by kernel_rfl) (by kernel_rfl) (by kernel_rfl) hG)
          · refine T.condF (by kernel_rfl) (decide_eq_false hq5) ?_
            refine T.exit ?_
            refine xT ?_
            refine xT ?_
            refine xH ?_
            refine nT ?_
            refine T.seq ?_
            refine xR [] (by kernel_rfl) (by kernel_rfl) ?_
            refine nT ?_
            refine T.ret ?_
            exact tE (.inl rfl) [.t 4 (.one (.d (.val (.bool true))))] ⟨⟨rfl, by kernel_rfl⟩, trivial⟩ [] (by have e1 : ((decide (a = b)) : Bool) = true := (by first | exact decide_eq_true ((api_Block_iff _ _).2 ⟨hh.1, hh.2.1, hh.2.2.1, rows_eq (z := z_api_Result) (k := k) hh4 (by omega) hb⟩) | (refine decide_eq_false fun e => ?_; subst e; simp_all; done)); have hE := congrArg (fun (q1 : Bool) => (dv (.bool q1) : AV)) e1; exact hE) rfl rfl rfl rfl rfl trivial
      · refine xR [hY 6 (decide_eq_false hq1),
          hY 7 (decide_eq_false hq1),
          hY 8 (decide_eq_false hq1),
          hY 9 (decide_eq_false hq1),
          hY 10 (decide_eq_false hq1),
          hP 11 (decide_eq_false hq1),
          hY 13 (decide_eq_false hq2),
          hY 14 (decide_eq_false hq2),
          hY 15 (decide_eq_false hq2),
          hY 16 (decide_eq_false hq2),
          hS 17 (oY rfl rfl rfl rfl (lt_of rfl) (decide_eq_false hq2) (r_call (ref03_All ta false ta tb_ false tb_ a.f_Requests b.f_Requests (by first | assumption | omega | (unfold maxLen; omega) | (simp [maxLen, -List.getD_eq_getElem?_getD] <;> omega) | decide)) Try.func42 rfl (by decide) [] [] (l := [(.tmp 20, slV ta false (k_api_Envelope ta) a.f_Requests), (.tmp 22, slV tb_ false (k_api_Envelope tb_) b.f_Requests)]) [] rfl 0 0 rfl rfl rfl rfl rfl rfl rfl rfl rfl ⟨.inl ⟨rfl, rfl⟩, ⟨.inl ⟨rfl, rfl⟩, trivial⟩⟩ rfl (fun b hb => by cases hb) (.inl rfl) (lt_of rfl) trivial)),
          hY 18 (decide_eq_false hq2),
          hP 19 (decide_eq_false hq2),
          hN 21 false (congrArg Bool.not (decide_eq_false hq3)),
          hN 22 false (congrArg Bool.not (decide_eq_false hq3)),
          hN 23 false (congrArg Bool.not (decide_eq_false hq3)),
          hN 24 false (congrArg Bool.not (decide_eq_false hq3)),
          hN 25 false (congrArg Bool.not (decide_eq_false hq3)),
          hN 26 false (congrArg Bool.not (decide_eq_false hq3)),
          hN 27 false (congrArg Bool.not (decide_eq_false hq3)),
          hP 28 (congrArg Bool.not (decide_eq_false hq3))] (by kernel_rfl) (by kernel_rfl) ?_
        refine nT ?_
        refine T.condT (b := true) (by kernel_rfl) rfl ?_
        refine T.seq ?_
        refine xR [] (by kernel_rfl) (by kernel_rfl) ?_
        refine nT ?_
        refine T.ret ?_
        refine rT ?_
        exact tE (.inl rfl) [.t 4 (.one (.d (.val (.bool false))))] ⟨⟨rfl, by kernel_rfl⟩, trivial⟩ [] (by have e1 : ((decide (a = b)) : Bool) = false := (by first | exact decide_eq_true ((api_Block_iff _ _).2 ⟨hh.1, hh.2.1, hh.2.2.1, rows_eq (z := z_api_Result) (k := k) hh4 (by omega) hb⟩) | (refine decide_eq_false fun e => ?_; subst e; simp_all; done)); have hE := congrArg (fun (q1 : Bool) => (dv (.bool q1) : AV)) e1; exact hE) rfl rfl rfl rfl rfl trivial

theorem fld_49_1 : FieldAt Try.prog 49 1 1 := ⟨_, _, _, Try.underlying49, rfl, iat_32, by decide, rfl⟩
theorem iat_42 : Try.prog.info? 42 = some Try.t42 := by kernel_rfl
theorem fld_49_3 : FieldAt Try.prog 49 3 5 := ⟨_, _, _, Try.underlying49, rfl, iat_42, by decide, rfl⟩
theorem wide_42 : Wide Try.prog 42 none := ⟨_, Try.underlying42, (fun _ h => by cases h), (fun _ _ h => by cases h)⟩
-- quaestor/quaestorlaw10.small
theorem law_small (tc : Bool) (c : quaestorlaw10_Claim) (hl : c.f_Path.length ≤ 9223372036854775807) : Holds Try.prog 23 ⟨[.tv (.agg [.d (.val (.int .i64 c.f_I)), .d (.val (.int .i64 c.f_E.f_Signer)), .d (dsl tc false kU8 c.f_E.f_Body), .d (.val (.int .i64 c.f_Result.f_Code)), .d (.val (.int .i64 c.f_Result.f_Stage)), .d (dsl tc false (k_api_Step tc) c.f_Path)])], [], dv (.bool (decide (smallC c))), []⟩ := by
  refine Holds.of Try.func23 rfl (N := 30) Try.ntmps23 rfl fun w0 B0 S0 U0 => ?_
  show T _ (mkBase 30 0 w0 S0 U0 B0) ⟨[.tv (.agg [.d (.val (.int .i64 c.f_I)), .d (.val (.int .i64 c.f_E.f_Signer)), .d (dsl tc false kU8 c.f_E.f_Body), .d (.val (.int .i64 c.f_Result.f_Code)), .d (.val (.int .i64 c.f_Result.f_Stage)), .d (dsl tc false (k_api_Step tc) c.f_Path)])], []⟩ _ _
  refine T.seq ?_
  refine xR [] (by kernel_rfl) (by kernel_rfl) ?_
  refine nT ?_
  refine T.seq ?_
  refine T.seq ?_
  by_cases hq1 : ((c.f_E.f_Body.length : Nat) : Int) > 500
  · refine xR [hN 6 false (decide_eq_true hq1),
      hN 7 false (decide_eq_true hq1),
      hN 8 false (decide_eq_true hq1),
      hN 9 false (decide_eq_true hq1),
      hP 10 (decide_eq_true hq1)] (by kernel_rfl) (by kernel_rfl) ?_
    refine nT ?_
    refine T.condT (b := true) (by kernel_rfl) rfl ?_
    refine T.seq ?_
    refine xR [] (by kernel_rfl) (by kernel_rfl) ?_
    refine nT ?_
    refine T.ret ?_
    refine rT ?_
    exact tE (.inl rfl) [.t 2 (.one (.d (.val (.bool false))))] ⟨⟨rfl, by kernel_rfl⟩, trivial⟩ [] (by have e1 : ((decide (smallC c)) : Bool) = false := (by first | exact decide_eq_false (fun h9 => by have h8 := h9.1; omega) | exact decide_eq_false (fun h9 => by have h8 := h9.2.1; omega) | exact decide_eq_false (fun h9 => fewG_no2 (z := z_api_Step) (k := k) (by omega) (by assumption) rfl h9.2) | exact decide_eq_true ⟨by omega, fewG_yes (z := z_api_Step) (k := k) (by assumption) rfl (by omega) hb⟩); have hE := congrArg (fun (q1 : Bool) => (dv (.bool q1) : AV)) e1; exact hE) rfl rfl rfl rfl rfl trivial
  · refine xR [hY 6 (decide_eq_false hq1),
      hY 7 (decide_eq_false hq1),
      hY 8 (decide_eq_false hq1),
      hY 9 (decide_eq_false hq1),
      hP 10 (decide_eq_false hq1)] (by kernel_rfl) (by kernel_rfl) ?_
    refine nT ?_
    by_cases hq2 : ((c.f_Path.length : Nat) : Int) > 70
    · refine T.condT (by kernel_rfl) (decide_eq_true hq2) ?_
      refine T.seq ?_
      refine xR [] (by kernel_rfl) (by kernel_rfl) ?_
      refine nT ?_
      refine T.ret ?_
      refine rT ?_
      exact tE (.inl rfl) [.t 2 (.one (.d (.val (.bool false))))] ⟨⟨rfl, by kernel_rfl⟩, trivial⟩ [] (by have e1 : ((decide (smallC c)) : Bool) = false := (by first | exact decide_eq_false (fun h9 => by have h8 := h9.1; omega) | exact decide_eq_false (fun h9 => by have h8 := h9.2.1; omega) | exact decide_eq_false (fun h9 => fewG_no2 (z := z_api_Step) (k := k) (by omega) (by assumption) rfl h9.2) | exact decide_eq_true ⟨by omega, fewG_yes (z := z_api_Step) (k := k) (by assumption) rfl (by omega) hb⟩); have hE := congrArg (fun (q1 : Bool) => (dv (.bool q1) : AV)) e1; exact hE) rfl rfl rfl rfl rfl trivial
    · refine T.condF (by kernel_rfl) (decide_eq_false hq2) ?_
      refine T.skip ?_
      refine nT ?_
      refine T.seq ?_
      refine T.seq ?_
      refine xR [] (by kernel_rfl) (by kernel_rfl) ?_
      refine nT ?_
      refine T.block ?_
      refine T.loop (ι := Nat) (fun (k : Nat) => ⟨[.tv (.agg [.d (.val (.int .i64 c.f_I)), .d (.val (.int .i64 c.f_E.f_Signer)), .d (dsl tc false kU8 c.f_E.f_Body), .d (.val (.int .i64 c.f_Result.f_Code)), .d (.val (.int .i64 c.f_Result.f_Stage)), .d (dsl tc false (k_api_Step tc) c.f_Path)]), pv 0 0, dv (.bool false), dv (.int .i64 ((k : Nat) : Int)), aa, aa, aa, aa, aa, aa, aa, aa, aa, aa, dv (.bool (decide (((c.f_Path.length : Nat) : Int) > 70)))], [.live (.box 49 [.d (.val (.int .i64 c.f_I)), .d (.val (.int .i64 c.f_E.f_Signer)), .d (dsl tc false kU8 c.f_E.f_Body), .d (.val (.int .i64 c.f_Result.f_Code)), .d (.val (.int .i64 c.f_Result.f_Stage)), .d (dsl tc false (k_api_Step tc) c.f_Path)])]⟩) (fun (k : Nat) => (k ≤ c.f_Path.length) ∧ (∀ j, j < k → szS (c.f_Path.getD j z_api_Step) ≤ 5000)) (fun (k : Nat) => c.f_Path.length - k) (0) ⟨(Nat.zero_le _), (fun j hj => absurd hj (Nat.not_lt_zero _))⟩ (fun _ _ hG => Gs.into2 (s' := ⟨[.tv (.agg [.d (.val (.int .i64 c.f_I)), .d (.val (.int .i64 c.f_E.f_Signer)), .d (dsl tc false kU8 c.f_E.f_Body), .d (.val (.int .i64 c.f_Result.f_Code)), .d (.val (.int .i64 c.f_Result.f_Stage)), .d (dsl tc false (k_api_Step tc) c.f_Path)]), pv 0 0, dv (.bool false), dv (.int .i64 0), aa, aa, aa, aa, aa, aa, aa, aa, aa, aa, dv (.bool (decide (((c.f_Path.length : Nat) : Int) > 70)))], [.live (.box 49 [.d (.val (.int .i64 c.f_I)), .d (.val (.int .i64 c.f_E.f_Signer)), .d (dsl tc false kU8 c.f_E.f_Body), .d (.val (.int .i64 c.f_Result.f_Code)), .d (.val (.int .i64 c.f_Result.f_Stage)), .d (dsl tc false (k_api_Step tc) c.f_Path)])]⟩) [0] (bm 15 16399) (t1 := [.tv (.agg [.d (.val (.int .i64 c.f_I)), .d (.val (.int .i64 c.f_E.f_Signer)), .d (dsl tc false kU8 c.f_E.f_Body), .d (.val (.int .i64 c.f_Result.f_Code)), .d (.val (.int .i64 c.f_Result.f_Stage)), .d (dsl tc false (k_api_Step tc) c.f_Path)]), pv 0 0, dv (.bool false), dv (.int .i64 0), aa, aa, aa, aa, aa, aa, aa, aa, aa, aa, dv (.bool (decide (((c.f_Path.length : Nat) : Int) > 70)))]) (h1 := [.live (.box 49 [.d (.val (.int .i64 c.f_I)), .d (.val (.int .i64 c.f_E.f_Signer)), .d (dsl tc false kU8 c.f_E.f_Body), .d (.val (.int .i64 c.f_Result.f_Code)), .d (.val (.int .i64 c.f_Result.f_Stage)), .d (dsl tc false (k_api_Step tc) c.f_Path)])]) rfl rfl (by kernel_rfl) (by kernel_rfl) (by kernel_rfl) (by kernel_rfl) (by kernel_rfl) (by kernel_rfl) (by kernel_rfl) (by kernel_rfl) (by kernel_rfl) (by kernel_rfl) (by kernel_rfl) hG) ?_
      rintro k ⟨hk, hb⟩
      show T _ _ ⟨[.tv (.agg [.d (.val (.int .i64 c.f_I)), .d (.val (.int .i64 c.f_E.f_Signer)), .d (dsl tc false kU8 c.f_E.f_Body), .d (.val (.int .i64 c.f_Result.f_Code)), .d (.val (.int .i64 c.f_Result.f_Stage)), .d (dsl tc false (k_api_Step tc) c.f_Path)]), pv 0 0, dv (.bool false), dv (.int .i64 ((k : Nat) : Int)), aa, aa, aa, aa, aa, aa, aa, aa, aa, aa, dv (.bool (decide (((c.f_Path.length : Nat) : Int) > 70)))], [.live (.box 49 [.d (.val (.int .i64 c.f_I)), .d (.val (.int .i64 c.f_E.f_Signer)), .d (dsl tc false kU8 c.f_E.f_Body), .d (.val (.int .i64 c.f_Result.f_Code)), .d (.val (.int .i64 c.f_Result.f_Stage)), .d (dsl tc false (k_api_Step tc) c.f_Path)])]⟩ _ _
      replace hk : k ≤ c.f_Path.length := hk
      replace hb : ∀ j, j < k → szS (c.f_Path.getD j z_api_Step) ≤ 5000 := hb
      refine T.seq ?_
      refine T.seq ?_
      refine xR [] (by kernel_rfl) (by kernel_rfl) ?_
      refine nT ?_
      by_cases hq3 : ((k : Nat) : Int) < ((c.f_Path.length : Nat) : Int)
      · refine T.condT (by kernel_rfl) (decide_eq_true hq3) ?_
        refine T.skip ?_
        refine nT ?_
        refine T.seq ?_
        refine T.block ?_
        refine T.seq ?_
        refine xR [hR 3 rfl rfl (q_index tc false (k_api_Step tc) c.f_Path k (k := .i64) (i := ((k : Nat) : Int)) Try.underlying42 iat_67 rfl rfl (by first | assumption | omega | (unfold maxLen; omega) | (simp [maxLen, -List.getD_eq_getElem?_getD] <;> omega) | decide) (lt_of rfl) trivial)] (by kernel_rfl) (by kernel_rfl) ?_
        refine nT ?_
        by_cases hq4 : (((c.f_Path.getD k z_api_Step).f_Digest.length : Nat) : Int) > 5000
        · refine T.condT (by kernel_rfl) (decide_eq_true hq4) ?_
          refine T.seq ?_
          refine xR [] (by kernel_rfl) (by kernel_rfl) ?_
          refine nT ?_
          refine T.ret ?_
          refine rB ?_
          refine rT ?_
          refine rT ?_
          refine rB ?_
          refine rT ?_
          exact tE (.inl rfl) [.t 2 (.one (.d (.val (.bool false))))] ⟨⟨rfl, by kernel_rfl⟩, trivial⟩ [] (by have e1 : ((decide (smallC c)) : Bool) = false := (by first | exact decide_eq_false (fun h9 => by have h8 := h9.1; omega) | exact decide_eq_false (fun h9 => by have h8 := h9.2.1; omega) | exact decide_eq_false (fun h9 => fewG_no2 (z := z_api_Step) (k := k) (by omega) (by assumption) rfl h9.2) | exact decide_eq_true ⟨by omega, fewG_yes (z := z_api_Step) (k := k) (by assumption) rfl (by omega) hb⟩); have hE := congrArg (fun (q1 : Bool) => (dv (.bool q1) : AV)) e1; exact hE) rfl rfl rfl rfl rfl trivial
        · refine T.condF (by kernel_rfl) (decide_eq_false hq4) ?_
          refine T.skip ?_
          refine nB ?_
          refine nT ?_
          refine xR [hR 1 rfl rfl (r_bin (u1 := .int .i64 ((k : Nat) : Int)) (u2 := .int .i64 1) (v := .int .i64 ((k + 1 : Nat) : Int)) (b_add (by rw [IntKind.wrap_i64]; omega)) (lt_of rfl) ⟨rfl, trivial⟩)] (by kernel_rfl) (by kernel_rfl) ?_
          refine nL (k + 1) ⟨(show (k + 1) ≤ c.f_Path.length from (by omega)), (show ∀ j, j < (k + 1) → szS (c.f_Path.getD j z_api_Step) ≤ 5000 from (all_succ hb (by have h9 : ((((c.f_Path.getD k z_api_Step).f_Digest.length : Nat) : Int)) ≤ 5000 := (by omega); exact Int.ofNat_le.1 h9)))⟩ (show (c.f_Path.length - (k + 1) : Nat) < c.f_Path.length - k from (by omega)) (fun _ _ hG => Gs.into2 (s' := ⟨[.tv (.agg [.d (.val (.int .i64 c.f_I)), .d (.val (.int .i64 c.f_E.f_Signer)), .d (dsl tc false kU8 c.f_E.f_Body), .d (.val (.int .i64 c.f_Result.f_Code)), .d (.val (.int .i64 c.f_Result.f_Stage)), .d (dsl tc false (k_api_Step tc) c.f_Path)]), pv 0 0, dv (.bool false), dv (.int .i64 ((k + 1 : Nat) : Int)), aa, aa, aa, aa, aa, aa, aa, aa, aa, aa, dv (.bool (decide (((c.f_Path.length : Nat) : Int) > 70)))], [.live (.box 49 [.d (.val (.int .i64 c.f_I)), .d (.val (.int .i64 c.f_E.f_Signer)), .d (dsl tc false kU8 c.f_E.f_Body), .d (.val (.int .i64 c.f_Result.f_Code)), .d (.val (.int .i64 c.f_Result.f_Stage)), .d (dsl tc false (k_api_Step tc) c.f_Path)])]⟩) [0] (bm 15 16399) (t1 := [.tv (.agg [.d (.val (.int .i64 c.f_I)), .d (.val (.int .i64 c.f_E.f_Signer)), .d (dsl tc false kU8 c.f_E.f_Body), .d (.val (.int .i64 c.f_Result.f_Code)), .d (.val (.int .i64 c.f_Result.f_Stage)), .d (dsl tc false (k_api_Step tc) c.f_Path)]), pv 0 0, dv (.bool false), dv (.int .i64 ((k + 1 : Nat) : Int)), aa, aa, aa, aa, aa, aa, aa, aa, aa, aa, dv (.bool (decide (((c.f_Path.length : Nat) : Int) > 70)))]) (h1 := [.live (.box 49 [.d (.val (.int .i64 c.f_I)), .d (.val (.int .i64 c.f_E.f_Signer)), .d (dsl tc false kU8 c.f_E.f_Body), .d (.val (.int .i64 c.f_Result.f_Code)), .d (.val (.int .i64 c.f_Result.f_Stage)), .d (dsl tc false (k_api_Step tc) c.f_Path)])]) rfl rfl (by kernel_rfl) (by kernel_rfl) (by kernel_rfl) (by kernel_rfl) (by kernel_rfl) (by kernel_rfl) (by kernel_rfl) (by kernel_rfl) (by kernel_rfl) (by kernel_rfl) (by kernel_rfl) hG)
      · refine T.condF (by kernel_rfl) (decide_eq_false hq3) ?_
        refine T.exit ?_
        refine xT ?_
        refine xT ?_
        refine xH ?_
        refine nT ?_
        refine T.seq ?_
        refine xR [] (by kernel_rfl) (by kernel_rfl) ?_
        refine nT ?_
        refine T.ret ?_
        exact tE (.inl rfl) [.t 2 (.one (.d (.val (.bool true))))] ⟨⟨rfl, by kernel_rfl⟩, trivial⟩ [] (by have e1 : ((decide (smallC c)) : Bool) = true := (by first | exact decide_eq_false (fun h9 => by have h8 := h9.1; omega) | exact decide_eq_false (fun h9 => by have h8 := h9.2.1; omega) | exact decide_eq_false (fun h9 => fewG_no2 (z := z_api_Step) (k := k) (by omega) (by assumption) rfl h9.2) | exact decide_eq_true ⟨by omega, fewG_yes (z := z_api_Step) (k := k) (by assumption) rfl (by omega) hb⟩); have hE := congrArg (fun (q1 : Bool) => (dv (.bool q1) : AV)) e1; exact hE) rfl rfl rfl rfl rfl trivial
end Go.Proofs.Ytacikihlgpnjhaa.Q
