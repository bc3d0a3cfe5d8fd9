import Derived.Test.YtdgjpmhpjhdkmaaC02n6
namespace Go.Proofs.Ytdgjpmhpjhdkmaa.Q
open Go Go.RowKit
set_option linter.unusedVariables false
set_option linter.unusedSimpArgs false
set_option maxRecDepth 100000
set_option maxHeartbeats 4000000
-- quaestor/quaestorref02.Parts
theorem ref02_Parts (ta : Bool) (na : Bool) (sa : Bool) (tb : Bool) (nb : Bool) (sb : Bool) (a : List (List UInt8)) (b : List (List UInt8)) (hl : a.length ≤ 9223372036854775807) : Holds Try.prog 13 ⟨[slV ta na (kSl sa kU8) a, slV tb nb (kSl sb kU8) b], [], dv (.bool (decide (a = b))), []⟩ := by
  refine Holds.of Try.func13 rfl (N := 27) Try.ntmps13 rfl fun w0 B0 S0 U0 => ?_
  show T _ (mkBase 27 0 w0 S0 U0 B0) ⟨[slV ta na (kSl sa kU8) a, slV tb nb (kSl sb kU8) b], []⟩ _ _
  refine T.seq ?_
  refine tR (s1 := ⟨[slV ta na (kSl sa kU8) a, slV tb nb (kSl sb kU8) b, AV.any, AV.any, dv (.bool false)], []⟩) [true, true, false, false, true] []
    (oC (oS rfl rfl (r_assign (av := dv (.bool false)) (lt_of rfl) ⟨rfl, trivial⟩)) (oZ rfl))
    (by kernel_rfl) (by kernel_rfl) ?_
  refine nT ?_
  refine T.seq ?_
  refine T.seq ?_
  refine tR (s1 := ⟨[slV ta na (kSl sa kU8) a, slV tb nb (kSl sb kU8) b, AV.any, AV.any, dv (.bool false), AV.any, AV.any, AV.any, AV.any, AV.any, dv (.bool (decide (((a.length : Nat) : Int) ≠ ((b.length : Nat) : Int))))], []⟩) [true, true, false, false, true, false, false, false, false, false, true] []
    (oC (oS rfl rfl (r_move (av := slV ta na (kSl sa kU8) a) (lt_of rfl) trivial))
    (oC (oS rfl rfl (q_len ta na (kSl sa kU8) a Try.underlying22 (lt_of rfl) trivial))
    (oC (oS rfl rfl (r_move (av := slV tb nb (kSl sb kU8) b) (lt_of rfl) trivial))
    (oC (oS rfl rfl (q_len tb nb (kSl sb kU8) b Try.underlying22 (lt_of rfl) trivial))
    (oC (oS rfl rfl (r_bin (u1 := .int .i64 ((a.length : Nat) : Int)) (u2 := .int .i64 ((b.length : Nat) : Int)) (v := .bool (decide (((a.length : Nat) : Int) ≠ ((b.length : Nat) : Int)))) b_neq (lt_of rfl) trivial)) (oZ rfl))))))
    (by kernel_rfl) (by kernel_rfl) ?_
  refine nT ?_
  by_cases hq1 : ((a.length : Nat) : Int) ≠ ((b.length : Nat) : Int)
  · refine T.condT (b := (decide (((a.length : Nat) : Int) ≠ ((b.length : Nat) : Int)))) rfl (decide_eq_true hq1) ?_
    refine T.seq ?_
    refine tR (s1 := ⟨[slV ta na (kSl sa kU8) a, slV tb nb (kSl sb kU8) b, AV.any, AV.any, dv (.bool false), AV.any, AV.any, AV.any, AV.any, AV.any, dv (.bool (decide (((a.length : Nat) : Int) ≠ ((b.length : Nat) : Int))))], []⟩) [true, true, false, false, true, false, false, false, false, false, true] []
      (oC (oS rfl rfl (r_assign (av := dv (.bool false)) (lt_of rfl) ⟨rfl, trivial⟩)) (oZ rfl))
      (by kernel_rfl) (by kernel_rfl) ?_
    refine nT ?_
    refine T.ret ?_
    refine rT ?_
    exact tE (.inl rfl) [.t 4 (.one (.d (.val (.bool false))))] ⟨⟨rfl, rfl⟩, trivial⟩ [] (by have e1 : ((decide (a = b)) : Bool) = false := (by first | exact decide_eq_false (fun h => hq1 (congrArg (fun (l : List (List UInt8)) => ((l.length : Nat) : Int)) h)) | exact decide_eq_false (fun h => hq3 (congrArg (fun (l : List (List UInt8)) => l.getD k []) h)) | exact decide_eq_true (rows_eq (z := []) (k := k) (by omega) (by omega) hb)); have hE := congrArg (fun (q1 : Bool) => (dv (.bool q1) : AV)) e1; exact hE) rfl rfl rfl rfl rfl trivial
  · refine T.condF (b := (decide (((a.length : Nat) : Int) ≠ ((b.length : Nat) : Int)))) rfl (decide_eq_false hq1) ?_
    refine T.skip ?_
    refine nT ?_
    refine T.seq ?_
    refine T.seq ?_
    refine tR (s1 := ⟨[slV ta na (kSl sa kU8) a, slV tb nb (kSl sb kU8) b, AV.any, AV.any, dv (.bool false), dv (.int .i64 0), AV.any, AV.any, AV.any, AV.any, dv (.bool (decide (((a.length : Nat) : Int) ≠ ((b.length : Nat) : Int))))], []⟩) [true, true, false, false, true, true, false, false, false, false, true] []
      (oC (oS rfl rfl (r_assign (av := dv (.int .i64 0)) (lt_of rfl) ⟨rfl, trivial⟩)) (oZ rfl))
      (by kernel_rfl) (by kernel_rfl) ?_
    refine nT ?_
    refine T.block ?_
    refine T.loop (ι := Nat) (fun (k : Nat) => ⟨[slV ta na (kSl sa kU8) a, slV tb nb (kSl sb kU8) b, AV.any, AV.any, dv (.bool false), dv (.int .i64 ((k : Nat) : Int)), AV.any, AV.any, AV.any, AV.any, dv (.bool (decide (((a.length : Nat) : Int) ≠ ((b.length : Nat) : Int))))], []⟩) (fun (k : Nat) => (k ≤ a.length) ∧ (∀ j, j < k → a.getD j [] = b.getD j [])) (fun (k : Nat) => a.length - k) (0) ⟨(Nat.zero_le _), (fun j hj => absurd hj (Nat.not_lt_zero _))⟩ (fun _ _ hG => Gs.into2 (s := ⟨[slV ta na (kSl sa kU8) a, slV tb nb (kSl sb kU8) b, AV.any, AV.any, dv (.bool false), dv (.int .i64 0), AV.any, AV.any, AV.any, AV.any, dv (.bool (decide (((a.length : Nat) : Int) ≠ ((b.length : Nat) : Int))))], []⟩) (s' := ⟨[slV ta na (kSl sa kU8) a, slV tb nb (kSl sb kU8) b, AV.any, AV.any, dv (.bool false), dv (.int .i64 0), AV.any, AV.any, AV.any, AV.any, dv (.bool (decide (((a.length : Nat) : Int) ≠ ((b.length : Nat) : Int))))], []⟩) [] [true, true, false, false, true, true, false, false, false, false, true] (t1 := [slV ta na (kSl sa kU8) a, slV tb nb (kSl sb kU8) b, AV.any, AV.any, dv (.bool false), dv (.int .i64 0), AV.any, AV.any, AV.any, AV.any, dv (.bool (decide (((a.length : Nat) : Int) ≠ ((b.length : Nat) : Int))))]) (t2 := [slV ta na (kSl sa kU8) a, slV tb nb (kSl sb kU8) b, AV.any, AV.any, dv (.bool false), dv (.int .i64 0), AV.any, AV.any, AV.any, AV.any, dv (.bool (decide (((a.length : Nat) : Int) ≠ ((b.length : Nat) : Int))))]) (h1 := []) (h2 := []) rfl rfl (by kernel_rfl) (by kernel_rfl) (by kernel_rfl) (by kernel_rfl) (by kernel_rfl) (by kernel_rfl) (by kernel_rfl) (by kernel_rfl) (by kernel_rfl) (by kernel_rfl) (by kernel_rfl) hG) ?_
    rintro k ⟨hk, hb⟩
    show T _ _ ⟨[slV ta na (kSl sa kU8) a, slV tb nb (kSl sb kU8) b, AV.any, AV.any, dv (.bool false), dv (.int .i64 ((k : Nat) : Int)), AV.any, AV.any, AV.any, AV.any, dv (.bool (decide (((a.length : Nat) : Int) ≠ ((b.length : Nat) : Int))))], []⟩ _ _
    replace hk : k ≤ a.length := hk
    replace hb : ∀ j, j < k → a.getD j [] = b.getD j [] := hb
    refine T.seq ?_
    refine T.seq ?_
    refine tR (s1 := ⟨[slV ta na (kSl sa kU8) a, slV tb nb (kSl sb kU8) b, AV.any, AV.any, dv (.bool false), dv (.int .i64 ((k : Nat) : Int)), AV.any, AV.any, AV.any, AV.any, dv (.bool (decide (((a.length : Nat) : Int) ≠ ((b.length : Nat) : Int)))), AV.any, AV.any, AV.any, dv (.bool (decide (((k : Nat) : Int) < ((a.length : Nat) : Int))))], []⟩) [true, true, false, false, true, true, false, false, false, false, true, false, false, false, true] []
      (oC (oS rfl rfl (r_move (av := dv (.int .i64 ((k : Nat) : Int))) (lt_of rfl) trivial))
      (oC (oS rfl rfl (r_move (av := slV ta na (kSl sa kU8) a) (lt_of rfl) trivial))
      (oC (oS rfl rfl (q_len ta na (kSl sa kU8) a Try.underlying22 (lt_of rfl) trivial))
      (oC (oS rfl rfl (r_bin (u1 := .int .i64 ((k : Nat) : Int)) (u2 := .int .i64 ((a.length : Nat) : Int)) (v := .bool (decide (((k : Nat) : Int) < ((a.length : Nat) : Int)))) b_lss (lt_of rfl) trivial)) (oZ rfl)))))
      (by kernel_rfl) (by kernel_rfl) ?_
    refine nT ?_
    by_cases hq2 : ((k : Nat) : Int) < ((a.length : Nat) : Int)
    · refine T.condT (b := (decide (((k : Nat) : Int) < ((a.length : Nat) : Int)))) rfl (decide_eq_true hq2) ?_
      refine T.skip ?_
      refine nT ?_
      refine T.seq ?_
      refine T.block ?_
      refine T.seq ?_
      refine tD (s1 := ⟨[slV ta na (kSl sa kU8) a, slV tb nb (kSl sb kU8) b, AV.any, AV.any, dv (.bool false), dv (.int .i64 ((k : Nat) : Int)), AV.any, AV.any, AV.any, AV.any, dv (.bool (decide (((a.length : Nat) : Int) ≠ ((b.length : Nat) : Int)))), AV.any, AV.any, AV.any, dv (.bool (decide (((k : Nat) : Int) < ((a.length : Nat) : Int)))), AV.any, AV.any, AV.any, AV.any, AV.any, AV.any, AV.any, AV.any, AV.any, AV.any, AV.any, dv (.bool (!(decide ((a.getD k []) = (b.getD k [])))))], []⟩) (by kernel_rfl) [[], [], [0, 1], [0, 1, 2], [], [], [4, 5], [4, 5, 6], [0, 1, 2, 3, 4, 5, 6, 7], [0, 1, 2, 3, 4, 5, 6, 7, 8]] [true, true, false, false, true, true, false, false, false, false, true, false, false, false, true, false, false, false, false, false, false, false, false, false, false, false, true] []
        (oC (oS rfl rfl (r_move (av := slV ta na (kSl sa kU8) a) (lt_of rfl) trivial))
        (oC (oS rfl rfl (r_move (av := dv (.int .i64 ((k : Nat) : Int))) (lt_of rfl) trivial))
        (oC (oS rfl rfl (q_index ta na (kSl sa kU8) a k (k := .i64) (i := ((k : Nat) : Int)) Try.underlying22 iat_37 rfl rfl (by first | assumption | omega | (simp only [maxLen, kU8_sz, kSl_sz, k_arr_2_uint8_sz, k_arr_2_api_Digest_sz]; omega) | (simp only [maxLen, kU8_sz, kSl_sz, k_arr_2_uint8_sz, k_arr_2_api_Digest_sz, List.length_append, List.length_cons, List.length_nil, List.length_take, List.length_drop, List.length_set]; omega) | decide) (lt_of rfl) trivial))
        (oC (oS rfl rfl (r_loadE (tag := ta) (n := 1) (el := (kSl sa kU8).cell (a.getD k (kSl sa kU8).z)) (e0 := dsl sa false kU8 (a.getD k [])) wide_37 (by decide) rfl (lt_of rfl) trivial))
        (oC (oS rfl rfl (r_move (av := slV tb nb (kSl sb kU8) b) (lt_of rfl) trivial))
        (oC (oS rfl rfl (r_move (av := dv (.int .i64 ((k : Nat) : Int))) (lt_of rfl) trivial))
        (oC (oS rfl rfl (q_index tb nb (kSl sb kU8) b k (k := .i64) (i := ((k : Nat) : Int)) Try.underlying22 iat_37 rfl rfl (by first | assumption | omega | (simp only [maxLen, kU8_sz, kSl_sz, k_arr_2_uint8_sz, k_arr_2_api_Digest_sz]; omega) | (simp only [maxLen, kU8_sz, kSl_sz, k_arr_2_uint8_sz, k_arr_2_api_Digest_sz, List.length_append, List.length_cons, List.length_nil, List.length_take, List.length_drop, List.length_set]; omega) | decide) (lt_of rfl) trivial))
        (oC (oS rfl rfl (r_loadE (tag := tb) (n := 1) (el := (kSl sb kU8).cell (b.getD k (kSl sb kU8).z)) (e0 := dsl sb false kU8 (b.getD k [])) wide_37 (by decide) rfl (lt_of rfl) trivial))
        (oC (oS rfl rfl (r_call (ref01_Same sa false sb false (a.getD k []) (b.getD k []) ) Try.func21 rfl (by decide) [] [] (l := [(.tmp 20, slV sa false kU8 (a.getD k [])), (.tmp 24, slV sb false kU8 (b.getD k []))]) [] rfl 0 0 rfl rfl rfl rfl rfl rfl rfl rfl rfl ⟨.inl ⟨rfl, rfl⟩, ⟨.inl ⟨rfl, rfl⟩, trivial⟩⟩ rfl (fun b hb => by cases hb) (.inl rfl) (lt_of rfl) trivial))
        (oC (oS rfl rfl (r_un (u := .bool (decide ((a.getD k []) = (b.getD k [])))) (v := .bool (!(decide ((a.getD k []) = (b.getD k []))))) u_not (lt_of rfl) trivial)) (oZ rfl)))))))))))
        (by kernel_rfl) (by kernel_rfl) (by kernel_rfl) (by kernel_rfl) (by kernel_rfl) ?_
      refine nT ?_
      by_cases hq3 : (a.getD k []) = (b.getD k [])
      · refine T.condF (b := (!(decide ((a.getD k []) = (b.getD k []))))) rfl (congrArg Bool.not (decide_eq_true hq3)) ?_
        refine T.skip ?_
        refine nB ?_
        refine nT ?_
        refine tR (s1 := ⟨[slV ta na (kSl sa kU8) a, slV tb nb (kSl sb kU8) b, AV.any, AV.any, dv (.bool false), dv (.int .i64 ((k + 1 : Nat) : Int)), AV.any, AV.any, AV.any, AV.any, dv (.bool (decide (((a.length : Nat) : Int) ≠ ((b.length : Nat) : Int)))), AV.any, AV.any, AV.any, dv (.bool (decide (((k : Nat) : Int) < ((a.length : Nat) : Int)))), AV.any, AV.any, AV.any, AV.any, AV.any, AV.any, AV.any, AV.any, AV.any, AV.any, AV.any, dv (.bool (!(decide ((a.getD k []) = (b.getD k [])))))], []⟩) [true, true, false, false, true, true, false, false, false, false, true, false, false, false, true, false, false, false, false, false, false, false, false, false, false, false, true] []
          (oC (oS rfl rfl (r_move (av := dv (.int .i64 ((k : Nat) : Int))) (lt_of rfl) trivial))
          (oC (oS rfl rfl (r_bin (u1 := .int .i64 ((k : Nat) : Int)) (u2 := .int .i64 1) (v := .int .i64 ((k + 1 : Nat) : Int)) (b_add (by rw [IntKind.wrap_i64]; omega)) (lt_of rfl) ⟨rfl, trivial⟩))
          (oC (oS rfl rfl (r_assign (av := dv (.int .i64 ((k + 1 : Nat) : Int))) (lt_of rfl) trivial)) (oZ rfl))))
          (by kernel_rfl) (by kernel_rfl) ?_
        refine nL (k + 1) ⟨(show (k + 1) ≤ a.length from (by omega)), (show ∀ j, j < (k + 1) → a.getD j [] = b.getD j [] from (all_succ hb (by assumption)))⟩ (show (a.length - (k + 1) : Nat) < a.length - k from (by omega)) (fun _ _ hG => Gs.into2 (s := ⟨[slV ta na (kSl sa kU8) a, slV tb nb (kSl sb kU8) b, AV.any, AV.any, dv (.bool false), dv (.int .i64 ((k + 1 : Nat) : Int)), AV.any, AV.any, AV.any, AV.any, dv (.bool (decide (((a.length : Nat) : Int) ≠ ((b.length : Nat) : Int)))), AV.any, AV.any, AV.any, dv (.bool (decide (((k : Nat) : Int) < ((a.length : Nat) : Int)))), AV.any, AV.any, AV.any, AV.any, AV.any, AV.any, AV.any, AV.any, AV.any, AV.any, AV.any, dv (.bool (!(decide ((a.getD k []) = (b.getD k [])))))], []⟩) (s' := ⟨[slV ta na (kSl sa kU8) a, slV tb nb (kSl sb kU8) b, AV.any, AV.any, dv (.bool false), dv (.int .i64 ((k + 1 : Nat) : Int)), AV.any, AV.any, AV.any, AV.any, dv (.bool (decide (((a.length : Nat) : Int) ≠ ((b.length : Nat) : Int))))], []⟩) [] [true, true, false, false, true, true, false, false, false, false, true] (t1 := [slV ta na (kSl sa kU8) a, slV tb nb (kSl sb kU8) b, AV.any, AV.any, dv (.bool false), dv (.int .i64 ((k + 1 : Nat) : Int)), AV.any, AV.any, AV.any, AV.any, dv (.bool (decide (((a.length : Nat) : Int) ≠ ((b.length : Nat) : Int))))]) (t2 := [slV ta na (kSl sa kU8) a, slV tb nb (kSl sb kU8) b, AV.any, AV.any, dv (.bool false), dv (.int .i64 ((k + 1 : Nat) : Int)), AV.any, AV.any, AV.any, AV.any, dv (.bool (decide (((a.length : Nat) : Int) ≠ ((b.length : Nat) : Int))))]) (h1 := []) (h2 := []) rfl rfl (by kernel_rfl) (by kernel_rfl) (by kernel_rfl) (by kernel_rfl) (by kernel_rfl) (by kernel_rfl) (by kernel_rfl) (by kernel_rfl) (by kernel_rfl) (by kernel_rfl) (by kernel_rfl) hG)
      · refine T.condT (b := (!(decide ((a.getD k []) = (b.getD k []))))) rfl (congrArg Bool.not (decide_eq_false hq3)) ?_
        refine T.seq ?_
        refine tR (s1 := ⟨[slV ta na (kSl sa kU8) a, slV tb nb (kSl sb kU8) b, AV.any, AV.any, dv (.bool false), dv (.int .i64 ((k : Nat) : Int)), AV.any, AV.any, AV.any, AV.any, dv (.bool (decide (((a.length : Nat) : Int) ≠ ((b.length : Nat) : Int)))), AV.any, AV.any, AV.any, dv (.bool (decide (((k : Nat) : Int) < ((a.length : Nat) : Int)))), AV.any, AV.any, AV.any, AV.any, AV.any, AV.any, AV.any, AV.any, AV.any, AV.any, AV.any, dv (.bool (!(decide ((a.getD k []) = (b.getD k [])))))], []⟩) [true, true, false, false, true, true, false, false, false, false, true, false, false, false, true, false, false, false, false, false, false, false, false, false, false, false, true] []
          (oC (oS rfl rfl (r_assign (av := dv (.bool false)) (lt_of rfl) ⟨rfl, trivial⟩)) (oZ rfl))
          (by kernel_rfl) (by kernel_rfl) ?_
        refine nT ?_
        refine T.ret ?_
        refine rB ?_
        refine rT ?_
        refine rT ?_
        refine rB ?_
        refine rT ?_
        exact tE (.inl rfl) [.t 4 (.one (.d (.val (.bool false))))] ⟨⟨rfl, rfl⟩, trivial⟩ [] (by have e1 : ((decide (a = b)) : Bool) = false := (by first | exact decide_eq_false (fun h => hq1 (congrArg (fun (l : List (List UInt8)) => ((l.length : Nat) : Int)) h)) | exact decide_eq_false (fun h => hq3 (congrArg (fun (l : List (List UInt8)) => l.getD k []) h)) | exact decide_eq_true (rows_eq (z := []) (k := k) (by omega) (by omega) hb)); have hE := congrArg (fun (q1 : Bool) => (dv (.bool q1) : AV)) e1; exact hE) rfl rfl rfl rfl rfl trivial
    · refine T.condF (b := (decide (((k : Nat) : Int) < ((a.length : Nat) : Int)))) rfl (decide_eq_false hq2) ?_
      refine T.exit ?_
      refine xT ?_
      refine xT ?_
      refine xH ?_
      refine nT ?_
      refine T.seq ?_
      refine tR (s1 := ⟨[slV ta na (kSl sa kU8) a, slV tb nb (kSl sb kU8) b, AV.any, AV.any, dv (.bool true), dv (.int .i64 ((k : Nat) : Int)), AV.any, AV.any, AV.any, AV.any, dv (.bool (decide (((a.length : Nat) : Int) ≠ ((b.length : Nat) : Int)))), AV.any, AV.any, AV.any, dv (.bool (decide (((k : Nat) : Int) < ((a.length : Nat) : Int))))], []⟩) [true, true, false, false, true, true, false, false, false, false, true, false, false, false, true] []
        (oC (oS rfl rfl (r_assign (av := dv (.bool true)) (lt_of rfl) ⟨rfl, trivial⟩)) (oZ rfl))
        (by kernel_rfl) (by kernel_rfl) ?_
      refine nT ?_
      refine T.ret ?_
      exact tE (.inl rfl) [.t 4 (.one (.d (.val (.bool true))))] ⟨⟨rfl, rfl⟩, trivial⟩ [] (by have e1 : ((decide (a = b)) : Bool) = true := (by first | exact decide_eq_false (fun h => hq1 (congrArg (fun (l : List (List UInt8)) => ((l.length : Nat) : Int)) h)) | exact decide_eq_false (fun h => hq3 (congrArg (fun (l : List (List UInt8)) => l.getD k []) h)) | exact decide_eq_true (rows_eq (z := []) (k := k) (by omega) (by omega) hb)); have hE := congrArg (fun (q1 : Bool) => (dv (.bool q1) : AV)) e1; exact hE) rfl rfl rfl rfl rfl trivial

theorem fld_54_0 : FieldAt Try.prog 54 0 0 := ⟨_, _, _, Try.underlying54, rfl, iat_37, by decide, rfl⟩
theorem iat_3 : Try.prog.info? 3 = some Try.t3 := by kernel_rfl
theorem fld_54_1 : FieldAt Try.prog 54 1 1 := ⟨_, _, _, Try.underlying54, rfl, iat_3, by decide, rfl⟩
theorem wide_3 : Wide Try.prog 3 none := ⟨_, Try.underlying3, (fun _ h => by cases h), (fun _ _ h => by cases h)⟩
-- (*quaestor/quaestorref01.Reader).number
theorem ref01_number (B : List UInt8) (a : Nat) (e : Int) (m : Nat) (ha : a ≤ B.length) (hB : B.length ≤ 140737488350000) (hm : m ≤ 8) : Holds Try.prog 41 ⟨[pv 0 0, dv (.int .i64 ((m : Nat) : Int))], [.box 54 [.d (dsl false false kU8 B), .d (.val (.int .i64 ((a : Nat) : Int))), .d (.val (.int .i64 e))]], .tup [.one (.d (.val (.int .u64 ((rfN B a m : Nat) : Int)))), .one (.d (.val (.bool (decide (a + m ≤ B.length)))))], [.live (.box 54 [.d (dsl false false kU8 B), .d (.val (.int .i64 ((a : Nat) : Int))), .d (.val (.int .i64 e))])]⟩ := by
  refine Holds.of Try.func41 rfl (N := 42) Try.ntmps41 rfl fun w0 B0 S0 U0 => ?_
  show T _ (mkBase 42 1 w0 S0 U0 B0) ⟨[pv 0 0, dv (.int .i64 ((m : Nat) : Int))], [.live (.box 54 [.d (dsl false false kU8 B), .d (.val (.int .i64 ((a : Nat) : Int))), .d (.val (.int .i64 e))])]⟩ _ _
  refine T.seq ?_
  refine tR (s1 := ⟨[pv 0 0, dv (.int .i64 ((m : Nat) : Int)), AV.any, AV.any, dv (.int .u64 0), dv (.bool false)], [.live (.box 54 [.d (dsl false false kU8 B), .d (.val (.int .i64 ((a : Nat) : Int))), .d (.val (.int .i64 e))])]⟩) [true, true, false, false, true, true] [true]
    (oC (oS rfl rfl (r_assign (av := dv (.int .u64 0)) (lt_of rfl) ⟨rfl, trivial⟩))
    (oC (oS rfl rfl (r_assign (av := dv (.bool false)) (lt_of rfl) ⟨rfl, trivial⟩)) (oZ rfl)))
    (by kernel_rfl) (by kernel_rfl) ?_
  refine nT ?_
  refine T.seq ?_
  refine T.seq ?_
  refine tD (s1 := ⟨[pv 0 0, dv (.int .i64 ((m : Nat) : Int)), AV.any, AV.any, dv (.int .u64 0), dv (.bool false), AV.any, AV.any, AV.any, AV.any, AV.any, AV.any, AV.any, AV.any, AV.any, AV.any, AV.any, AV.any, AV.any, dv (.bool (decide (((m : Nat) : Int) > (((B.length : Nat) : Int) - ((a : Nat) : Int)))))], [.live (.box 54 [.d (dsl false false kU8 B), .d (.val (.int .i64 ((a : Nat) : Int))), .d (.val (.int .i64 e))])]⟩) (by kernel_rfl) [[], [], [1], [1, 2], [1, 2, 3], [1, 2, 3, 4], [], [6], [6, 7], [6, 7, 8], [1, 2, 3, 4, 5, 6, 7, 8, 9], [0, 1, 2, 3, 4, 5, 6, 7, 8, 9, 10]] [true, true, false, false, true, true, false, false, false, false, false, false, false, false, false, false, false, false, false, true] [true]
    (oC (oS rfl rfl (r_move (av := dv (.int .i64 ((m : Nat) : Int))) (lt_of rfl) trivial))
    (oC (oS rfl rfl (r_move (av := pv 0 0) (lt_of rfl) trivial))
    (oC (oS rfl rfl (r_nilCheck (av := pv 0 0) rfl (lt_of rfl) trivial))
    (oC (oS rfl rfl (r_fieldAddr (l := 0) (off := 0) fld_54_0 (lt_of rfl) trivial))
    (oC (oS rfl rfl (r_loadB (l := 0) (off := 0) (T := 54) (cs := [.d (dsl false false kU8 B), .d (.val (.int .i64 ((a : Nat) : Int))), .d (.val (.int .i64 e))]) (c := .d (dsl false false kU8 B)) wide_37 rfl (lt_of rfl) trivial))
    (oC (oS rfl rfl (q_len false false kU8 B Try.underlying37 (lt_of rfl) trivial))
    (oC (oS rfl rfl (r_move (av := pv 0 0) (lt_of rfl) trivial))
    (oC (oS rfl rfl (r_nilCheck (av := pv 0 0) rfl (lt_of rfl) trivial))
    (oC (oS rfl rfl (r_fieldAddr (l := 0) (off := 0) fld_54_1 (lt_of rfl) trivial))
    (oC (oS rfl rfl (r_loadB (l := 0) (off := 1) (T := 54) (cs := [.d (dsl false false kU8 B), .d (.val (.int .i64 ((a : Nat) : Int))), .d (.val (.int .i64 e))]) (c := .d (.val (.int .i64 ((a : Nat) : Int)))) wide_3 rfl (lt_of rfl) trivial))
    (oC (oS rfl rfl (r_bin (u1 := .int .i64 ((B.length : Nat) : Int)) (u2 := .int .i64 ((a : Nat) : Int)) (v := .int .i64 (((B.length : Nat) : Int) - ((a : Nat) : Int))) (b_sub (by rw [IntKind.wrap_i64]; omega)) (lt_of rfl) trivial))
    (oC (oS rfl rfl (r_bin (u1 := .int .i64 ((m : Nat) : Int)) (u2 := .int .i64 (((B.length : Nat) : Int) - ((a : Nat) : Int))) (v := .bool (decide (((m : Nat) : Int) > (((B.length : Nat) : Int) - ((a : Nat) : Int))))) b_gtr (lt_of rfl) trivial)) (oZ rfl)))))))))))))
    (by kernel_rfl) (by kernel_rfl) (by kernel_rfl) (by kernel_rfl) (by kernel_rfl) ?_
  refine nT ?_
  by_cases hq1 : ((m : Nat) : Int) > (((B.length : Nat) : Int) - ((a : Nat) : Int))
  · refine T.condT (b := (decide (((m : Nat) : Int) > (((B.length : Nat) : Int) - ((a : Nat) : Int))))) rfl (decide_eq_true hq1) ?_
    refine T.seq ?_
    refine tR (s1 := ⟨[pv 0 0, dv (.int .i64 ((m : Nat) : Int)), AV.any, AV.any, dv (.int .u64 0), dv (.bool false), AV.any, AV.any, AV.any, AV.any, AV.any, AV.any, AV.any, AV.any, AV.any, AV.any, AV.any, AV.any, AV.any, dv (.bool (decide (((m : Nat) : Int) > (((B.length : Nat) : Int) - ((a : Nat) : Int)))))], [.live (.box 54 [.d (dsl false false kU8 B), .d (.val (.int .i64 ((a : Nat) : Int))), .d (.val (.int .i64 e))])]⟩) [true, true, false, false, true, true, false, false, false, false, false, false, false, false, false, false, false, false, false, true] [true]
      (oC (oS rfl rfl (r_assign (av := dv (.int .u64 0)) (lt_of rfl) ⟨rfl, trivial⟩))
      (oC (oS rfl rfl (r_assign (av := dv (.bool false)) (lt_of rfl) ⟨rfl, trivial⟩)) (oZ rfl)))
      (by kernel_rfl) (by kernel_rfl) ?_
    refine nT ?_
    refine T.ret ?_
    refine rT ?_
    exact tE (.inl rfl) [.t 4 (.one (.d (.val (.int .u64 0)))), .t 5 (.one (.d (.val (.bool false))))] ⟨⟨rfl, rfl⟩, ⟨⟨rfl, rfl⟩, trivial⟩⟩ [0] (by have e1 : (((rfN B a m : Nat) : Int) : Int) = 0 := (by first | rfl | omega | (simp only [rfN]; rw [if_neg (by omega)]; done) | (simp only [rfN]; rw [if_neg (by omega)]; rfl) | (have hke : k = m := (by omega); subst hke; rw [rfN_ok (by omega)]) | exact (decide_eq_true (by omega)).symm | exact decide_eq_true (by omega) | exact decide_eq_false (by omega) | exact (decide_eq_false (by omega)).symm); have e2 : ((decide (a + m ≤ B.length)) : Bool) = false := (by first | rfl | omega | (simp only [rfN]; rw [if_neg (by omega)]; done) | (simp only [rfN]; rw [if_neg (by omega)]; rfl) | (have hke : k = m := (by omega); subst hke; rw [rfN_ok (by omega)]) | exact (decide_eq_true (by omega)).symm | exact decide_eq_true (by omega) | exact decide_eq_false (by omega) | exact (decide_eq_false (by omega)).symm); have hE := congr (congrArg (fun (q1 : Int) (q2 : Bool) => (.tup [.one (.d (.val (.int .u64 q1))), .one (.d (.val (.bool q2)))] : AV)) e1) e2; exact hE) rfl rfl rfl rfl rfl ⟨⟨rfl, rfl⟩, trivial⟩
  · refine T.condF (b := (decide (((m : Nat) : Int) > (((B.length : Nat) : Int) - ((a : Nat) : Int))))) rfl (decide_eq_false hq1) ?_
    refine T.skip ?_
    refine nT ?_
    refine T.seq ?_
    refine tR (s1 := ⟨[pv 0 0, dv (.int .i64 ((m : Nat) : Int)), AV.any, AV.any, dv (.int .u64 0), dv (.bool false), dv (.int .u64 0), AV.any, AV.any, AV.any, AV.any, AV.any, AV.any, AV.any, AV.any, AV.any, AV.any, AV.any, AV.any, dv (.bool (decide (((m : Nat) : Int) > (((B.length : Nat) : Int) - ((a : Nat) : Int)))))], [.live (.box 54 [.d (dsl false false kU8 B), .d (.val (.int .i64 ((a : Nat) : Int))), .d (.val (.int .i64 e))])]⟩) [true, true, false, false, true, true, true, false, false, false, false, false, false, false, false, false, false, false, false, true] [true]
      (oC (oS rfl rfl (r_assign (av := dv (.int .u64 0)) (lt_of rfl) ⟨rfl, trivial⟩)) (oZ rfl))
      (by kernel_rfl) (by kernel_rfl) ?_
    refine nT ?_
    refine T.seq ?_
    refine T.seq ?_
    refine tR (s1 := ⟨[pv 0 0, dv (.int .i64 ((m : Nat) : Int)), AV.any, AV.any, dv (.int .u64 0), dv (.bool false), dv (.int .u64 0), dv (.int .i64 0), AV.any, AV.any, AV.any, AV.any, AV.any, AV.any, AV.any, AV.any, AV.any, AV.any, AV.any, dv (.bool (decide (((m : Nat) : Int) > (((B.length : Nat) : Int) - ((a : Nat) : Int)))))], [.live (.box 54 [.d (dsl false false kU8 B), .d (.val (.int .i64 ((a : Nat) : Int))), .d (.val (.int .i64 e))])]⟩) [true, true, false, false, true, true, true, true, false, false, false, false, false, false, false, false, false, false, false, true] [true]
      (oC (oS rfl rfl (r_assign (av := dv (.int .i64 0)) (lt_of rfl) ⟨rfl, trivial⟩)) (oZ rfl))
      (by kernel_rfl) (by kernel_rfl) ?_
    refine nT ?_
    refine T.block ?_
    refine T.loop (ι := Nat) (fun (k : Nat) => ⟨[pv 0 0, dv (.int .i64 ((m : Nat) : Int)), AV.any, AV.any, dv (.int .u64 0), dv (.bool false), dv (.int .u64 ((numL ((B.drop a).take k) : Nat) : Int)), dv (.int .i64 ((k : Nat) : Int)), AV.any, AV.any, AV.any, AV.any, AV.any, AV.any, AV.any, AV.any, AV.any, AV.any, AV.any, dv (.bool (decide (((m : Nat) : Int) > (((B.length : Nat) : Int) - ((a : Nat) : Int)))))], [.live (.box 54 [.d (dsl false false kU8 B), .d (.val (.int .i64 ((a : Nat) : Int))), .d (.val (.int .i64 e))])]⟩) (fun (k : Nat) => (k ≤ m)) (fun (k : Nat) => m - k) (0) (Nat.zero_le _) (fun _ _ hG => Gs.into2 (s := ⟨[pv 0 0, dv (.int .i64 ((m : Nat) : Int)), AV.any, AV.any, dv (.int .u64 0), dv (.bool false), dv (.int .u64 0), dv (.int .i64 0), AV.any, AV.any, AV.any, AV.any, AV.any, AV.any, AV.any, AV.any, AV.any, AV.any, AV.any, dv (.bool (decide (((m : Nat) : Int) > (((B.length : Nat) : Int) - ((a : Nat) : Int)))))], [.live (.box 54 [.d (dsl false false kU8 B), .d (.val (.int .i64 ((a : Nat) : Int))), .d (.val (.int .i64 e))])]⟩) (s' := ⟨[pv 0 0, dv (.int .i64 ((m : Nat) : Int)), AV.any, AV.any, dv (.int .u64 0), dv (.bool false), dv (.int .u64 ((numL ((B.drop a).take 0) : Nat) : Int)), dv (.int .i64 0), AV.any, AV.any, AV.any, AV.any, AV.any, AV.any, AV.any, AV.any, AV.any, AV.any, AV.any, dv (.bool (decide (((m : Nat) : Int) > (((B.length : Nat) : Int) - ((a : Nat) : Int)))))], [.live (.box 54 [.d (dsl false false kU8 B), .d (.val (.int .i64 ((a : Nat) : Int))), .d (.val (.int .i64 e))])]⟩) [0] [true, true, false, false, true, true, true, true, false, false, false, false, false, false, false, false, false, false, false, true] (t1 := [pv 0 0, dv (.int .i64 ((m : Nat) : Int)), AV.any, AV.any, dv (.int .u64 0), dv (.bool false), dv (.int .u64 ((numL ((B.drop a).take 0) : Nat) : Int)), dv (.int .i64 0), AV.any, AV.any, AV.any, AV.any, AV.any, AV.any, AV.any, AV.any, AV.any, AV.any, AV.any, dv (.bool (decide (((m : Nat) : Int) > (((B.length : Nat) : Int) - ((a : Nat) : Int)))))]) (t2 := [pv 0 0, dv (.int .i64 ((m : Nat) : Int)), AV.any, AV.any, dv (.int .u64 0), dv (.bool false), dv (.int .u64 0), dv (.int .i64 0), AV.any, AV.any, AV.any, AV.any, AV.any, AV.any, AV.any, AV.any, AV.any, AV.any, AV.any, dv (.bool (decide (((m : Nat) : Int) > (((B.length : Nat) : Int) - ((a : Nat) : Int)))))]) (h1 := [.live (.box 54 [.d (dsl false false kU8 B), .d (.val (.int .i64 ((a : Nat) : Int))), .d (.val (.int .i64 e))])]) (h2 := [.live (.box 54 [.d (dsl false false kU8 B), .d (.val (.int .i64 ((a : Nat) : Int))), .d (.val (.int .i64 e))])]) (by have e1 : (((numL ((B.drop a).take 0) : Nat) : Int) : Int) = 0 := (by rfl); have hE := congrArg (fun (q1 : Int) => ([pv 0 0, dv (.int .i64 ((m : Nat) : Int)), AV.any, AV.any, dv (.int .u64 0), dv (.bool false), dv (.int .u64 q1), dv (.int .i64 0), AV.any, AV.any, AV.any, AV.any, AV.any, AV.any, AV.any, AV.any, AV.any, AV.any, AV.any, dv (.bool (decide (((m : Nat) : Int) > (((B.length : Nat) : Int) - ((a : Nat) : Int)))))] : List AV)) e1; exact hE) rfl (by kernel_rfl) (by kernel_rfl) (by kernel_rfl) (by kernel_rfl) (by kernel_rfl) (by kernel_rfl) (by kernel_rfl) (by kernel_rfl) (by kernel_rfl) (by kernel_rfl) (by kernel_rfl) hG) ?_
    rintro k hk
    show T _ _ ⟨[pv 0 0, dv (.int .i64 ((m : Nat) : Int)), AV.any, AV.any, dv (.int .u64 0), dv (.bool false), dv (.int .u64 ((numL ((B.drop a).take k) : Nat) : Int)), dv (.int .i64 ((k : Nat) : Int)), AV.any, AV.any, AV.any, AV.any, AV.any, AV.any, AV.any, AV.any, AV.any, AV.any, AV.any, dv (.bool (decide (((m : Nat) : Int) > (((B.length : Nat) : Int) - ((a : Nat) : Int)))))], [.live (.box 54 [.d (dsl false false kU8 B), .d (.val (.int .i64 ((a : Nat) : Int))), .d (.val (.int .i64 e))])]⟩ _ _
    replace hk : k ≤ m := hk
    have hk8 : numL ((B.drop a).take k) < 18446744073709551616 := numL_lt8 (Nat.le_trans (List.length_take_le _ _) (by omega))
    refine T.seq ?_
    refine T.seq ?_
    refine tR (s1 := ⟨[pv 0 0, dv (.int .i64 ((m : Nat) : Int)), AV.any, AV.any, dv (.int .u64 0), dv (.bool false), dv (.int .u64 ((numL ((B.drop a).take k) : Nat) : Int)), dv (.int .i64 ((k : Nat) : Int)), AV.any, AV.any, AV.any, AV.any, AV.any, AV.any, AV.any, AV.any, AV.any, AV.any, AV.any, dv (.bool (decide (((m : Nat) : Int) > (((B.length : Nat) : Int) - ((a : Nat) : Int))))), AV.any, AV.any, dv (.bool (decide (((k : Nat) : Int) < ((m : Nat) : Int))))], [.live (.box 54 [.d (dsl false false kU8 B), .d (.val (.int .i64 ((a : Nat) : Int))), .d (.val (.int .i64 e))])]⟩) [true, true, false, false, true, true, true, true, false, false, false, false, false, false, false, false, false, false, false, true, false, false, true] [true]
      (oC (oS rfl rfl (r_move (av := dv (.int .i64 ((k : Nat) : Int))) (lt_of rfl) trivial))
      (oC (oS rfl rfl (r_move (av := dv (.int .i64 ((m : Nat) : Int))) (lt_of rfl) trivial))
      (oC (oS rfl rfl (r_bin (u1 := .int .i64 ((k : Nat) : Int)) (u2 := .int .i64 ((m : Nat) : Int)) (v := .bool (decide (((k : Nat) : Int) < ((m : Nat) : Int)))) b_lss (lt_of rfl) trivial)) (oZ rfl))))
      (by kernel_rfl) (by kernel_rfl) ?_
    refine nT ?_
    by_cases hq2 : ((k : Nat) : Int) < ((m : Nat) : Int)
    · have hk7 : numL ((B.drop a).take k) < 72057594037927936 := numL_lt7 (Nat.le_trans (List.length_take_le _ _) (by omega)); have hbt := UInt8.toNat_lt (B.getD (a + k) 0)
      refine T.condT (b := (decide (((k : Nat) : Int) < ((m : Nat) : Int)))) rfl (decide_eq_true hq2) ?_
      refine T.skip ?_
      refine nT ?_
      refine T.seq ?_
      refine T.block ?_
      refine tD (s1 := ⟨[pv 0 0, dv (.int .i64 ((m : Nat) : Int)), AV.any, AV.any, dv (.int .u64 0), dv (.bool false), dv (.int .u64 ((((numL ((B.drop a).take k)) * 2 ^ 8) ||| (B.getD (a + k) 0).toNat : Nat) : Int)), dv (.int .i64 ((k : Nat) : Int)), AV.any, AV.any, AV.any, AV.any, AV.any, AV.any, AV.any, AV.any, AV.any, AV.any, AV.any, dv (.bool (decide (((m : Nat) : Int) > (((B.length : Nat) : Int) - ((a : Nat) : Int))))), AV.any, AV.any, dv (.bool (decide (((k : Nat) : Int) < ((m : Nat) : Int))))], [.live (.box 54 [.d (dsl false false kU8 B), .d (.val (.int .i64 ((a : Nat) : Int))), .d (.val (.int .i64 e))])]⟩) (by kernel_rfl) [[], [0], [], [2], [2, 3], [2, 3, 4], [], [6], [6, 7], [6, 7, 8], [], [6, 7, 8, 9, 10], [2, 3, 4, 5, 6, 7, 8, 9, 10, 11], [2, 3, 4, 5, 6, 7, 8, 9, 10, 11, 12], [2, 3, 4, 5, 6, 7, 8, 9, 10, 11, 12, 13], [0, 1, 2, 3, 4, 5, 6, 7, 8, 9, 10, 11, 12, 13, 14], [0, 1, 2, 3, 4, 5, 6, 7, 8, 9, 10, 11, 12, 13, 14, 15]] [true, true, false, false, true, true, true, true, false, false, false, false, false, false, false, false, false, false, false, true, false, false, true] [true]
        (oC (oS rfl rfl (r_move (av := dv (.int .u64 ((numL ((B.drop a).take k) : Nat) : Int))) (lt_of rfl) trivial))
        (oC (oS rfl rfl (r_bin (u1 := .int .u64 ((numL ((B.drop a).take k) : Nat) : Int)) (u2 := .int .u64 8) (v := .int .u64 (((numL ((B.drop a).take k)) * 2 ^ 8 : Nat) : Int)) (b_shlN (n := 8) rfl (Nat.le_trans (by first | assumption | omega | (simp only [maxLen, kU8_sz, kSl_sz, k_arr_2_uint8_sz, k_arr_2_api_Digest_sz]; omega) | (simp only [maxLen, kU8_sz, kSl_sz, k_arr_2_uint8_sz, k_arr_2_api_Digest_sz, List.length_append, List.length_cons, List.length_nil, List.length_take, List.length_drop, List.length_set]; omega) | decide) (by decide : 64 ≤ _)) (by first | rfl | (rw [IntKind.wrap_u64]; omega))) (lt_of rfl) ⟨rfl, trivial⟩))
        (oC (oS rfl rfl (r_move (av := pv 0 0) (lt_of rfl) trivial))
        (oC (oS rfl rfl (r_nilCheck (av := pv 0 0) rfl (lt_of rfl) trivial))
        (oC (oS rfl rfl (r_fieldAddr (l := 0) (off := 0) fld_54_0 (lt_of rfl) trivial))
        (oC (oS rfl rfl (r_loadB (l := 0) (off := 0) (T := 54) (cs := [.d (dsl false false kU8 B), .d (.val (.int .i64 ((a : Nat) : Int))), .d (.val (.int .i64 e))]) (c := .d (dsl false false kU8 B)) wide_37 rfl (lt_of rfl) trivial))
        (oC (oS rfl rfl (r_move (av := pv 0 0) (lt_of rfl) trivial))
        (oC (oS rfl rfl (r_nilCheck (av := pv 0 0) rfl (lt_of rfl) trivial))
        (oC (oS rfl rfl (r_fieldAddr (l := 0) (off := 0) fld_54_1 (lt_of rfl) trivial))
        (oC (oS rfl rfl (r_loadB (l := 0) (off := 1) (T := 54) (cs := [.d (dsl false false kU8 B), .d (.val (.int .i64 ((a : Nat) : Int))), .d (.val (.int .i64 e))]) (c := .d (.val (.int .i64 ((a : Nat) : Int)))) wide_3 rfl (lt_of rfl) trivial))
        (oC (oS rfl rfl (r_move (av := dv (.int .i64 ((k : Nat) : Int))) (lt_of rfl) trivial))
        (oC (oS rfl rfl (r_bin (u1 := .int .i64 ((a : Nat) : Int)) (u2 := .int .i64 ((k : Nat) : Int)) (v := .int .i64 ((a + k : Nat) : Int)) (b_add (by rw [IntKind.wrap_i64]; omega)) (lt_of rfl) trivial))
        (oC (oS rfl rfl (q_index false false kU8 B (a + k) (k := .i64) (i := ((a + k : Nat) : Int)) Try.underlying37 iat_5 rfl rfl (by first | assumption | omega | (simp only [maxLen, kU8_sz, kSl_sz, k_arr_2_uint8_sz, k_arr_2_api_Digest_sz]; omega) | (simp only [maxLen, kU8_sz, kSl_sz, k_arr_2_uint8_sz, k_arr_2_api_Digest_sz, List.length_append, List.length_cons, List.length_nil, List.length_take, List.length_drop, List.length_set]; omega) | decide) (lt_of rfl) trivial))
        (oC (oS rfl rfl (r_loadE (tag := false) (n := 1) (el := kU8.cell (B.getD (a + k) kU8.z)) (e0 := .val (.int .u8 (((B.getD (a + k) 0).toNat : Nat) : Int))) wide_5 (by decide) rfl (lt_of rfl) trivial))
        (oC (oS rfl rfl (r_conv (u := .int .u8 (((B.getD (a + k) 0).toNat : Nat) : Int)) (v := .int .u64 (((B.getD (a + k) 0).toNat : Nat) : Int)) (c_int Try.underlying5 Try.underlying56 (by first | rfl | (rw [IntKind.wrap_u64]; omega))) (lt_of rfl) trivial))
        (oC (oS rfl rfl (r_bin (u1 := .int .u64 (((numL ((B.drop a).take k)) * 2 ^ 8 : Nat) : Int)) (u2 := .int .u64 (((B.getD (a + k) 0).toNat : Nat) : Int)) (v := .int .u64 ((((numL ((B.drop a).take k)) * 2 ^ 8) ||| (B.getD (a + k) 0).toNat : Nat) : Int)) (b_orU (by first | assumption | omega | (simp only [maxLen, kU8_sz, kSl_sz, k_arr_2_uint8_sz, k_arr_2_api_Digest_sz]; omega) | (simp only [maxLen, kU8_sz, kSl_sz, k_arr_2_uint8_sz, k_arr_2_api_Digest_sz, List.length_append, List.length_cons, List.length_nil, List.length_take, List.length_drop, List.length_set]; omega) | decide) (by first | assumption | omega | (simp only [maxLen, kU8_sz, kSl_sz, k_arr_2_uint8_sz, k_arr_2_api_Digest_sz]; omega) | (simp only [maxLen, kU8_sz, kSl_sz, k_arr_2_uint8_sz, k_arr_2_api_Digest_sz, List.length_append, List.length_cons, List.length_nil, List.length_take, List.length_drop, List.length_set]; omega) | decide)) (lt_of rfl) trivial))
        (oC (oS rfl rfl (r_assign (av := dv (.int .u64 ((((numL ((B.drop a).take k)) * 2 ^ 8) ||| (B.getD (a + k) 0).toNat : Nat) : Int))) (lt_of rfl) trivial)) (oZ rfl))))))))))))))))))
        (by kernel_rfl) (by kernel_rfl) (by kernel_rfl) (by kernel_rfl) (by kernel_rfl) ?_
      refine nB ?_
      refine nT ?_
      refine tR (s1 := ⟨[pv 0 0, dv (.int .i64 ((m : Nat) : Int)), AV.any, AV.any, dv (.int .u64 0), dv (.bool false), dv (.int .u64 ((((numL ((B.drop a).take k)) * 2 ^ 8) ||| (B.getD (a + k) 0).toNat : Nat) : Int)), dv (.int .i64 ((k + 1 : Nat) : Int)), AV.any, AV.any, AV.any, AV.any, AV.any, AV.any, AV.any, AV.any, AV.any, AV.any, AV.any, dv (.bool (decide (((m : Nat) : Int) > (((B.length : Nat) : Int) - ((a : Nat) : Int))))), AV.any, AV.any, dv (.bool (decide (((k : Nat) : Int) < ((m : Nat) : Int))))], [.live (.box 54 [.d (dsl false false kU8 B), .d (.val (.int .i64 ((a : Nat) : Int))), .d (.val (.int .i64 e))])]⟩) [true, true, false, false, true, true, true, true, false, false, false, false, false, false, false, false, false, false, false, true, false, false, true] [true]
        (oC (oS rfl rfl (r_move (av := dv (.int .i64 ((k : Nat) : Int))) (lt_of rfl) trivial))
        (oC (oS rfl rfl (r_bin (u1 := .int .i64 ((k : Nat) : Int)) (u2 := .int .i64 1) (v := .int .i64 ((k + 1 : Nat) : Int)) (b_add (by rw [IntKind.wrap_i64]; omega)) (lt_of rfl) ⟨rfl, trivial⟩))
        (oC (oS rfl rfl (r_assign (av := dv (.int .i64 ((k + 1 : Nat) : Int))) (lt_of rfl) trivial)) (oZ rfl))))
        (by kernel_rfl) (by kernel_rfl) ?_
      refine nL (k + 1) (show (k + 1) ≤ m from (by omega)) (show (m - (k + 1) : Nat) < m - k from (by omega)) (fun _ _ hG => Gs.into2 (s := ⟨[pv 0 0, dv (.int .i64 ((m : Nat) : Int)), AV.any, AV.any, dv (.int .u64 0), dv (.bool false), dv (.int .u64 ((((numL ((B.drop a).take k)) * 2 ^ 8) ||| (B.getD (a + k) 0).toNat : Nat) : Int)), dv (.int .i64 ((k + 1 : Nat) : Int)), AV.any, AV.any, AV.any, AV.any, AV.any, AV.any, AV.any, AV.any, AV.any, AV.any, AV.any, dv (.bool (decide (((m : Nat) : Int) > (((B.length : Nat) : Int) - ((a : Nat) : Int))))), AV.any, AV.any, dv (.bool (decide (((k : Nat) : Int) < ((m : Nat) : Int))))], [.live (.box 54 [.d (dsl false false kU8 B), .d (.val (.int .i64 ((a : Nat) : Int))), .d (.val (.int .i64 e))])]⟩) (s' := ⟨[pv 0 0, dv (.int .i64 ((m : Nat) : Int)), AV.any, AV.any, dv (.int .u64 0), dv (.bool false), dv (.int .u64 ((numL ((B.drop a).take (k + 1)) : Nat) : Int)), dv (.int .i64 ((k + 1 : Nat) : Int)), AV.any, AV.any, AV.any, AV.any, AV.any, AV.any, AV.any, AV.any, AV.any, AV.any, AV.any, dv (.bool (decide (((m : Nat) : Int) > (((B.length : Nat) : Int) - ((a : Nat) : Int)))))], [.live (.box 54 [.d (dsl false false kU8 B), .d (.val (.int .i64 ((a : Nat) : Int))), .d (.val (.int .i64 e))])]⟩) [0] [true, true, false, false, true, true, true, true, false, false, false, false, false, false, false, false, false, false, false, true] (t1 := [pv 0 0, dv (.int .i64 ((m : Nat) : Int)), AV.any, AV.any, dv (.int .u64 0), dv (.bool false), dv (.int .u64 ((numL ((B.drop a).take (k + 1)) : Nat) : Int)), dv (.int .i64 ((k + 1 : Nat) : Int)), AV.any, AV.any, AV.any, AV.any, AV.any, AV.any, AV.any, AV.any, AV.any, AV.any, AV.any, dv (.bool (decide (((m : Nat) : Int) > (((B.length : Nat) : Int) - ((a : Nat) : Int)))))]) (t2 := [pv 0 0, dv (.int .i64 ((m : Nat) : Int)), AV.any, AV.any, dv (.int .u64 0), dv (.bool false), dv (.int .u64 ((((numL ((B.drop a).take k)) * 2 ^ 8) ||| (B.getD (a + k) 0).toNat : Nat) : Int)), dv (.int .i64 ((k + 1 : Nat) : Int)), AV.any, AV.any, AV.any, AV.any, AV.any, AV.any, AV.any, AV.any, AV.any, AV.any, AV.any, dv (.bool (decide (((m : Nat) : Int) > (((B.length : Nat) : Int) - ((a : Nat) : Int)))))]) (h1 := [.live (.box 54 [.d (dsl false false kU8 B), .d (.val (.int .i64 ((a : Nat) : Int))), .d (.val (.int .i64 e))])]) (h2 := [.live (.box 54 [.d (dsl false false kU8 B), .d (.val (.int .i64 ((a : Nat) : Int))), .d (.val (.int .i64 e))])]) (by have e1 : (((numL ((B.drop a).take (k + 1)) : Nat) : Int) : Int) = ((((numL ((B.drop a).take k)) * 2 ^ 8) ||| (B.getD (a + k) 0).toNat : Nat) : Int) := (by first | rfl | (rw [numL_dropk (by omega)])); have hE := congrArg (fun (q1 : Int) => ([pv 0 0, dv (.int .i64 ((m : Nat) : Int)), AV.any, AV.any, dv (.int .u64 0), dv (.bool false), dv (.int .u64 q1), dv (.int .i64 ((k + 1 : Nat) : Int)), AV.any, AV.any, AV.any, AV.any, AV.any, AV.any, AV.any, AV.any, AV.any, AV.any, AV.any, dv (.bool (decide (((m : Nat) : Int) > (((B.length : Nat) : Int) - ((a : Nat) : Int)))))] : List AV)) e1; exact hE) rfl (by kernel_rfl) (by kernel_rfl) (by kernel_rfl) (by kernel_rfl) (by kernel_rfl) (by kernel_rfl) (by kernel_rfl) (by kernel_rfl) (by kernel_rfl) (by kernel_rfl) (by kernel_rfl) hG)
    · refine T.condF (b := (decide (((k : Nat) : Int) < ((m : Nat) : Int)))) rfl (decide_eq_false hq2) ?_
      refine T.exit ?_
      refine xT ?_
      refine xT ?_
      refine xH ?_
      refine nT ?_
      refine T.seq ?_
      refine tR (s1 := ⟨[pv 0 0, dv (.int .i64 ((m : Nat) : Int)), AV.any, AV.any, dv (.int .u64 ((numL ((B.drop a).take k) : Nat) : Int)), dv (.bool true), dv (.int .u64 ((numL ((B.drop a).take k) : Nat) : Int)), dv (.int .i64 ((k : Nat) : Int)), AV.any, AV.any, AV.any, AV.any, AV.any, AV.any, AV.any, AV.any, AV.any, AV.any, AV.any, dv (.bool (decide (((m : Nat) : Int) > (((B.length : Nat) : Int) - ((a : Nat) : Int))))), AV.any, AV.any, dv (.bool (decide (((k : Nat) : Int) < ((m : Nat) : Int))))], [.live (.box 54 [.d (dsl false false kU8 B), .d (.val (.int .i64 ((a : Nat) : Int))), .d (.val (.int .i64 e))])]⟩) [true, true, false, false, true, true, true, true, false, false, false, false, false, false, false, false, false, false, false, true, false, false, true] [true]
        (oC (oS rfl rfl (r_move (av := dv (.int .u64 ((numL ((B.drop a).take k) : Nat) : Int))) (lt_of rfl) trivial))
        (oC (oS rfl rfl (r_assign (av := dv (.int .u64 ((numL ((B.drop a).take k) : Nat) : Int))) (lt_of rfl) trivial))
        (oC (oS rfl rfl (r_assign (av := dv (.bool true)) (lt_of rfl) ⟨rfl, trivial⟩)) (oZ rfl))))
        (by kernel_rfl) (by kernel_rfl) ?_
      refine nT ?_
      refine T.ret ?_
      exact tE (.inl rfl) [.t 4 (.one (.d (.val (.int .u64 ((numL ((B.drop a).take k) : Nat) : Int))))), .t 5 (.one (.d (.val (.bool true))))] ⟨⟨rfl, rfl⟩, ⟨⟨rfl, rfl⟩, trivial⟩⟩ [0] (by have e1 : (((rfN B a m : Nat) : Int) : Int) = ((numL ((B.drop a).take k) : Nat) : Int) := (by first | rfl | omega | (simp only [rfN]; rw [if_neg (by omega)]; done) | (simp only [rfN]; rw [if_neg (by omega)]; rfl) | (have hke : k = m := (by omega); subst hke; rw [rfN_ok (by omega)]) | exact (decide_eq_true (by omega)).symm | exact decide_eq_true (by omega) | exact decide_eq_false (by omega) | exact (decide_eq_false (by omega)).symm); have e2 : ((decide (a + m ≤ B.length)) : Bool) = true := (by first | rfl | omega | (simp only [rfN]; rw [if_neg (by omega)]; done) | (simp only [rfN]; rw [if_neg (by omega)]; rfl) | (have hke : k = m := (by omega); subst hke; rw [rfN_ok (by omega)]) | exact (decide_eq_true (by omega)).symm | exact decide_eq_true (by omega) | exact decide_eq_false (by omega) | exact (decide_eq_false (by omega)).symm); have hE := congr (congrArg (fun (q1 : Int) (q2 : Bool) => (.tup [.one (.d (.val (.int .u64 q1))), .one (.d (.val (.bool q2)))] : AV)) e1) e2; exact hE) rfl rfl rfl rfl rfl ⟨⟨rfl, rfl⟩, trivial⟩

theorem fld_54_2 : FieldAt Try.prog 54 2 2 := ⟨_, _, _, Try.underlying54, rfl, iat_50, by decide, rfl⟩
theorem cells_3 : Cells Try.prog 3 1 := ⟨_, iat_3, rfl⟩
-- (*quaestor/quaestorref01.Reader).Count
theorem ref01_rCount (B : List UInt8) (a : Nat) (e : Int) (most : Int) (ha : a ≤ B.length) (hB : B.length ≤ 140737488350000) : Holds Try.prog 31 ⟨[pv 0 0, dv (.int .i64 most)], [.box 54 [.d (dsl false false kU8 B), .d (.val (.int .i64 ((a : Nat) : Int))), .d (.val (.int .i64 e))]], dv (.int .i64 ((rdC (B.drop a) e most : Nat) : Int)), [.live (.box 54 [.d (dsl false false kU8 B), .d (.val (.int .i64 ((rfA B a e 4 (limE most ((B.drop a).take 4)) : Nat) : Int))), .d (.val (.int .i64 (rdE (B.drop a) e 4 (limE most ((B.drop a).take 4)))))])]⟩ := by
  refine Holds.of Try.func31 rfl (N := 39) Try.ntmps31 rfl fun w0 B0 S0 U0 => ?_
  show T _ (mkBase 39 1 w0 S0 U0 B0) ⟨[pv 0 0, dv (.int .i64 most)], [.live (.box 54 [.d (dsl false false kU8 B), .d (.val (.int .i64 ((a : Nat) : Int))), .d (.val (.int .i64 e))])]⟩ _ _
  have hn4 := rfN_lt4 B a
  refine T.seq ?_
  refine tR (s1 := ⟨[pv 0 0, dv (.int .i64 most), AV.any, AV.any, dv (.int .i64 0)], [.live (.box 54 [.d (dsl false false kU8 B), .d (.val (.int .i64 ((a : Nat) : Int))), .d (.val (.int .i64 e))])]⟩) [true, true, false, false, true] [true]
    (oC (oS rfl rfl (r_assign (av := dv (.int .i64 0)) (lt_of rfl) ⟨rfl, trivial⟩)) (oZ rfl))
    (by kernel_rfl) (by kernel_rfl) ?_
  refine nT ?_
  refine T.seq ?_
  refine T.seq ?_
  refine tR (s1 := ⟨[pv 0 0, dv (.int .i64 most), AV.any, AV.any, dv (.int .i64 0), AV.any, AV.any, AV.any, AV.any, AV.any, AV.any, dv (.bool (decide (e ≠ 0)))], [.live (.box 54 [.d (dsl false false kU8 B), .d (.val (.int .i64 ((a : Nat) : Int))), .d (.val (.int .i64 e))])]⟩) [true, true, false, false, true, false, false, false, false, false, false, true] [true]
    (oC (oS rfl rfl (r_move (av := pv 0 0) (lt_of rfl) trivial))
    (oC (oS rfl rfl (r_nilCheck (av := pv 0 0) rfl (lt_of rfl) trivial))
    (oC (oS rfl rfl (r_fieldAddr (l := 0) (off := 0) fld_54_2 (lt_of rfl) trivial))
    (oC (oS rfl rfl (r_loadB (l := 0) (off := 2) (T := 54) (cs := [.d (dsl false false kU8 B), .d (.val (.int .i64 ((a : Nat) : Int))), .d (.val (.int .i64 e))]) (c := .d (.val (.int .i64 e))) wide_50 rfl (lt_of rfl) trivial))
    (oC (oS rfl rfl (r_bin (u1 := .int .i64 e) (u2 := .int .i64 0) (v := .bool (decide (e ≠ 0))) b_neq (lt_of rfl) ⟨rfl, trivial⟩)) (oZ rfl))))))
    (by kernel_rfl) (by kernel_rfl) ?_
  refine nT ?_
  by_cases hq1 : e ≠ 0
  · have hr := rf_e (B := B) (a := a) hq1 4 (limE most ((B.drop a).take 4))
    refine T.condT (b := (decide (e ≠ 0))) rfl (decide_eq_true hq1) ?_
    refine T.seq ?_
    refine tR (s1 := ⟨[pv 0 0, dv (.int .i64 most), AV.any, AV.any, dv (.int .i64 0), AV.any, AV.any, AV.any, AV.any, AV.any, AV.any, dv (.bool (decide (e ≠ 0)))], [.live (.box 54 [.d (dsl false false kU8 B), .d (.val (.int .i64 ((a : Nat) : Int))), .d (.val (.int .i64 e))])]⟩) [true, true, false, false, true, false, false, false, false, false, false, true] [true]
      (oC (oS rfl rfl (r_assign (av := dv (.int .i64 0)) (lt_of rfl) ⟨rfl, trivial⟩)) (oZ rfl))
      (by kernel_rfl) (by kernel_rfl) ?_
    refine nT ?_
    refine T.ret ?_
    refine rT ?_
    exact tE (.inl rfl) [.t 4 (.one (.d (.val (.int .i64 0))))] ⟨⟨rfl, rfl⟩, trivial⟩ [0] (by have e1 : (((rdC (B.drop a) e most : Nat) : Int) : Int) = 0 := (by first | rfl | exact hr.2 | exact hr.2.symm | (rw [hr.2]; first | done | rfl | omega) | (rw [rfA_ok hr.1]; first | done | rfl) | (rw [rfA_no hr.1]) | (simp only [rdC]; first | (rw [if_pos hr.1, ← rfN_ok (by assumption)]; done) | (rw [if_pos hr.1]; done) | (rw [if_neg hr.1]; first | done | rfl))); have hE := congrArg (fun (q1 : Int) => (dv (.int .i64 q1) : AV)) e1; exact hE) rfl rfl rfl rfl rfl ⟨⟨rfl, (by have e1 : (((a : Nat) : Int) : Int) = ((rfA B a e 4 (limE most ((B.drop a).take 4)) : Nat) : Int) := (by first | rfl | exact hr.2 | exact hr.2.symm | (rw [hr.2]; first | done | rfl | omega) | (rw [rfA_ok hr.1]; first | done | rfl) | (rw [rfA_no hr.1]) | (simp only [rdC]; first | (rw [if_pos hr.1, ← rfN_ok (by assumption)]; done) | (rw [if_pos hr.1]; done) | (rw [if_neg hr.1]; first | done | rfl))); have e2 : (e : Int) = (rdE (B.drop a) e 4 (limE most ((B.drop a).take 4))) := (by first | rfl | exact hr.2 | exact hr.2.symm | (rw [hr.2]; first | done | rfl | omega) | (rw [rfA_ok hr.1]; first | done | rfl) | (rw [rfA_no hr.1]) | (simp only [rdC]; first | (rw [if_pos hr.1, ← rfN_ok (by assumption)]; done) | (rw [if_pos hr.1]; done) | (rw [if_neg hr.1]; first | done | rfl))); have hE := congr (congrArg (fun (q1 : Int) (q2 : Int) => (.live (.box 54 [.d (dsl false false kU8 B), .d (.val (.int .i64 q1)), .d (.val (.int .i64 q2))]) : HS)) e1) e2; exact hE)⟩, trivial⟩
  · refine T.condF (b := (decide (e ≠ 0))) rfl (decide_eq_false hq1) ?_
    refine T.skip ?_
    refine nT ?_
    refine T.seq ?_
    refine tR (s1 := ⟨[pv 0 0, dv (.int .i64 most), AV.any, AV.any, dv (.int .i64 0), dv (.int .u64 ((rfN B a 4 : Nat) : Int)), dv (.bool (decide (a + 4 ≤ B.length))), AV.any, AV.any, AV.any, AV.any, dv (.bool (decide (e ≠ 0)))], [.live (.box 54 [.d (dsl false false kU8 B), .d (.val (.int .i64 ((a : Nat) : Int))), .d (.val (.int .i64 e))])]⟩) [true, true, false, false, true, true, true, false, false, false, false, true] [true]
      (oC (oS rfl rfl (r_move (av := pv 0 0) (lt_of rfl) trivial))
      (oC (oS rfl rfl (r_call (ref01_number B a e 4 (by first | assumption | omega | (simp only [maxLen, kU8_sz, kSl_sz, k_arr_2_uint8_sz, k_arr_2_api_Digest_sz]; omega) | (simp only [maxLen, kU8_sz, kSl_sz, k_arr_2_uint8_sz, k_arr_2_api_Digest_sz, List.length_append, List.length_cons, List.length_nil, List.length_take, List.length_drop, List.length_set]; omega) | decide) (by first | assumption | omega | (simp only [maxLen, kU8_sz, kSl_sz, k_arr_2_uint8_sz, k_arr_2_api_Digest_sz]; omega) | (simp only [maxLen, kU8_sz, kSl_sz, k_arr_2_uint8_sz, k_arr_2_api_Digest_sz, List.length_append, List.length_cons, List.length_nil, List.length_take, List.length_drop, List.length_set]; omega) | decide) (by first | assumption | omega | (simp only [maxLen, kU8_sz, kSl_sz, k_arr_2_uint8_sz, k_arr_2_api_Digest_sz]; omega) | (simp only [maxLen, kU8_sz, kSl_sz, k_arr_2_uint8_sz, k_arr_2_api_Digest_sz, List.length_append, List.length_cons, List.length_nil, List.length_take, List.length_drop, List.length_set]; omega) | decide)) Try.func41 rfl (by decide) [0] [] (l := [(.tmp 13, pv 0 0), (.const (.int .i64 4), dv (.int .i64 4))]) [] rfl 1 1 rfl rfl rfl rfl rfl rfl rfl rfl rfl ⟨.inl ⟨rfl, rfl⟩, ⟨.inl ⟨rfl, rfl⟩, trivial⟩⟩ rfl (fun b hb => by cases hb) (.inl rfl) (lt_of rfl) ⟨rfl, trivial⟩))
      (oC (oS rfl rfl (r_move (av := .tup [.one (.d (.val (.int .u64 ((rfN B a 4 : Nat) : Int)))), .one (.d (.val (.bool (decide (a + 4 ≤ B.length)))))]) (lt_of rfl) trivial))
      (oC (oS rfl rfl (r_extract (l := [.one (.d (.val (.int .u64 ((rfN B a 4 : Nat) : Int)))), .one (.d (.val (.bool (decide (a + 4 ≤ B.length)))))]) (tv := .one (.d (.val (.int .u64 ((rfN B a 4 : Nat) : Int))))) rfl (lt_of rfl) trivial))
      (oC (oS rfl rfl (r_extract (l := [.one (.d (.val (.int .u64 ((rfN B a 4 : Nat) : Int)))), .one (.d (.val (.bool (decide (a + 4 ≤ B.length)))))]) (tv := .one (.d (.val (.bool (decide (a + 4 ≤ B.length)))))) rfl (lt_of rfl) trivial))
      (oC (oS rfl rfl (r_assign (av := dv (.int .u64 ((rfN B a 4 : Nat) : Int))) (lt_of rfl) trivial))
      (oC (oS rfl rfl (r_assign (av := dv (.bool (decide (a + 4 ≤ B.length)))) (lt_of rfl) trivial)) (oZ rfl))))))))
      (by kernel_rfl) (by kernel_rfl) ?_
    refine nT ?_
    refine T.seq ?_
    refine T.seq ?_
    refine tR (s1 := ⟨[pv 0 0, dv (.int .i64 most), AV.any, AV.any, dv (.int .i64 0), dv (.int .u64 ((rfN B a 4 : Nat) : Int)), dv (.bool (decide (a + 4 ≤ B.length))), AV.any, AV.any, AV.any, AV.any, dv (.bool (decide (e ≠ 0))), AV.any, AV.any, AV.any, AV.any, AV.any, AV.any, dv (.bool (!(decide (a + 4 ≤ B.length))))], [.live (.box 54 [.d (dsl false false kU8 B), .d (.val (.int .i64 ((a : Nat) : Int))), .d (.val (.int .i64 e))])]⟩) [true, true, false, false, true, true, true, false, false, false, false, true, false, false, false, false, false, false, true] [true]
      (oC (oS rfl rfl (r_move (av := dv (.bool (decide (a + 4 ≤ B.length)))) (lt_of rfl) trivial))
      (oC (oS rfl rfl (r_un (u := .bool (decide (a + 4 ≤ B.length))) (v := .bool (!(decide (a + 4 ≤ B.length)))) u_not (lt_of rfl) trivial)) (oZ rfl)))
      (by kernel_rfl) (by kernel_rfl) ?_
    refine nT ?_
    by_cases hq2 : a + 4 ≤ B.length
    · refine T.condF (b := (!(decide (a + 4 ≤ B.length)))) rfl (congrArg Bool.not (decide_eq_true hq2)) ?_
      refine T.skip ?_
      refine nT ?_
      refine T.seq ?_
      refine T.seq ?_
      refine tR (s1 := ⟨[pv 0 0, dv (.int .i64 most), AV.any, AV.any, dv (.int .i64 0), dv (.int .u64 ((rfN B a 4 : Nat) : Int)), dv (.bool (decide (a + 4 ≤ B.length))), AV.any, AV.any, AV.any, AV.any, dv (.bool (decide (e ≠ 0))), AV.any, AV.any, AV.any, AV.any, AV.any, AV.any, dv (.bool (!(decide (a + 4 ≤ B.length)))), AV.any, AV.any, AV.any, AV.any, AV.any, AV.any, AV.any, dv (.bool (decide (((rfN B a 4 : Nat) : Int) > (max 0 most))))], [.live (.box 54 [.d (dsl false false kU8 B), .d (.val (.int .i64 ((a : Nat) : Int))), .d (.val (.int .i64 e))])]⟩) [true, true, false, false, true, true, true, false, false, false, false, true, false, false, false, false, false, false, true, false, false, false, false, false, false, false, true] [true]
        (oC (oS rfl rfl (r_move (av := dv (.int .u64 ((rfN B a 4 : Nat) : Int))) (lt_of rfl) trivial))
        (oC (oS rfl rfl (r_conv (u := .int .u64 ((rfN B a 4 : Nat) : Int)) (v := .int .i64 ((rfN B a 4 : Nat) : Int)) (c_int Try.underlying56 Try.underlying3 (by rw [IntKind.wrap_i64]; omega)) (lt_of rfl) trivial))
        (oC (oS rfl rfl (r_move (av := dv (.int .i64 most)) (lt_of rfl) trivial))
        (oC (oS rfl rfl (r_max (k := .i64) (a := 0) (b := most) (lt_of rfl) ⟨rfl, trivial⟩))
        (oC (oS rfl rfl (r_bin (u1 := .int .i64 ((rfN B a 4 : Nat) : Int)) (u2 := .int .i64 (max 0 most)) (v := .bool (decide (((rfN B a 4 : Nat) : Int) > (max 0 most)))) b_gtr (lt_of rfl) trivial)) (oZ rfl))))))
        (by kernel_rfl) (by kernel_rfl) ?_
      refine nT ?_
      by_cases hq3 : ((rfN B a 4 : Nat) : Int) > (max 0 most)
      · have hr := rf_m (n := 4) (k := 4) (c := 11) (m := (limE most ((B.drop a).take 4))) rfl (by assumption) (by assumption) (by rw [lim_of (by assumption), if_pos (by assumption)]) (by decide)
        refine T.condT (b := (decide (((rfN B a 4 : Nat) : Int) > (max 0 most)))) rfl (decide_eq_true hq3) ?_
        refine T.seq ?_
        refine tR (s1 := ⟨[pv 0 0, dv (.int .i64 most), AV.any, AV.any, dv (.int .i64 0), dv (.int .u64 ((rfN B a 4 : Nat) : Int)), dv (.bool (decide (a + 4 ≤ B.length))), AV.any, AV.any, AV.any, AV.any, dv (.bool (decide (e ≠ 0))), AV.any, AV.any, AV.any, AV.any, AV.any, AV.any, dv (.bool (!(decide (a + 4 ≤ B.length)))), AV.any, AV.any, AV.any, AV.any, AV.any, AV.any, AV.any, dv (.bool (decide (((rfN B a 4 : Nat) : Int) > (max 0 most))))], [.live (.box 54 [.d (dsl false false kU8 B), .d (.val (.int .i64 ((a : Nat) : Int))), .d (.val (.int .i64 11))])]⟩) [true, true, false, false, true, true, true, false, false, false, false, true, false, false, false, false, false, false, true, false, false, false, false, false, false, false, true] [true]
          (oC (oS rfl rfl (r_move (av := pv 0 0) (lt_of rfl) trivial))
          (oC (oS rfl rfl (r_nilCheck (av := pv 0 0) rfl (lt_of rfl) trivial))
          (oC (oS rfl rfl (r_fieldAddr (l := 0) (off := 0) fld_54_2 (lt_of rfl) trivial))
          (oC (oS rfl rfl (r_store (l := 0) (off := 2) (n := 1) (T := 54) (cs := [.d (dsl false false kU8 B), .d (.val (.int .i64 ((a : Nat) : Int))), .d (.val (.int .i64 e))]) (cs' := [.d (dsl false false kU8 B), .d (.val (.int .i64 ((a : Nat) : Int))), .d (.val (.int .i64 11))]) (tv := .one (.d (.val (.int .i64 11)))) cells_50 rfl (Nat.le_of_ble_eq_true rfl) rfl rfl ⟨rfl, trivial⟩)) (oZ rfl)))))
          (by kernel_rfl) (by kernel_rfl) ?_
        refine nT ?_
        refine T.seq ?_
        refine tR (s1 := ⟨[pv 0 0, dv (.int .i64 most), AV.any, AV.any, dv (.int .i64 0), dv (.int .u64 ((rfN B a 4 : Nat) : Int)), dv (.bool (decide (a + 4 ≤ B.length))), AV.any, AV.any, AV.any, AV.any, dv (.bool (decide (e ≠ 0))), AV.any, AV.any, AV.any, AV.any, AV.any, AV.any, dv (.bool (!(decide (a + 4 ≤ B.length)))), AV.any, AV.any, AV.any, AV.any, AV.any, AV.any, AV.any, dv (.bool (decide (((rfN B a 4 : Nat) : Int) > (max 0 most))))], [.live (.box 54 [.d (dsl false false kU8 B), .d (.val (.int .i64 ((a : Nat) : Int))), .d (.val (.int .i64 11))])]⟩) [true, true, false, false, true, true, true, false, false, false, false, true, false, false, false, false, false, false, true, false, false, false, false, false, false, false, true] [true]
          (oC (oS rfl rfl (r_assign (av := dv (.int .i64 0)) (lt_of rfl) ⟨rfl, trivial⟩)) (oZ rfl))
          (by kernel_rfl) (by kernel_rfl) ?_
        refine nT ?_
        refine T.ret ?_
        refine rT ?_
        exact tE (.inl rfl) [.t 4 (.one (.d (.val (.int .i64 0))))] ⟨⟨rfl, rfl⟩, trivial⟩ [0] (by have e1 : (((rdC (B.drop a) e most : Nat) : Int) : Int) = 0 := (by first | rfl | exact hr.2 | exact hr.2.symm | (rw [hr.2]; first | done | rfl | omega) | (rw [rfA_ok hr.1]; first | done | rfl) | (rw [rfA_no hr.1]) | (simp only [rdC]; first | (rw [if_pos hr.1, ← rfN_ok (by assumption)]; done) | (rw [if_pos hr.1]; done) | (rw [if_neg hr.1]; first | done | rfl))); have hE := congrArg (fun (q1 : Int) => (dv (.int .i64 q1) : AV)) e1; exact hE) rfl rfl rfl rfl rfl ⟨⟨rfl, (by have e1 : (((a : Nat) : Int) : Int) = ((rfA B a e 4 (limE most ((B.drop a).take 4)) : Nat) : Int) := (by first | rfl | exact hr.2 | exact hr.2.symm | (rw [hr.2]; first | done | rfl | omega) | (rw [rfA_ok hr.1]; first | done | rfl) | (rw [rfA_no hr.1]) | (simp only [rdC]; first | (rw [if_pos hr.1, ← rfN_ok (by assumption)]; done) | (rw [if_pos hr.1]; done) | (rw [if_neg hr.1]; first | done | rfl))); have e2 : (11 : Int) = (rdE (B.drop a) e 4 (limE most ((B.drop a).take 4))) := (by first | rfl | exact hr.2 | exact hr.2.symm | (rw [hr.2]; first | done | rfl | omega) | (rw [rfA_ok hr.1]; first | done | rfl) | (rw [rfA_no hr.1]) | (simp only [rdC]; first | (rw [if_pos hr.1, ← rfN_ok (by assumption)]; done) | (rw [if_pos hr.1]; done) | (rw [if_neg hr.1]; first | done | rfl))); have hE := congr (congrArg (fun (q1 : Int) (q2 : Int) => (.live (.box 54 [.d (dsl false false kU8 B), .d (.val (.int .i64 q1)), .d (.val (.int .i64 q2))]) : HS)) e1) e2; exact hE)⟩, trivial⟩
      · have hr := rf_ok (n := 4) (k := 4) (m := (limE most ((B.drop a).take 4))) rfl (by assumption) (by assumption) (by rw [lim_of (by assumption), if_neg (by assumption)])
        refine T.condF (b := (decide (((rfN B a 4 : Nat) : Int) > (max 0 most)))) rfl (decide_eq_false hq3) ?_
        refine T.skip ?_
        refine nT ?_
        refine T.seq ?_
        refine tR (s1 := ⟨[pv 0 0, dv (.int .i64 most), AV.any, AV.any, dv (.int .i64 0), dv (.int .u64 ((rfN B a 4 : Nat) : Int)), dv (.bool (decide (a + 4 ≤ B.length))), AV.any, AV.any, AV.any, AV.any, dv (.bool (decide (e ≠ 0))), AV.any, AV.any, AV.any, AV.any, AV.any, AV.any, dv (.bool (!(decide (a + 4 ≤ B.length)))), AV.any, AV.any, AV.any, AV.any, AV.any, AV.any, AV.any, dv (.bool (decide (((rfN B a 4 : Nat) : Int) > (max 0 most))))], [.live (.box 54 [.d (dsl false false kU8 B), .d (.val (.int .i64 ((a + 4 : Nat) : Int))), .d (.val (.int .i64 e))])]⟩) [true, true, false, false, true, true, true, false, false, false, false, true, false, false, false, false, false, false, true, false, false, false, false, false, false, false, true] [true]
          (oC (oS rfl rfl (r_move (av := pv 0 0) (lt_of rfl) trivial))
          (oC (oS rfl rfl (r_nilCheck (av := pv 0 0) rfl (lt_of rfl) trivial))
          (oC (oS rfl rfl (r_fieldAddr (l := 0) (off := 0) fld_54_1 (lt_of rfl) trivial))
          (oC (oS rfl rfl (r_loadB (l := 0) (off := 1) (T := 54) (cs := [.d (dsl false false kU8 B), .d (.val (.int .i64 ((a : Nat) : Int))), .d (.val (.int .i64 e))]) (c := .d (.val (.int .i64 ((a : Nat) : Int)))) wide_3 rfl (lt_of rfl) trivial))
          (oC (oS rfl rfl (r_bin (u1 := .int .i64 ((a : Nat) : Int)) (u2 := .int .i64 4) (v := .int .i64 ((a + 4 : Nat) : Int)) (b_add (by rw [IntKind.wrap_i64]; omega)) (lt_of rfl) ⟨rfl, trivial⟩))
          (oC (oS rfl rfl (r_nilCheck (av := pv 0 0) rfl (lt_of rfl) trivial))
          (oC (oS rfl rfl (r_fieldAddr (l := 0) (off := 0) fld_54_1 (lt_of rfl) trivial))
          (oC (oS rfl rfl (r_store (l := 0) (off := 1) (n := 1) (T := 54) (cs := [.d (dsl false false kU8 B), .d (.val (.int .i64 ((a : Nat) : Int))), .d (.val (.int .i64 e))]) (cs' := [.d (dsl false false kU8 B), .d (.val (.int .i64 ((a + 4 : Nat) : Int))), .d (.val (.int .i64 e))]) (tv := .one (.d (.val (.int .i64 ((a + 4 : Nat) : Int))))) cells_3 rfl (Nat.le_of_ble_eq_true rfl) rfl rfl trivial)) (oZ rfl)))))))))
          (by kernel_rfl) (by kernel_rfl) ?_
        refine nT ?_
        refine T.seq ?_
        refine tR (s1 := ⟨[pv 0 0, dv (.int .i64 most), AV.any, AV.any, dv (.int .i64 ((rfN B a 4 : Nat) : Int)), dv (.int .u64 ((rfN B a 4 : Nat) : Int)), dv (.bool (decide (a + 4 ≤ B.length))), AV.any, AV.any, AV.any, AV.any, dv (.bool (decide (e ≠ 0))), AV.any, AV.any, AV.any, AV.any, AV.any, AV.any, dv (.bool (!(decide (a + 4 ≤ B.length)))), AV.any, AV.any, AV.any, AV.any, AV.any, AV.any, AV.any, dv (.bool (decide (((rfN B a 4 : Nat) : Int) > (max 0 most))))], [.live (.box 54 [.d (dsl false false kU8 B), .d (.val (.int .i64 ((a + 4 : Nat) : Int))), .d (.val (.int .i64 e))])]⟩) [true, true, false, false, true, true, true, false, false, false, false, true, false, false, false, false, false, false, true, false, false, false, false, false, false, false, true] [true]
          (oC (oS rfl rfl (r_move (av := dv (.int .u64 ((rfN B a 4 : Nat) : Int))) (lt_of rfl) trivial))
          (oC (oS rfl rfl (r_conv (u := .int .u64 ((rfN B a 4 : Nat) : Int)) (v := .int .i64 ((rfN B a 4 : Nat) : Int)) (c_int Try.underlying56 Try.underlying3 (by rw [IntKind.wrap_i64]; omega)) (lt_of rfl) trivial))
          (oC (oS rfl rfl (r_assign (av := dv (.int .i64 ((rfN B a 4 : Nat) : Int))) (lt_of rfl) trivial)) (oZ rfl))))
          (by kernel_rfl) (by kernel_rfl) ?_
        refine nT ?_
        refine T.ret ?_
        exact tE (.inl rfl) [.t 4 (.one (.d (.val (.int .i64 ((rfN B a 4 : Nat) : Int)))))] ⟨⟨rfl, rfl⟩, trivial⟩ [0] (by have e1 : (((rdC (B.drop a) e most : Nat) : Int) : Int) = ((rfN B a 4 : Nat) : Int) := (by first | rfl | exact hr.2 | exact hr.2.symm | (rw [hr.2]; first | done | rfl | omega) | (rw [rfA_ok hr.1]; first | done | rfl) | (rw [rfA_no hr.1]) | (simp only [rdC]; first | (rw [if_pos hr.1, ← rfN_ok (by assumption)]; done) | (rw [if_pos hr.1]; done) | (rw [if_neg hr.1]; first | done | rfl))); have hE := congrArg (fun (q1 : Int) => (dv (.int .i64 q1) : AV)) e1; exact hE) rfl rfl rfl rfl rfl ⟨⟨rfl, (by have e1 : (((a + 4 : Nat) : Int) : Int) = ((rfA B a e 4 (limE most ((B.drop a).take 4)) : Nat) : Int) := (by first | rfl | exact hr.2 | exact hr.2.symm | (rw [hr.2]; first | done | rfl | omega) | (rw [rfA_ok hr.1]; first | done | rfl) | (rw [rfA_no hr.1]) | (simp only [rdC]; first | (rw [if_pos hr.1, ← rfN_ok (by assumption)]; done) | (rw [if_pos hr.1]; done) | (rw [if_neg hr.1]; first | done | rfl))); have e2 : (e : Int) = (rdE (B.drop a) e 4 (limE most ((B.drop a).take 4))) := (by first | rfl | exact hr.2 | exact hr.2.symm | (rw [hr.2]; first | done | rfl | omega) | (rw [rfA_ok hr.1]; first | done | rfl) | (rw [rfA_no hr.1]) | (simp only [rdC]; first | (rw [if_pos hr.1, ← rfN_ok (by assumption)]; done) | (rw [if_pos hr.1]; done) | (rw [if_neg hr.1]; first | done | rfl))); have hE := congr (congrArg (fun (q1 : Int) (q2 : Int) => (.live (.box 54 [.d (dsl false false kU8 B), .d (.val (.int .i64 q1)), .d (.val (.int .i64 q2))]) : HS)) e1) e2; exact hE)⟩, trivial⟩
    · have hr := rf_short (n := 4) (k := 4) rfl (by assumption) hq2 ha (limE most ((B.drop a).take 4))
      refine T.condT (b := (!(decide (a + 4 ≤ B.length)))) rfl (congrArg Bool.not (decide_eq_false hq2)) ?_
      refine T.seq ?_
      refine tR (s1 := ⟨[pv 0 0, dv (.int .i64 most), AV.any, AV.any, dv (.int .i64 0), dv (.int .u64 ((rfN B a 4 : Nat) : Int)), dv (.bool (decide (a + 4 ≤ B.length))), AV.any, AV.any, AV.any, AV.any, dv (.bool (decide (e ≠ 0))), AV.any, AV.any, AV.any, AV.any, AV.any, AV.any, dv (.bool (!(decide (a + 4 ≤ B.length))))], [.live (.box 54 [.d (dsl false false kU8 B), .d (.val (.int .i64 ((a : Nat) : Int))), .d (.val (.int .i64 10))])]⟩) [true, true, false, false, true, true, true, false, false, false, false, true, false, false, false, false, false, false, true] [true]
        (oC (oS rfl rfl (r_move (av := pv 0 0) (lt_of rfl) trivial))
        (oC (oS rfl rfl (r_nilCheck (av := pv 0 0) rfl (lt_of rfl) trivial))
        (oC (oS rfl rfl (r_fieldAddr (l := 0) (off := 0) fld_54_2 (lt_of rfl) trivial))
        (oC (oS rfl rfl (r_store (l := 0) (off := 2) (n := 1) (T := 54) (cs := [.d (dsl false false kU8 B), .d (.val (.int .i64 ((a : Nat) : Int))), .d (.val (.int .i64 e))]) (cs' := [.d (dsl false false kU8 B), .d (.val (.int .i64 ((a : Nat) : Int))), .d (.val (.int .i64 10))]) (tv := .one (.d (.val (.int .i64 10)))) cells_50 rfl (Nat.le_of_ble_eq_true rfl) rfl rfl ⟨rfl, trivial⟩)) (oZ rfl)))))
        (by kernel_rfl) (by kernel_rfl) ?_
      refine nT ?_
      refine T.seq ?_
      refine tR (s1 := ⟨[pv 0 0, dv (.int .i64 most), AV.any, AV.any, dv (.int .i64 0), dv (.int .u64 ((rfN B a 4 : Nat) : Int)), dv (.bool (decide (a + 4 ≤ B.length))), AV.any, AV.any, AV.any, AV.any, dv (.bool (decide (e ≠ 0))), AV.any, AV.any, AV.any, AV.any, AV.any, AV.any, dv (.bool (!(decide (a + 4 ≤ B.length))))], [.live (.box 54 [.d (dsl false false kU8 B), .d (.val (.int .i64 ((a : Nat) : Int))), .d (.val (.int .i64 10))])]⟩) [true, true, false, false, true, true, true, false, false, false, false, true, false, false, false, false, false, false, true] [true]
        (oC (oS rfl rfl (r_assign (av := dv (.int .i64 0)) (lt_of rfl) ⟨rfl, trivial⟩)) (oZ rfl))
        (by kernel_rfl) (by kernel_rfl) ?_
      refine nT ?_
      refine T.ret ?_
      refine rT ?_
      exact tE (.inl rfl) [.t 4 (.one (.d (.val (.int .i64 0))))] ⟨⟨rfl, rfl⟩, trivial⟩ [0] (by have e1 : (((rdC (B.drop a) e most : Nat) : Int) : Int) = 0 := (by first | rfl | exact hr.2 | exact hr.2.symm | (rw [hr.2]; first | done | rfl | omega) | (rw [rfA_ok hr.1]; first | done | rfl) | (rw [rfA_no hr.1]) | (simp only [rdC]; first | (rw [if_pos hr.1, ← rfN_ok (by assumption)]; done) | (rw [if_pos hr.1]; done) | (rw [if_neg hr.1]; first | done | rfl))); have hE := congrArg (fun (q1 : Int) => (dv (.int .i64 q1) : AV)) e1; exact hE) rfl rfl rfl rfl rfl ⟨⟨rfl, (by have e1 : (((a : Nat) : Int) : Int) = ((rfA B a e 4 (limE most ((B.drop a).take 4)) : Nat) : Int) := (by first | rfl | exact hr.2 | exact hr.2.symm | (rw [hr.2]; first | done | rfl | omega) | (rw [rfA_ok hr.1]; first | done | rfl) | (rw [rfA_no hr.1]) | (simp only [rdC]; first | (rw [if_pos hr.1, ← rfN_ok (by assumption)]; done) | (rw [if_pos hr.1]; done) | (rw [if_neg hr.1]; first | done | rfl))); have e2 : (10 : Int) = (rdE (B.drop a) e 4 (limE most ((B.drop a).take 4))) := (by first | rfl | exact hr.2 | exact hr.2.symm | (rw [hr.2]; first | done | rfl | omega) | (rw [rfA_ok hr.1]; first | done | rfl) | (rw [rfA_no hr.1]) | (simp only [rdC]; first | (rw [if_pos hr.1, ← rfN_ok (by assumption)]; done) | (rw [if_pos hr.1]; done) | (rw [if_neg hr.1]; first | done | rfl))); have hE := congr (congrArg (fun (q1 : Int) (q2 : Int) => (.live (.box 54 [.d (dsl false false kU8 B), .d (.val (.int .i64 q1)), .d (.val (.int .i64 q2))]) : HS)) e1) e2; exact hE)⟩, trivial⟩

-- (*quaestor/quaestorref01.Reader).End
theorem ref01_rEnd (B : List UInt8) (a : Nat) (e : Int) (ha : a ≤ B.length) (hB : B.length ≤ 140737488350000) : Holds Try.prog 33 ⟨[pv 0 0], [.box 54 [.d (dsl false false kU8 B), .d (.val (.int .i64 ((a : Nat) : Int))), .d (.val (.int .i64 e))]], .tup [], [.live (.box 54 [.d (dsl false false kU8 B), .d (.val (.int .i64 ((a : Nat) : Int))), .d (.val (.int .i64 (rdX (B.drop a) e)))])]⟩ := by
  refine Holds.of Try.func33 rfl (N := 22) Try.ntmps33 rfl fun w0 B0 S0 U0 => ?_
  show T _ (mkBase 22 1 w0 S0 U0 B0) ⟨[pv 0 0], [.live (.box 54 [.d (dsl false false kU8 B), .d (.val (.int .i64 ((a : Nat) : Int))), .d (.val (.int .i64 e))])]⟩ _ _
  refine T.seq ?_
  by_cases hq1 : e = 0
  · refine tD (s1 := ⟨[pv 0 0, AV.any, AV.any, AV.any, AV.any, AV.any, AV.any, AV.any, AV.any, AV.any, AV.any, AV.any, AV.any, AV.any, AV.any, AV.any, AV.any, AV.any, dv (.bool (decide (((a : Nat) : Int) < ((B.length : Nat) : Int))))], [.live (.box 54 [.d (dsl false false kU8 B), .d (.val (.int .i64 ((a : Nat) : Int))), .d (.val (.int .i64 e))])]⟩) (by kernel_rfl) [[], [0], [0, 1], [0, 1, 2], [0, 1, 2, 3], [0, 1, 2, 3, 4], [0, 1, 2, 3, 4, 5], [0, 1, 2, 3, 4, 5, 6], [0, 1, 2, 3, 4, 5, 6, 7], [0, 1, 2, 3, 4, 5, 6, 7, 8], [0, 1, 2, 3, 4, 5], [0, 1, 2, 3, 4, 5, 10], [0, 1, 2, 3, 4, 5, 10, 11], [0, 1, 2, 3, 4, 5, 10, 11, 12], [0, 1, 2, 3, 4, 5, 10, 11, 12, 13], [0, 1, 2, 3, 4, 5, 6, 7, 8, 9, 10, 11, 12, 13, 14], [0, 1, 2, 3, 4, 5, 6, 7, 8, 9, 10, 11, 12, 13, 14, 15]] [true, false, false, false, false, false, false, false, false, false, false, false, false, false, false, false, false, false, true] [true]
      (oC (oS rfl rfl (r_move (av := pv 0 0) (lt_of rfl) trivial))
      (oC (oS rfl rfl (r_nilCheck (av := pv 0 0) rfl (lt_of rfl) trivial))
      (oC (oS rfl rfl (r_fieldAddr (l := 0) (off := 0) fld_54_2 (lt_of rfl) trivial))
      (oC (oS rfl rfl (r_loadB (l := 0) (off := 2) (T := 54) (cs := [.d (dsl false false kU8 B), .d (.val (.int .i64 ((a : Nat) : Int))), .d (.val (.int .i64 e))]) (c := .d (.val (.int .i64 e))) wide_50 rfl (lt_of rfl) trivial))
      (oC (oS rfl rfl (r_bin (u1 := .int .i64 e) (u2 := .int .i64 0) (v := .bool (decide (e = 0))) b_eql (lt_of rfl) ⟨rfl, trivial⟩))
      (oC (oS rfl rfl (r_move (av := dv (.bool (decide (e = 0)))) (lt_of rfl) trivial))
      (oC (oY (b := (decide (e = 0))) rfl rfl rfl rfl (lt_of rfl) (decide_eq_true hq1) (r_move (av := pv 0 0) (lt_of rfl) trivial))
      (oC (oY (b := (decide (e = 0))) rfl rfl rfl rfl (lt_of rfl) (decide_eq_true hq1) (r_nilCheck (av := pv 0 0) rfl (lt_of rfl) trivial))
      (oC (oY (b := (decide (e = 0))) rfl rfl rfl rfl (lt_of rfl) (decide_eq_true hq1) (r_fieldAddr (l := 0) (off := 0) fld_54_1 (lt_of rfl) trivial))
      (oC (oY (b := (decide (e = 0))) rfl rfl rfl rfl (lt_of rfl) (decide_eq_true hq1) (r_loadB (l := 0) (off := 1) (T := 54) (cs := [.d (dsl false false kU8 B), .d (.val (.int .i64 ((a : Nat) : Int))), .d (.val (.int .i64 e))]) (c := .d (.val (.int .i64 ((a : Nat) : Int)))) wide_3 rfl (lt_of rfl) trivial))
      (oC (oY (b := (decide (e = 0))) rfl rfl rfl rfl (lt_of rfl) (decide_eq_true hq1) (r_move (av := pv 0 0) (lt_of rfl) trivial))
      (oC (oY (b := (decide (e = 0))) rfl rfl rfl rfl (lt_of rfl) (decide_eq_true hq1) (r_nilCheck (av := pv 0 0) rfl (lt_of rfl) trivial))
      (oC (oY (b := (decide (e = 0))) rfl rfl rfl rfl (lt_of rfl) (decide_eq_true hq1) (r_fieldAddr (l := 0) (off := 0) fld_54_0 (lt_of rfl) trivial))
      (oC (oY (b := (decide (e = 0))) rfl rfl rfl rfl (lt_of rfl) (decide_eq_true hq1) (r_loadB (l := 0) (off := 0) (T := 54) (cs := [.d (dsl false false kU8 B), .d (.val (.int .i64 ((a : Nat) : Int))), .d (.val (.int .i64 e))]) (c := .d (dsl false false kU8 B)) wide_37 rfl (lt_of rfl) trivial))
      (oC (oY (b := (decide (e = 0))) rfl rfl rfl rfl (lt_of rfl) (decide_eq_true hq1) (q_len false false kU8 B Try.underlying37 (lt_of rfl) trivial))
      (oC (oY (b := (decide (e = 0))) rfl rfl rfl rfl (lt_of rfl) (decide_eq_true hq1) (r_bin (u1 := .int .i64 ((a : Nat) : Int)) (u2 := .int .i64 ((B.length : Nat) : Int)) (v := .bool (decide (((a : Nat) : Int) < ((B.length : Nat) : Int)))) b_lss (lt_of rfl) trivial))
      (oC (oS rfl rfl (r_pickT (b := (decide (e = 0))) (av := dv (.bool (decide (((a : Nat) : Int) < ((B.length : Nat) : Int))))) (lt_of rfl) trivial (decide_eq_true hq1))) (oZ rfl))))))))))))))))))
      (by kernel_rfl) (by kernel_rfl) (by kernel_rfl) (by kernel_rfl) (by kernel_rfl) ?_
    refine nT ?_
    by_cases hq2 : ((a : Nat) : Int) < ((B.length : Nat) : Int)
    · refine T.condT (b := (decide (((a : Nat) : Int) < ((B.length : Nat) : Int)))) rfl (decide_eq_true hq2) ?_
      refine tR (s1 := ⟨[pv 0 0, AV.any, AV.any, AV.any, AV.any, AV.any, AV.any, AV.any, AV.any, AV.any, AV.any, AV.any, AV.any, AV.any, AV.any, AV.any, AV.any, AV.any, dv (.bool (decide (((a : Nat) : Int) < ((B.length : Nat) : Int))))], [.live (.box 54 [.d (dsl false false kU8 B), .d (.val (.int .i64 ((a : Nat) : Int))), .d (.val (.int .i64 13))])]⟩) [true, false, false, false, false, false, false, false, false, false, false, false, false, false, false, false, false, false, true] [true]
        (oC (oS rfl rfl (r_move (av := pv 0 0) (lt_of rfl) trivial))
        (oC (oS rfl rfl (r_nilCheck (av := pv 0 0) rfl (lt_of rfl) trivial))
        (oC (oS rfl rfl (r_fieldAddr (l := 0) (off := 0) fld_54_2 (lt_of rfl) trivial))
        (oC (oS rfl rfl (r_store (l := 0) (off := 2) (n := 1) (T := 54) (cs := [.d (dsl false false kU8 B), .d (.val (.int .i64 ((a : Nat) : Int))), .d (.val (.int .i64 e))]) (cs' := [.d (dsl false false kU8 B), .d (.val (.int .i64 ((a : Nat) : Int))), .d (.val (.int .i64 13))]) (tv := .one (.d (.val (.int .i64 13)))) cells_50 rfl (Nat.le_of_ble_eq_true rfl) rfl rfl ⟨rfl, trivial⟩)) (oZ rfl)))))
        (by kernel_rfl) (by kernel_rfl) ?_
      exact tE (.inr rfl) [] trivial [0] rfl rfl rfl rfl rfl rfl ⟨⟨rfl, (by have e1 : (13 : Int) = (rdX (B.drop a) e) := (by first | rfl | (simp only [rdX, List.length_drop]; first | rw [if_pos ⟨by assumption, by omega⟩] | rw [if_neg (fun h => by first | exact absurd h.1 (by assumption) | (have := h.2; omega))])); have hE := congrArg (fun (q1 : Int) => (.live (.box 54 [.d (dsl false false kU8 B), .d (.val (.int .i64 ((a : Nat) : Int))), .d (.val (.int .i64 q1))]) : HS)) e1; exact hE)⟩, trivial⟩
    · refine T.condF (b := (decide (((a : Nat) : Int) < ((B.length : Nat) : Int)))) rfl (decide_eq_false hq2) ?_
      refine T.skip ?_
      exact tE (.inr rfl) [] trivial [0] rfl rfl rfl rfl rfl rfl ⟨⟨rfl, (by have e1 : (e : Int) = (rdX (B.drop a) e) := (by first | rfl | (simp only [rdX, List.length_drop]; first | rw [if_pos ⟨by assumption, by omega⟩] | rw [if_neg (fun h => by first | exact absurd h.1 (by assumption) | (have := h.2; omega))])); have hE := congrArg (fun (q1 : Int) => (.live (.box 54 [.d (dsl false false kU8 B), .d (.val (.int .i64 ((a : Nat) : Int))), .d (.val (.int .i64 q1))]) : HS)) e1; exact hE)⟩, trivial⟩
  · refine tD (s1 := ⟨[pv 0 0, AV.any, AV.any, AV.any, AV.any, AV.any, AV.any, AV.any, AV.any, AV.any, AV.any, AV.any, AV.any, AV.any, AV.any, AV.any, AV.any, AV.any, dv (.bool false)], [.live (.box 54 [.d (dsl false false kU8 B), .d (.val (.int .i64 ((a : Nat) : Int))), .d (.val (.int .i64 e))])]⟩) (by kernel_rfl) [[], [0], [0, 1], [0, 1, 2], [0, 1, 2, 3], [0, 1, 2, 3, 4], [0, 1, 2, 3, 4, 5], [0, 1, 2, 3, 4, 5, 6], [0, 1, 2, 3, 4, 5, 6, 7], [0, 1, 2, 3, 4, 5, 6, 7, 8], [0, 1, 2, 3, 4, 5], [0, 1, 2, 3, 4, 5, 10], [0, 1, 2, 3, 4, 5, 10, 11], [0, 1, 2, 3, 4, 5, 10, 11, 12], [0, 1, 2, 3, 4, 5, 10, 11, 12, 13], [0, 1, 2, 3, 4, 5, 6, 7, 8, 9, 10, 11, 12, 13, 14], [0, 1, 2, 3, 4, 5, 6, 7, 8, 9, 10, 11, 12, 13, 14, 15]] [true, false, false, false, false, false, false, false, false, false, false, false, false, false, false, false, false, false, true] [true]
      (oC (oS rfl rfl (r_move (av := pv 0 0) (lt_of rfl) trivial))
      (oC (oS rfl rfl (r_nilCheck (av := pv 0 0) rfl (lt_of rfl) trivial))
      (oC (oS rfl rfl (r_fieldAddr (l := 0) (off := 0) fld_54_2 (lt_of rfl) trivial))
      (oC (oS rfl rfl (r_loadB (l := 0) (off := 2) (T := 54) (cs := [.d (dsl false false kU8 B), .d (.val (.int .i64 ((a : Nat) : Int))), .d (.val (.int .i64 e))]) (c := .d (.val (.int .i64 e))) wide_50 rfl (lt_of rfl) trivial))
      (oC (oS rfl rfl (r_bin (u1 := .int .i64 e) (u2 := .int .i64 0) (v := .bool (decide (e = 0))) b_eql (lt_of rfl) ⟨rfl, trivial⟩))
      (oC (oS rfl rfl (r_move (av := dv (.bool (decide (e = 0)))) (lt_of rfl) trivial))
      (oC (oN (b := (decide (e = 0))) rfl rfl rfl rfl (lt_of rfl) (decide_eq_false hq1) rfl (lt_of rfl))
      (oC (oN (b := (decide (e = 0))) rfl rfl rfl rfl (lt_of rfl) (decide_eq_false hq1) rfl (lt_of rfl))
      (oC (oN (b := (decide (e = 0))) rfl rfl rfl rfl (lt_of rfl) (decide_eq_false hq1) rfl (lt_of rfl))
      (oC (oN (b := (decide (e = 0))) rfl rfl rfl rfl (lt_of rfl) (decide_eq_false hq1) rfl (lt_of rfl))
      (oC (oN (b := (decide (e = 0))) rfl rfl rfl rfl (lt_of rfl) (decide_eq_false hq1) rfl (lt_of rfl))
      (oC (oN (b := (decide (e = 0))) rfl rfl rfl rfl (lt_of rfl) (decide_eq_false hq1) rfl (lt_of rfl))
      (oC (oN (b := (decide (e = 0))) rfl rfl rfl rfl (lt_of rfl) (decide_eq_false hq1) rfl (lt_of rfl))
      (oC (oN (b := (decide (e = 0))) rfl rfl rfl rfl (lt_of rfl) (decide_eq_false hq1) rfl (lt_of rfl))
      (oC (oN (b := (decide (e = 0))) rfl rfl rfl rfl (lt_of rfl) (decide_eq_false hq1) rfl (lt_of rfl))
      (oC (oN (b := (decide (e = 0))) rfl rfl rfl rfl (lt_of rfl) (decide_eq_false hq1) rfl (lt_of rfl))
      (oC (oS rfl rfl (r_pickF (b := (decide (e = 0))) (av := dv (.bool false)) (lt_of rfl) ⟨rfl, trivial⟩ (decide_eq_false hq1))) (oZ rfl))))))))))))))))))
      (by kernel_rfl) (by kernel_rfl) (by kernel_rfl) (by kernel_rfl) (by kernel_rfl) ?_
    refine nT ?_
    refine T.condF (b := false) rfl rfl ?_
    refine T.skip ?_
    exact tE (.inr rfl) [] trivial [0] rfl rfl rfl rfl rfl rfl ⟨⟨rfl, (by have e1 : (e : Int) = (rdX (B.drop a) e) := (by first | rfl | (simp only [rdX, List.length_drop]; first | rw [if_pos ⟨by assumption, by omega⟩] | rw [if_neg (fun h => by first | exact absurd h.1 (by assumption) | (have := h.2; omega))])); have hE := congrArg (fun (q1 : Int) => (.live (.box 54 [.d (dsl false false kU8 B), .d (.val (.int .i64 ((a : Nat) : Int))), .d (.val (.int .i64 q1))]) : HS)) e1; exact hE)⟩, trivial⟩
end Go.Proofs.Ytdgjpmhpjhdkmaa.Q
