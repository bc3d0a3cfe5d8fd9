import Derived.Test.YtdgjpmhpjhdkmaaC02n6
namespace Go.Proofs.Ytdgjpmhpjhdkmaa.Q
open Go Go.RowKit
set_option linter.unusedVariables false
set_option linter.unusedSimpArgs false
set_option maxRecDepth 100000
set_option maxHeartbeats 4000000
-- quaestor/quaestorref02.Parts
theorem ref02_Parts (ta : Bool) (na : Bool) (sa : Bool) (tb : Bool) (nb : Bool) (sb : Bool) (a : List (List UInt8)) (b : List (List UInt8)) (hl : a.length ≤ 9223372036854775807) : Holds Try.prog 13 ⟨[slV ta na (kSl sa kU8) a, slV tb nb (kSl sb kU8) b], [], dv (.bool (decide (a = b))), []⟩ := by
  refine Holds.of Try.func13 rfl (N := 27) Try.ntmps13 rfl fun w0 B0 S0 U0 => ?_
  show T _ (mkBase 27 0 w0 S0 U0 B0) ⟨[slV ta na (kSl sa kU8) a, slV tb nb (kSl sb kU8) b], []⟩ _ _
  refine T.seq ?_
  refine tR (s1 := ⟨[slV ta na (kSl sa kU8) a, slV tb nb (kSl sb kU8) b, AV.any, AV.any, dv (.bool false)], []⟩) [true, true, false, false, true] []
    (oC (oS rfl rfl (r_assign (av := dv (.bool false)) (lt_of rfl) ⟨rfl, trivial⟩)) (oZ rfl))
    (by kernel_rfl) (by kernel_rfl) ?_
  refine nT ?_
  refine T.seq ?_
  refine T.seq ?_
  refine tR (s1 := ⟨[slV ta na (kSl sa kU8) a, slV tb nb (kSl sb kU8) b, AV.any, AV.any, dv (.bool false), AV.any, AV.any, AV.any, AV.any, AV.any, dv (.bool (decide (((a.length : Nat) : Int) ≠ ((b.length : Nat) : Int))))], []⟩) [true, true, false, false, true, false, false, false, false, false, true] []
    (oC (oS rfl rfl (r_move (av := slV ta na (kSl sa kU8) a) (lt_of rfl) trivial))
    (oC (oS rfl rfl (q_len ta na (kSl sa kU8) a Try.underlying22 (lt_of rfl) trivial))
    (oC (oS rfl rfl (r_move (av := slV tb nb (kSl sb kU8) b) (lt_of rfl) trivial))
    (oC (oS rfl rfl (q_len tb nb (kSl sb kU8) b Try.underlying22 (lt_of rfl) trivial))
    (oC (oS rfl rfl (r_bin (u1 := .int .i64 ((a.length : Nat) : Int)) (u2 := .int .i64 ((b.length : Nat) : Int)) (v := .bool (decide (((a.length : Nat) : Int) ≠ ((b.length : Nat) : Int)))) b_neq (lt_of rfl) trivial)) (oZ rfl))))))
    (by kernel_rfl) (by kernel_rfl) ?_
  refine nT ?_
  by_cases hq1 : ((a.length : Nat) : Int) ≠ ((b.length : Nat) : Int)
  · refine T.condT (b := (decide (((a.length : Nat) : Int) ≠ ((b.length : Nat) : Int)))) rfl (decide_eq_true hq1) ?_
    refine T.seq ?_
    refine tR (s1 := ⟨[slV ta na (kSl sa kU8) a, slV tb nb (kSl sb kU8) b, AV.any, AV.any, dv (.bool false), AV.any, AV.any, AV.any, AV.any, AV.any, dv (.bool (decide (((a.length : Nat) : Int) ≠ ((b.length : Nat) : Int))))], []⟩) [true, true, false, false, true, false, false, false, false, false, true] []
      (oC (oS rfl rfl (r_assign (av := dv (.bool false)) (lt_of rfl) ⟨rfl, trivial⟩)) (oZ rfl))
      (by kernel_rfl) (by kernel_rfl) ?_
    refine nT ?_
    refine T.ret ?_
    refine rT ?_
    exact tE (.inl rfl) [.t 4 (.one (.d (.val (.bool false))))] ⟨⟨rfl, rfl⟩, trivial⟩ [] (by have e1 : ((decide (a = b)) : Bool) = false := (by first | exact decide_eq_false (fun h => hq1 (congrArg (fun (l : List (List UInt8)) => ((l.length : Nat) : Int)) h)) | exact decide_eq_false (fun h => hq3 (congrArg (fun (l : List (List UInt8)) => l.getD k []) h)) | exact decide_eq_true (rows_eq (z := []) (k := k) (by omega) (by omega) hb)); have hE := congrArg (fun (q1 : Bool) => (dv (.bool q1) : AV)) e1; exact hE) rfl rfl rfl rfl rfl trivial
  · refine T.condF (b := (decide (((a.length : Nat) : Int) ≠ ((b.length : Nat) : Int)))) rfl (decide_eq_false hq1) ?_
    refine T.skip ?_
    refine nT ?_
    refine T.seq ?_
    refine T.seq ?_
    refine tR (s1 := ⟨[slV ta na (kSl sa kU8) a, slV tb nb (kSl sb kU8) b, AV.any, AV.any, dv (.bool false), dv (.int .i64 0), AV.any, AV.any, AV.any, AV.any, dv (.bool (decide (((a.length : Nat) : Int) ≠ ((b.length : Nat) : Int))))], []⟩) [true, true, false, false, true, true, false, false, false, false, true] []
      (oC (oS rfl rfl (r_assign (av := dv (.int .i64 0)) (lt_of rfl) ⟨rfl, trivial⟩)) (oZ rfl))
      (by kernel_rfl) (by kernel_rfl) ?_
    refine nT ?_
    refine T.block ?_
    refine T.loop (ι := Nat) (fun (k : Nat) => ⟨[slV ta na (kSl sa kU8) a, slV tb nb (kSl sb kU8) b, AV.any, AV.any, dv (.bool false), dv (.int .i64 ((k : Nat) : Int)), AV.any, AV.any, AV.any, AV.any, dv (.bool (decide (((a.length : Nat) : Int) ≠ ((b.length : Nat) : Int))))], []⟩) (fun (k : Nat) => (k ≤ a.length) ∧ (∀ j, j < k → a.getD j [] = b.getD j [])) (fun (k : Nat) => a.length - k) (0) ⟨(Nat.zero_le _), (fun j hj => absurd hj (Nat.not_lt_zero _))⟩ (fun _ _ hG => Gs.into2 (s := ⟨[slV ta na (kSl sa kU8) a, slV tb nb (kSl sb kU8) b, AV.any, AV.any, dv (.bool false), dv (.int .i64 0), AV.any, AV.any, AV.any, AV.any, dv (.bool (decide (((a.length : Nat) : Int) ≠ ((b.length : Nat) : Int))))], []⟩) (s' := ⟨[slV ta na (kSl sa kU8) a, slV tb nb (kSl sb kU8) b, AV.any, AV.any, dv (.bool false), dv (.int .i64 0), AV.any, AV.any, AV.any, AV.any, dv (.bool (decide (((a.length : Nat) : Int) ≠ ((b.length : Nat) : Int))))], []⟩) [] [true, true, false, false, true, true, false, false, false, false, true] (t1 := [slV ta na (kSl sa kU8) a, slV tb nb (kSl sb kU8) b, AV.any, AV.any, dv (.bool false), dv (.int .i64 0), AV.any, AV.any, AV.any, AV.any, dv (.bool (decide (((a.length : Nat) : Int) ≠ ((b.length : Nat) : Int))))]) (t2 := [slV ta na (kSl sa kU8) a, slV tb nb (kSl sb kU8) b, AV.any, AV.any, dv (.bool false), dv (.int .i64 0), AV.any, AV.any, AV.any, AV.any, dv (.bool (decide (((a.length : Nat) : Int) ≠ ((b.length : Nat) : Int))))]) (h1 := []) (h2 := []) rfl rfl (by kernel_rfl) (by kernel_rfl) (by kernel_rfl) (by kernel_rfl) (by kernel_rfl) (by kernel_rfl) (by kernel_rfl) (by kernel_rfl) (by kernel_rfl) (by kernel_rfl) (by kernel_rfl) hG) ?_
    rintro k ⟨hk, hb⟩
    show T _ _ ⟨[slV ta na (kSl sa kU8) a, slV tb nb (kSl sb kU8) b, AV.any, AV.any, dv (.bool false), dv (.int .i64 ((k : Nat) : Int)), AV.any, AV.any, AV.any, AV.any, dv (.bool (decide (((a.length : Nat) : Int) ≠ ((b.length : Nat) : Int))))], []⟩ _ _
    replace hk : k ≤ a.length := hk
    replace hb : ∀ j, j < k → a.getD j [] = b.getD j [] := hb
    refine T.seq ?_
    refine T.seq ?_
    refine tR (s1 := ⟨[slV ta na (kSl sa kU8) a, slV tb nb (kSl sb kU8) b, AV.any, AV.any, dv (.bool false), dv (.int .i64 ((k : Nat) : Int)), AV.any, AV.any, AV.any, AV.any, dv (.bool (decide (((a.length : Nat) : Int) ≠ ((b.length : Nat) : Int)))), AV.any, AV.any, AV.any, dv (.bool (decide (((k : Nat) : Int) < ((a.length : Nat) : Int))))], []⟩) [true, true, false, false, true, true, false, false, false, false, true, false, false, false, true] []
      (oC (oS rfl rfl (r_move (av := dv (.int .i64 ((k : Nat) : Int))) (lt_of rfl) trivial))
      (oC (oS rfl rfl (r_move (av := slV ta na (kSl sa kU8) a) (lt_of rfl) trivial))
      (oC (oS rfl rfl (q_len ta na (kSl sa kU8) a Try.underlying22 (lt_of rfl) trivial))
      (oC (oS rfl rfl (r_bin (u1 := .int .i64 ((k : Nat) : Int)) (u2 := .int .i64 ((a.length : Nat) : Int)) (v := .bool (decide (((k : Nat) : Int) < ((a.length : Nat) : Int)))) b_lss (lt_of rfl) trivial)) (oZ rfl)))))
      (by kernel_rfl) (by kernel_rfl) ?_
    refine nT ?_
    by_cases hq2 : ((k : Nat) : Int) < ((a.length : Nat) : Int)
    · refine T.condT (b := (decide (((k : Nat) : Int) < ((a.length : Nat) : Int)))) rfl (decide_eq_true hq2) ?_
      refine T.skip ?_
      refine nT ?_
      refine T.seq ?_
      refine T.block ?_
      refine T.seq ?_
      refine tD (s1 := ⟨[slV ta na (kSl sa kU8) a, slV tb nb (kSl sb kU8) b, AV.any, AV.any, dv (.bool false), dv (.int .i64 ((k : Nat) : Int)), AV.any, AV.any, AV.any, AV.any, dv (.bool (decide (((a.length : Nat) : Int) ≠ ((b.length : Nat) : Int)))), AV.any, AV.any, AV.any, dv (.bool (decide (((k : Nat) : Int) < ((a.length : Nat) : Int)))), AV.any, AV.any, AV.any, AV.any, AV.any, AV.any, AV.any, AV.any, AV.any, AV.any, AV.any, dv (.bool (!(decide ((a.getD k []) = (b.getD k [])))))], []⟩) (by kernel_rfl) [[], [], [0, 1], [0, 1, 2], [], [], [4, 5], [4, 5, 6], [0, 1, 2, 3, 4, 5, 6, 7], [0, 1, 2, 3, 4, 5, 6, 7, 8]] [true, true, false, false, true, true, false, false, false, false, true, false, false, false, true, false, false, false, false, false, false, false, false, false, false, false, true] []
        (oC (oS rfl rfl (r_move (av := slV ta na (kSl sa kU8) a) (lt_of rfl) trivial))
        (oC (oS rfl rfl (r_move (av := dv (.int .i64 ((k : Nat) : Int))) (lt_of rfl) trivial))
        (oC (oS rfl rfl (q_index ta na (kSl sa kU8) a k (k := .i64) (i := ((k : Nat) : Int)) Try.underlying22 iat_37 rfl rfl (by first | assumption | omega | (simp only [maxLen, kU8_sz, kSl_sz, k_arr_2_uint8_sz, k_arr_2_api_Digest_sz]; omega) | (simp only [maxLen, kU8_sz, kSl_sz, k_arr_2_uint8_sz, k_arr_2_api_Digest_sz, List.length_append, List.length_cons, List.length_nil, List.length_take, List.length_drop, List.length_set]; omega) | decide) (lt_of rfl) trivial))
        (oC (oS rfl rfl (r_loadE (tag := ta) (n := 1) (el := (kSl sa kU8).cell (a.getD k (kSl sa kU8).z)) (e0 := dsl sa false kU8 (a.getD k [])) wide_37 (by decide) rfl (lt_of rfl) trivial))
        (oC (oS rfl rfl (r_move (av := slV tb nb (kSl sb kU8) b) (lt_of rfl) trivial))
        (oC (oS rfl rfl (r_move (av := dv (.int .i64 ((k : Nat) : Int))) (lt_of rfl) trivial))
        (oC (oS rfl rfl (q_index tb nb (kSl sb kU8) b k (k := .i64) (i := ((k : Nat) : Int)) Try.underlying22 iat_37 rfl rfl (by first | assumption | omega | (simp only [maxLen, kU8_sz, kSl_sz, k_arr_2_uint8_sz, k_arr_2_api_Digest_sz]; omega) | (simp only [maxLen, kU8_sz, kSl_sz, k_arr_2_uint8_sz, k_arr_2_api_Digest_sz, List.length_append, List.length_cons, List.length_nil, List.length_take, List.length_drop, List.length_set]; omega) | decide) (lt_of rfl) trivial))
        (oC (oS rfl rfl (r_loadE (tag := tb) (n := 1) (el := (kSl sb kU8).cell (b.getD k (kSl sb kU8).z)) (e0 := dsl sb false kU8 (b.getD k [])) wide_37 (by decide) rfl (lt_of rfl) trivial))
        (oC (oS rfl rfl (r_call (ref01_Same sa false sb false (a.getD k []) (b.getD k []) ) Try.func21 rfl (by decide) [] [] (l := [(.tmp 20, slV sa false kU8 (a.getD k [])), (.tmp 24, slV sb false kU8 (b.getD k []))]) [] rfl 0 0 rfl rfl rfl rfl rfl rfl rfl rfl rfl ⟨.inl ⟨rfl, rfl⟩, ⟨.inl ⟨rfl, rfl⟩, trivial⟩⟩ rfl (fun b hb => by cases hb) (.inl rfl) (lt_of rfl) trivial))
        (oC (oS rfl rfl (r_un (u := .bool (decide ((a.getD k []) = (b.getD k [])))) (v := .bool (!(decide ((a.getD k []) = (b.getD k []))))) u_not (lt_of rfl) trivial)) (oZ rfl)))))))))))
        (by kernel_rfl) (by kernel_rfl) (by kernel_rfl) (by kernel_rfl) (by kernel_rfl) ?_
      refine nT ?_
      by_cases hq3 : (a.getD k []) = (b.getD k [])
      · refine T.condF (b := (!(decide ((a.getD k []) = (b.getD k []))))) rfl (congrArg Bool.not (decide_eq_true hq3)) ?_
        refine T.skip ?_
        refine nB ?_
        refine nT ?_
        refine tR (s1 := ⟨[slV ta na (kSl sa kU8) a, slV tb nb (kSl sb kU8) b, AV.any, AV.any, dv (.bool false), dv (.int .i64 ((k + 1 : Nat) : Int)), AV.any, AV.any, AV.any, AV.any, dv (.bool (decide (((a.length : Nat) : Int) ≠ ((b.length : Nat) : Int)))), AV.any, AV.any, AV.any, dv (.bool (decide (((k : Nat) : Int) < ((a.length : Nat) : Int)))), AV.any, AV.any, AV.any, AV.any, AV.any, AV.any, AV.any, AV.any, AV.any, AV.any, AV.any, dv (.bool (!(decide ((a.getD k []) = (b.getD k [])))))], []⟩) [true, true, false, false, true, true, false, false, false, false, true, false, false, false, true, false, false, false, false, false, false, false, false, false, false, false, true] []
          (oC (oS rfl rfl (r_move (av := dv (.int .i64 ((k : Nat) : Int))) (lt_of rfl) trivial))
          (oC (oS rfl rfl (r_bin (u1 := .int .i64 ((k : Nat) : Int)) (u2 := .int .i64 1) (v := .int .i64 ((k + 1 : Nat) : Int)) (b_add (by rw [IntKind.wrap_i64]; omega)) (lt_of rfl) ⟨rfl, trivial⟩))
          (oC (oS rfl rfl (r_assign (av := dv (.int .i64 ((k + 1 : Nat) : Int))) (lt_of rfl) trivial)) (oZ rfl))))
          (by kernel_rfl) (by kernel_rfl) ?_
        refine nL (k + 1) ⟨(show (k + 1) ≤ a.length from (by omega)), (show ∀ j, j < (k + 1) → a.getD j [] = b.getD j [] from (all_succ hb (by assumption)))⟩ (show (a.length - (k + 1) : Nat) < a.length - k from (by omega)) (fun _ _ hG => Gs.into2 (s := ⟨[slV ta na (kSl sa kU8) a, slV tb nb (kSl sb kU8) b, AV.any, AV.any, dv (.bool false), dv (.int .i64 ((k + 1 : Nat) : Int)), AV.any, AV.any, AV.any, AV.any, dv (.bool (decide (((a.length : Nat) : Int) ≠ ((b.length : Nat) : Int)))), AV.any, AV.any, AV.any, dv (.bool (decide (((k : Nat) : Int) < ((a.length : Nat) : Int)))), AV.any, AV.any, AV.any, AV.any, AV.any, AV.any, AV.any, AV.any, AV.any, AV.any, AV.any, dv (.bool (!(decide ((a.getD k []) = (b.getD k [])))))], []⟩) (s' := ⟨[slV ta na (kSl sa kU8) a, slV tb nb (kSl sb kU8) b, AV.any, AV.any, dv (.bool false), dv (.int .i64 ((k + 1 : Nat) : Int)), AV.any, AV.any, AV.any, AV.any, dv (.bool (decide (((a.length : Nat) : Int) ≠ ((b.length : Nat) : Int))))], []⟩) [] [true, true, false, false, true, true, false, false, false, false, true] (t1 := [slV ta na (kSl sa kU8) a, slV tb nb (kSl sb kU8) b, AV.any, AV.any, dv (.bool false), dv (.int .i64 ((k + 1 : Nat) : Int)), AV.any, AV.any, AV.any, AV.any, dv (.bool (decide (((a.length : Nat) : Int) ≠ ((b.length : Nat) : Int))))]) (t2 := [slV ta na (kSl sa kU8) a, slV tb nb (kSl sb kU8) b, AV.any, AV.any, dv (.bool false), dv (.int .i64 ((k + 1 : Nat) : Int)), AV.any, AV.any, AV.any, AV.any, dv (.bool (decide (((a.length : Nat) : Int) ≠ ((b.length : Nat) : Int))))]) (h1 := []) (h2 := []) rfl rfl (by kernel_rfl) (by kernel_rfl) (by kernel_rfl) (by kernel_rfl) (by kernel_rfl) (by kernel_rfl) (by kernel_rfl) (by kernel_rfl) (by kernel_rfl) (by kernel_rfl) (by kernel_rfl) hG)
      · refine T.condT (b := (!(decide ((a.getD k []) = (b.getD k []))))) rfl (congrArg Bool.not (decide_eq_false hq3)) ?_
        refine T.seq ?_
        refine tR (s1 := ⟨[slV ta na (kSl sa kU8) a, slV tb nb (kSl sb kU8) b, AV.any, AV.any, dv (.bool false), dv (.int .i64 ((k : Nat) : Int)), AV.any, AV.any, AV.any, AV.any, dv (.bool (decide (((a.length : Nat) : Int) ≠ ((b.length : Nat) : Int)))), AV.any, AV.any, AV.any, dv (.bool (decide (((k : Nat) : Int) < ((a.length : Nat) : Int)))), AV.any, AV.any, AV.any, AV.any, AV.any, AV.any, AV.any, AV.any, AV.any, AV.any, AV.any, dv (.bool (!(decide ((a.getD k []) = (b.getD k [])))))], []⟩) [true, true, false, false, true, true, false, false, false, false, true, false, false, false, true, false, false, false, false, false, false, false, false, false, false, false, true] []
          (oC (oS rfl rfl (r_assign (av := dv (.bool false)) (lt_of rfl) ⟨rfl, trivial⟩)) (oZ rfl))
          (by kernel_rfl) (by kernel_rfl) ?_
        refine nT ?_
        refine T.ret ?_
        refine rB ?_
        refine rT ?_
        refine rT ?_
        refine rB ?_
        refine rT ?_
        exact tE (.inl rfl) [.t 4 (.one (.d (.val (.bool false))))] ⟨⟨rfl, rfl⟩, trivial⟩ [] (by have e1 : ((decide (a = b)) : Bool) = false := (by first | exact decide_eq_false (fun h => hq1 (congrArg (fun (l : List (List UInt8)) => ((l.length : Nat) : Int)) h)) | exact decide_eq_false (fun h => hq3 (congrArg (fun (l : List (List UInt8)) => l.getD k []) h)) | exact decide_eq_true (rows_eq (z := []) (k := k) (by omega) (by omega) hb)); have hE := congrArg (fun (q1 : Bool) => (dv (.bool q1) : AV)) e1; exact hE) rfl rfl rfl rfl rfl trivial
    · refine T.condF (b := (decide (((k : Nat) : Int) < ((a.length : Nat) : Int)))) rfl (decide_eq_false hq2) ?_
      refine T.exit ?_
      refine xT ?_
      refine xT ?_
      refine xH ?_
      refine nT ?_
      refine T.seq ?_
      refine tR (s1 := ⟨[slV ta na (kSl sa kU8) a, slV tb nb (kSl sb kU8) b, AV.any, AV.any, dv (.bool true), dv (.int .i64 ((k : Nat) : Int)), AV.any, AV.any, AV.any, AV.any, dv (.bool (decide (((a.length : Nat) : Int) ≠ ((b.length : Nat) : Int)))), AV.any, AV.any, AV.any, dv (.bool (decide (((k : Nat) : Int) < ((a.length : Nat) : Int))))], []⟩) [true, true, false, false, true, true, false, false, false, false, true, false, false, false, true] []
        (oC (oS rfl rfl (r_assign (av := dv (.bool true)) (lt_of rfl) ⟨rfl, trivial⟩)) (oZ rfl))
        (by kernel_rfl) (by kernel_rfl) ?_
      refine nT ?_
      refine T.ret ?_
      exact tE (.inl rfl) [.t 4 (.one (.d (.val (.bool true))))] ⟨⟨rfl, rfl⟩, trivial⟩ [] (by have e1 : ((decide (a = b)) : Bool) = true := (by first | exact decide_eq_false (fun h => hq1 (congrArg (fun (l : List (List UInt8)) => ((l.length : Nat) : Int)) h)) | exact decide_eq_false (fun h => hq3 (congrArg (fun (l : List (List UInt8)) => l.getD k []) h)) | exact decide_eq_true (rows_eq (z := []) (k := k) (by omega) (by omega) hb)); have hE := congrArg (fun (q1 : Bool) => (dv (.bool q1) : AV)) e1; exact hE) rfl rfl rfl rfl rfl trivial

-- quaestor/quaestorlaw02.few
theorem law_few (tl : Bool) (nl : Bool) (sl_ : Bool) (l : List (List UInt8)) (hl : l.length ≤ 9223372036854775807) : Holds Try.prog 9 ⟨[slV tl nl (kSl sl_ kU8) l], [], dv (.bool (decide (fewG szL 100 2000 l))), []⟩ := by
  refine Holds.of Try.func9 rfl (N := 19) Try.ntmps9 rfl fun w0 B0 S0 U0 => ?_
  show T _ (mkBase 19 0 w0 S0 U0 B0) ⟨[slV tl nl (kSl sl_ kU8) l], []⟩ _ _
  refine T.seq ?_
  refine tR (s1 := ⟨[slV tl nl (kSl sl_ kU8) l, AV.any, dv (.bool false)], []⟩) [true, false, true] []
    (oC (oS rfl rfl (r_assign (av := dv (.bool false)) (lt_of rfl) ⟨rfl, trivial⟩)) (oZ rfl))
    (by kernel_rfl) (by kernel_rfl) ?_
  refine nT ?_
  refine T.seq ?_
  refine T.seq ?_
  refine tR (s1 := ⟨[slV tl nl (kSl sl_ kU8) l, AV.any, dv (.bool false), AV.any, AV.any, AV.any, dv (.bool (decide (((l.length : Nat) : Int) > 100)))], []⟩) [true, false, true, false, false, false, true] []
    (oC (oS rfl rfl (r_move (av := slV tl nl (kSl sl_ kU8) l) (lt_of rfl) trivial))
    (oC (oS rfl rfl (q_len tl nl (kSl sl_ kU8) l Try.underlying22 (lt_of rfl) trivial))
    (oC (oS rfl rfl (r_bin (u1 := .int .i64 ((l.length : Nat) : Int)) (u2 := .int .i64 100) (v := .bool (decide (((l.length : Nat) : Int) > 100))) b_gtr (lt_of rfl) ⟨rfl, trivial⟩)) (oZ rfl))))
    (by kernel_rfl) (by kernel_rfl) ?_
  refine nT ?_
  by_cases hq1 : ((l.length : Nat) : Int) > 100
  · refine T.condT (b := (decide (((l.length : Nat) : Int) > 100))) rfl (decide_eq_true hq1) ?_
    refine T.seq ?_
    refine tR (s1 := ⟨[slV tl nl (kSl sl_ kU8) l, AV.any, dv (.bool false), AV.any, AV.any, AV.any, dv (.bool (decide (((l.length : Nat) : Int) > 100)))], []⟩) [true, false, true, false, false, false, true] []
      (oC (oS rfl rfl (r_assign (av := dv (.bool false)) (lt_of rfl) ⟨rfl, trivial⟩)) (oZ rfl))
      (by kernel_rfl) (by kernel_rfl) ?_
    refine nT ?_
    refine T.ret ?_
    refine rT ?_
    exact tE (.inl rfl) [.t 2 (.one (.d (.val (.bool false))))] ⟨⟨rfl, rfl⟩, trivial⟩ [] (by have e1 : ((decide (fewG szL 100 2000 l)) : Bool) = false := (by first | exact decide_eq_false (fewG_no1 hq1 rfl) | exact decide_eq_false (fewG_no2 (z := []) (k := k) (by omega) hq3 rfl) | exact decide_eq_true (fewG_yes (z := []) (k := k) hq1 rfl (by omega) hb)); have hE := congrArg (fun (q1 : Bool) => (dv (.bool q1) : AV)) e1; exact hE) rfl rfl rfl rfl rfl trivial
  · refine T.condF (b := (decide (((l.length : Nat) : Int) > 100))) rfl (decide_eq_false hq1) ?_
    refine T.skip ?_
    refine nT ?_
    refine T.seq ?_
    refine T.seq ?_
    refine tR (s1 := ⟨[slV tl nl (kSl sl_ kU8) l, AV.any, dv (.bool false), dv (.int .i64 0), AV.any, AV.any, dv (.bool (decide (((l.length : Nat) : Int) > 100)))], []⟩) [true, false, true, true, false, false, true] []
      (oC (oS rfl rfl (r_assign (av := dv (.int .i64 0)) (lt_of rfl) ⟨rfl, trivial⟩)) (oZ rfl))
      (by kernel_rfl) (by kernel_rfl) ?_
    refine nT ?_
    refine T.block ?_
    refine T.loop (ι := Nat) (fun (k : Nat) => ⟨[slV tl nl (kSl sl_ kU8) l, AV.any, dv (.bool false), dv (.int .i64 ((k : Nat) : Int)), AV.any, AV.any, dv (.bool (decide (((l.length : Nat) : Int) > 100)))], []⟩) (fun (k : Nat) => (k ≤ l.length) ∧ (∀ j, j < k → szL (l.getD j []) ≤ 2000)) (fun (k : Nat) => l.length - k) (0) ⟨(Nat.zero_le _), (fun j hj => absurd hj (Nat.not_lt_zero _))⟩ (fun _ _ hG => Gs.into2 (s := ⟨[slV tl nl (kSl sl_ kU8) l, AV.any, dv (.bool false), dv (.int .i64 0), AV.any, AV.any, dv (.bool (decide (((l.length : Nat) : Int) > 100)))], []⟩) (s' := ⟨[slV tl nl (kSl sl_ kU8) l, AV.any, dv (.bool false), dv (.int .i64 0), AV.any, AV.any, dv (.bool (decide (((l.length : Nat) : Int) > 100)))], []⟩) [] [true, false, true, true, false, false, true] (t1 := [slV tl nl (kSl sl_ kU8) l, AV.any, dv (.bool false), dv (.int .i64 0), AV.any, AV.any, dv (.bool (decide (((l.length : Nat) : Int) > 100)))]) (t2 := [slV tl nl (kSl sl_ kU8) l, AV.any, dv (.bool false), dv (.int .i64 0), AV.any, AV.any, dv (.bool (decide (((l.length : Nat) : Int) > 100)))]) (h1 := []) (h2 := []) rfl rfl (by kernel_rfl) (by kernel_rfl) (by kernel_rfl) (by kernel_rfl) (by kernel_rfl) (by kernel_rfl) (by kernel_rfl) (by kernel_rfl) (by kernel_rfl) (by kernel_rfl) (by kernel_rfl) hG) ?_
    rintro k ⟨hk, hb⟩
    show T _ _ ⟨[slV tl nl (kSl sl_ kU8) l, AV.any, dv (.bool false), dv (.int .i64 ((k : Nat) : Int)), AV.any, AV.any, dv (.bool (decide (((l.length : Nat) : Int) > 100)))], []⟩ _ _
    replace hk : k ≤ l.length := hk
    replace hb : ∀ j, j < k → szL (l.getD j []) ≤ 2000 := hb
    refine T.seq ?_
    refine T.seq ?_
    refine tR (s1 := ⟨[slV tl nl (kSl sl_ kU8) l, AV.any, dv (.bool false), dv (.int .i64 ((k : Nat) : Int)), AV.any, AV.any, dv (.bool (decide (((l.length : Nat) : Int) > 100))), AV.any, AV.any, AV.any, dv (.bool (decide (((k : Nat) : Int) < ((l.length : Nat) : Int))))], []⟩) [true, false, true, true, false, false, true, false, false, false, true] []
      (oC (oS rfl rfl (r_move (av := dv (.int .i64 ((k : Nat) : Int))) (lt_of rfl) trivial))
      (oC (oS rfl rfl (r_move (av := slV tl nl (kSl sl_ kU8) l) (lt_of rfl) trivial))
      (oC (oS rfl rfl (q_len tl nl (kSl sl_ kU8) l Try.underlying22 (lt_of rfl) trivial))
      (oC (oS rfl rfl (r_bin (u1 := .int .i64 ((k : Nat) : Int)) (u2 := .int .i64 ((l.length : Nat) : Int)) (v := .bool (decide (((k : Nat) : Int) < ((l.length : Nat) : Int)))) b_lss (lt_of rfl) trivial)) (oZ rfl)))))
      (by kernel_rfl) (by kernel_rfl) ?_
    refine nT ?_
    by_cases hq2 : ((k : Nat) : Int) < ((l.length : Nat) : Int)
    · refine T.condT (b := (decide (((k : Nat) : Int) < ((l.length : Nat) : Int)))) rfl (decide_eq_true hq2) ?_
      refine T.skip ?_
      refine nT ?_
      refine T.seq ?_
      refine T.block ?_
      refine T.seq ?_
      refine tR (s1 := ⟨[slV tl nl (kSl sl_ kU8) l, AV.any, dv (.bool false), dv (.int .i64 ((k : Nat) : Int)), AV.any, AV.any, dv (.bool (decide (((l.length : Nat) : Int) > 100))), AV.any, AV.any, AV.any, dv (.bool (decide (((k : Nat) : Int) < ((l.length : Nat) : Int)))), AV.any, AV.any, AV.any, AV.any, AV.any, AV.any, AV.any, dv (.bool (decide ((((l.getD k []).length : Nat) : Int) > 2000)))], []⟩) [true, false, true, true, false, false, true, false, false, false, true, false, false, false, false, false, false, false, true] []
        (oC (oS rfl rfl (r_move (av := slV tl nl (kSl sl_ kU8) l) (lt_of rfl) trivial))
        (oC (oS rfl rfl (r_move (av := dv (.int .i64 ((k : Nat) : Int))) (lt_of rfl) trivial))
        (oC (oS rfl rfl (q_index tl nl (kSl sl_ kU8) l k (k := .i64) (i := ((k : Nat) : Int)) Try.underlying22 iat_37 rfl rfl (by first | assumption | omega | (simp only [maxLen, kU8_sz, kSl_sz, k_arr_2_uint8_sz, k_arr_2_api_Digest_sz]; omega) | (simp only [maxLen, kU8_sz, kSl_sz, k_arr_2_uint8_sz, k_arr_2_api_Digest_sz, List.length_append, List.length_cons, List.length_nil, List.length_take, List.length_drop, List.length_set]; omega) | decide) (lt_of rfl) trivial))
        (oC (oS rfl rfl (r_loadE (tag := tl) (n := 1) (el := (kSl sl_ kU8).cell (l.getD k (kSl sl_ kU8).z)) (e0 := dsl sl_ false kU8 (l.getD k [])) wide_37 (by decide) rfl (lt_of rfl) trivial))
        (oC (oS rfl rfl (q_len sl_ false kU8 (l.getD k []) Try.underlying37 (lt_of rfl) trivial))
        (oC (oS rfl rfl (r_bin (u1 := .int .i64 (((l.getD k []).length : Nat) : Int)) (u2 := .int .i64 2000) (v := .bool (decide ((((l.getD k []).length : Nat) : Int) > 2000))) b_gtr (lt_of rfl) ⟨rfl, trivial⟩)) (oZ rfl)))))))
        (by kernel_rfl) (by kernel_rfl) ?_
      refine nT ?_
      by_cases hq3 : (((l.getD k []).length : Nat) : Int) > 2000
      · refine T.condT (b := (decide ((((l.getD k []).length : Nat) : Int) > 2000))) rfl (decide_eq_true hq3) ?_
        refine T.seq ?_
        refine tR (s1 := ⟨[slV tl nl (kSl sl_ kU8) l, AV.any, dv (.bool false), dv (.int .i64 ((k : Nat) : Int)), AV.any, AV.any, dv (.bool (decide (((l.length : Nat) : Int) > 100))), AV.any, AV.any, AV.any, dv (.bool (decide (((k : Nat) : Int) < ((l.length : Nat) : Int)))), AV.any, AV.any, AV.any, AV.any, AV.any, AV.any, AV.any, dv (.bool (decide ((((l.getD k []).length : Nat) : Int) > 2000)))], []⟩) [true, false, true, true, false, false, true, false, false, false, true, false, false, false, false, false, false, false, true] []
          (oC (oS rfl rfl (r_assign (av := dv (.bool false)) (lt_of rfl) ⟨rfl, trivial⟩)) (oZ rfl))
          (by kernel_rfl) (by kernel_rfl) ?_
        refine nT ?_
        refine T.ret ?_
        refine rB ?_
        refine rT ?_
        refine rT ?_
        refine rB ?_
        refine rT ?_
        exact tE (.inl rfl) [.t 2 (.one (.d (.val (.bool false))))] ⟨⟨rfl, rfl⟩, trivial⟩ [] (by have e1 : ((decide (fewG szL 100 2000 l)) : Bool) = false := (by first | exact decide_eq_false (fewG_no1 hq1 rfl) | exact decide_eq_false (fewG_no2 (z := []) (k := k) (by omega) hq3 rfl) | exact decide_eq_true (fewG_yes (z := []) (k := k) hq1 rfl (by omega) hb)); have hE := congrArg (fun (q1 : Bool) => (dv (.bool q1) : AV)) e1; exact hE) rfl rfl rfl rfl rfl trivial
      · refine T.condF (b := (decide ((((l.getD k []).length : Nat) : Int) > 2000))) rfl (decide_eq_false hq3) ?_
        refine T.skip ?_
        refine nB ?_
        refine nT ?_
        refine tR (s1 := ⟨[slV tl nl (kSl sl_ kU8) l, AV.any, dv (.bool false), dv (.int .i64 ((k + 1 : Nat) : Int)), AV.any, AV.any, dv (.bool (decide (((l.length : Nat) : Int) > 100))), AV.any, AV.any, AV.any, dv (.bool (decide (((k : Nat) : Int) < ((l.length : Nat) : Int)))), AV.any, AV.any, AV.any, AV.any, AV.any, AV.any, AV.any, dv (.bool (decide ((((l.getD k []).length : Nat) : Int) > 2000)))], []⟩) [true, false, true, true, false, false, true, false, false, false, true, false, false, false, false, false, false, false, true] []
          (oC (oS rfl rfl (r_move (av := dv (.int .i64 ((k : Nat) : Int))) (lt_of rfl) trivial))
          (oC (oS rfl rfl (r_bin (u1 := .int .i64 ((k : Nat) : Int)) (u2 := .int .i64 1) (v := .int .i64 ((k + 1 : Nat) : Int)) (b_add (by rw [IntKind.wrap_i64]; omega)) (lt_of rfl) ⟨rfl, trivial⟩))
          (oC (oS rfl rfl (r_assign (av := dv (.int .i64 ((k + 1 : Nat) : Int))) (lt_of rfl) trivial)) (oZ rfl))))
          (by kernel_rfl) (by kernel_rfl) ?_
        refine nL (k + 1) ⟨(show (k + 1) ≤ l.length from (by omega)), (show ∀ j, j < (k + 1) → szL (l.getD j []) ≤ 2000 from (all_succ hb (by have h9 : (((l.getD k []).length : Nat) : Int) ≤ 2000 := (by omega); exact Int.ofNat_le.1 h9)))⟩ (show (l.length - (k + 1) : Nat) < l.length - k from (by omega)) (fun _ _ hG => Gs.into2 (s := ⟨[slV tl nl (kSl sl_ kU8) l, AV.any, dv (.bool false), dv (.int .i64 ((k + 1 : Nat) : Int)), AV.any, AV.any, dv (.bool (decide (((l.length : Nat) : Int) > 100))), AV.any, AV.any, AV.any, dv (.bool (decide (((k : Nat) : Int) < ((l.length : Nat) : Int)))), AV.any, AV.any, AV.any, AV.any, AV.any, AV.any, AV.any, dv (.bool (decide ((((l.getD k []).length : Nat) : Int) > 2000)))], []⟩) (s' := ⟨[slV tl nl (kSl sl_ kU8) l, AV.any, dv (.bool false), dv (.int .i64 ((k + 1 : Nat) : Int)), AV.any, AV.any, dv (.bool (decide (((l.length : Nat) : Int) > 100)))], []⟩) [] [true, false, true, true, false, false, true] (t1 := [slV tl nl (kSl sl_ kU8) l, AV.any, dv (.bool false), dv (.int .i64 ((k + 1 : Nat) : Int)), AV.any, AV.any, dv (.bool (decide (((l.length : Nat) : Int) > 100)))]) (t2 := [slV tl nl (kSl sl_ kU8) l, AV.any, dv (.bool false), dv (.int .i64 ((k + 1 : Nat) : Int)), AV.any, AV.any, dv (.bool (decide (((l.length : Nat) : Int) > 100)))]) (h1 := []) (h2 := []) rfl rfl (by kernel_rfl) (by kernel_rfl) (by kernel_rfl) (by kernel_rfl) (by kernel_rfl) (by kernel_rfl) (by kernel_rfl) (by kernel_rfl) (by kernel_rfl) (by kernel_rfl) (by kernel_rfl) hG)
    · refine T.condF (b := (decide (((k : Nat) : Int) < ((l.length : Nat) : Int)))) rfl (decide_eq_false hq2) ?_
      refine T.exit ?_
      refine xT ?_
      refine xT ?_
      refine xH ?_
      refine nT ?_
      refine T.seq ?_
      refine tR (s1 := ⟨[slV tl nl (kSl sl_ kU8) l, AV.any, dv (.bool true), dv (.int .i64 ((k : Nat) : Int)), AV.any, AV.any, dv (.bool (decide (((l.length : Nat) : Int) > 100))), AV.any, AV.any, AV.any, dv (.bool (decide (((k : Nat) : Int) < ((l.length : Nat) : Int))))], []⟩) [true, false, true, true, false, false, true, false, false, false, true] []
        (oC (oS rfl rfl (r_assign (av := dv (.bool true)) (lt_of rfl) ⟨rfl, trivial⟩)) (oZ rfl))
        (by kernel_rfl) (by kernel_rfl) ?_
      refine nT ?_
      refine T.ret ?_
      exact tE (.inl rfl) [.t 2 (.one (.d (.val (.bool true))))] ⟨⟨rfl, rfl⟩, trivial⟩ [] (by have e1 : ((decide (fewG szL 100 2000 l)) : Bool) = true := (by first | exact decide_eq_false (fewG_no1 hq1 rfl) | exact decide_eq_false (fewG_no2 (z := []) (k := k) (by omega) hq3 rfl) | exact decide_eq_true (fewG_yes (z := []) (k := k) hq1 rfl (by omega) hb)); have hE := congrArg (fun (q1 : Bool) => (dv (.bool q1) : AV)) e1; exact hE) rfl rfl rfl rfl rfl trivial

-- quaestor/quaestorlaw02.twin
theorem law_twin (tl : Bool) (nl : Bool) (sl_ : Bool) (l : List (List UInt8)) (hf : fewG szL 100 2000 l) : Holds Try.prog 10 ⟨[slV tl nl (kSl sl_ kU8) l], [], ownV 0 (kSl false kU8) 0 l.length, [.live (arrK 37 (kSl false kU8) l)]⟩ := by
  refine Holds.of Try.func10 rfl (N := 21) Try.ntmps10 rfl fun w0 B0 S0 U0 => ?_
  show T _ (mkBase 21 0 w0 S0 U0 B0) ⟨[slV tl nl (kSl sl_ kU8) l], []⟩ _ _
  refine T.seq ?_
  refine tR (s1 := ⟨[slV tl nl (kSl sl_ kU8) l, AV.any, dv (.slice none 0 0)], []⟩) [true, false, true] []
    (oC (oS rfl rfl (r_assign (av := dv (.slice none 0 0)) (lt_of rfl) ⟨rfl, trivial⟩)) (oZ rfl))
    (by kernel_rfl) (by kernel_rfl) ?_
  refine nT ?_
  refine T.seq ?_
  refine tR (s1 := ⟨[slV tl nl (kSl sl_ kU8) l, AV.any, dv (.slice none 0 0), dv (.slice none 0 0)], []⟩) [true, false, true, true] []
    (oC (oS rfl rfl (r_assign (av := dv (.slice none 0 0)) (lt_of rfl) ⟨rfl, trivial⟩)) (oZ rfl))
    (by kernel_rfl) (by kernel_rfl) ?_
  refine nT ?_
  refine T.seq ?_
  refine T.seq ?_
  refine tR (s1 := ⟨[slV tl nl (kSl sl_ kU8) l, AV.any, dv (.slice none 0 0), dv (.slice none 0 0), dv (.int .i64 0)], []⟩) [true, false, true, true, true] []
    (oC (oS rfl rfl (r_assign (av := dv (.int .i64 0)) (lt_of rfl) ⟨rfl, trivial⟩)) (oZ rfl))
    (by kernel_rfl) (by kernel_rfl) ?_
  refine nT ?_
  refine T.block ?_
  refine T.turn (s' := ⟨[slV tl nl (kSl sl_ kU8) l, AV.any, dv (.slice none 0 0), ownV 0 (kSl false kU8) 0 0, dv (.int .i64 0)], [.live (arrK 37 (kSl false kU8) ([] : List (List UInt8)))]⟩) (fun _ _ hG => Gs.absent 0 3 37 (kSl false kU8) rfl rfl hG) ?_
  refine T.loop (ι := Nat) (fun (k : Nat) => ⟨[slV tl nl (kSl sl_ kU8) l, AV.any, AV.any, ownV 0 (kSl false kU8) 0 (l.take k).length, dv (.int .i64 ((k : Nat) : Int))], [.live (arrK 37 (kSl false kU8) (l.take k))]⟩) (fun (k : Nat) => (k ≤ l.length)) (fun (k : Nat) => l.length - k) (0) (Nat.zero_le _) (fun _ _ hG => Gs.into2 (s := ⟨[slV tl nl (kSl sl_ kU8) l, AV.any, dv (.slice none 0 0), ownV 0 (kSl false kU8) 0 0, dv (.int .i64 0)], [.live (arrK 37 (kSl false kU8) ([] : List (List UInt8)))]⟩) (s' := ⟨[slV tl nl (kSl sl_ kU8) l, AV.any, AV.any, ownV 0 (kSl false kU8) 0 (l.take 0).length, dv (.int .i64 0)], [.live (arrK 37 (kSl false kU8) (l.take 0))]⟩) [0] [true, false, false, true, true] (t1 := [slV tl nl (kSl sl_ kU8) l, AV.any, AV.any, ownV 0 (kSl false kU8) 0 (l.take 0).length, dv (.int .i64 0)]) (t2 := [slV tl nl (kSl sl_ kU8) l, AV.any, AV.any, ownV 0 (kSl false kU8) 0 0, dv (.int .i64 0)]) (h1 := [.live (arrK 37 (kSl false kU8) (l.take 0))]) (h2 := [.live (arrK 37 (kSl false kU8) ([] : List (List UInt8)))]) (by have e1 : ((l.take 0).length : Nat) = 0 := (by rfl); have hE := congrArg (fun (q1 : Nat) => ([slV tl nl (kSl sl_ kU8) l, AV.any, AV.any, ownV 0 (kSl false kU8) 0 q1, dv (.int .i64 0)] : List AV)) e1; exact hE) (by have e1 : ((l.take 0) : List (List UInt8)) = ([] : List (List UInt8)) := (by rfl); have hE := congrArg (fun (q1 : List (List UInt8)) => ([.live (arrK 37 (kSl false kU8) q1)] : List HS)) e1; exact hE) (by kernel_rfl) (by kernel_rfl) (by kernel_rfl) (by kernel_rfl) (by kernel_rfl) (by kernel_rfl) (by kernel_rfl) (by kernel_rfl) (by kernel_rfl) (by kernel_rfl) (by kernel_rfl) hG) ?_
  rintro k hk
  show T _ _ ⟨[slV tl nl (kSl sl_ kU8) l, AV.any, AV.any, ownV 0 (kSl false kU8) 0 (l.take k).length, dv (.int .i64 ((k : Nat) : Int))], [.live (arrK 37 (kSl false kU8) (l.take k))]⟩ _ _
  replace hk : k ≤ l.length := hk
  have hl1 := hf.1
  have hgb : (l.getD k []).length ≤ 2000 := fewG_get (sz := szL) hf (by decide) k
  refine T.seq ?_
  refine T.seq ?_
  refine tR (s1 := ⟨[slV tl nl (kSl sl_ kU8) l, AV.any, AV.any, ownV 0 (kSl false kU8) 0 (l.take k).length, dv (.int .i64 ((k : Nat) : Int)), AV.any, AV.any, AV.any, dv (.bool (decide (((k : Nat) : Int) < ((l.length : Nat) : Int))))], [.live (arrK 37 (kSl false kU8) (l.take k))]⟩) [true, false, false, true, true, false, false, false, true] [true]
    (oC (oS rfl rfl (r_move (av := dv (.int .i64 ((k : Nat) : Int))) (lt_of rfl) trivial))
    (oC (oS rfl rfl (r_move (av := slV tl nl (kSl sl_ kU8) l) (lt_of rfl) trivial))
    (oC (oS rfl rfl (q_len tl nl (kSl sl_ kU8) l Try.underlying22 (lt_of rfl) trivial))
    (oC (oS rfl rfl (r_bin (u1 := .int .i64 ((k : Nat) : Int)) (u2 := .int .i64 ((l.length : Nat) : Int)) (v := .bool (decide (((k : Nat) : Int) < ((l.length : Nat) : Int)))) b_lss (lt_of rfl) trivial)) (oZ rfl)))))
    (by kernel_rfl) (by kernel_rfl) ?_
  refine nT ?_
  by_cases hq1 : ((k : Nat) : Int) < ((l.length : Nat) : Int)
  · refine T.condT (b := (decide (((k : Nat) : Int) < ((l.length : Nat) : Int)))) rfl (decide_eq_true hq1) ?_
    refine T.skip ?_
    refine nT ?_
    refine T.seq ?_
    refine T.block ?_
    refine tR (s1 := ⟨[slV tl nl (kSl sl_ kU8) l, AV.any, AV.any, ownV 4 (kSl false kU8) 0 ((l.take k) ++ [(l.getD k [])]).length, dv (.int .i64 ((k : Nat) : Int)), AV.any, AV.any, AV.any, dv (.bool (decide (((k : Nat) : Int) < ((l.length : Nat) : Int))))], [.dead, .dead, .dead, .live (arrK 37 (kSl false kU8) [(l.getD k [])]), .live (arrK 37 (kSl false kU8) ((l.take k) ++ [(l.getD k [])]))]⟩) [true, false, false, true, true, false, false, false, true] [true, true, true, true, true]
      (oC (oS rfl rfl (r_move (av := ownV 0 (kSl false kU8) 0 (l.take k).length) (lt_of rfl) trivial))
      (oC (oS rfl rfl (q_buildSlice 1 5 kU8 kU8_ok ([] : List UInt8) [] (cs := []) Try.underlying37 iat_5 rfl zero_5 rfl rfl rfl (Nat.le_of_ble_eq_true rfl) part_ok rfl trivial (lt_of rfl) trivial))
      (oC (oS rfl rfl (r_move (av := slV tl nl (kSl sl_ kU8) l) (lt_of rfl) trivial))
      (oC (oS rfl rfl (r_move (av := dv (.int .i64 ((k : Nat) : Int))) (lt_of rfl) trivial))
      (oC (oS rfl rfl (q_index tl nl (kSl sl_ kU8) l k (k := .i64) (i := ((k : Nat) : Int)) Try.underlying22 iat_37 rfl rfl (by first | assumption | omega | (simp only [maxLen, kU8_sz, kSl_sz, k_arr_2_uint8_sz, k_arr_2_api_Digest_sz]; omega) | (simp only [maxLen, kU8_sz, kSl_sz, k_arr_2_uint8_sz, k_arr_2_api_Digest_sz, List.length_append, List.length_cons, List.length_nil, List.length_take, List.length_drop, List.length_set]; omega) | decide) (lt_of rfl) trivial))
      (oC (oS rfl rfl (r_loadE (tag := tl) (n := 1) (el := (kSl sl_ kU8).cell (l.getD k (kSl sl_ kU8).z)) (e0 := dsl sl_ false kU8 (l.getD k [])) wide_37 (by decide) rfl (lt_of rfl) trivial))
      (oC (oS rfl rfl (q_appendO 1 2 5 1 kU8 kU8_ok ([] : List UInt8) (l.getD k []) (l.getD k []) ([] : List UInt8).length (sy := (.d (dsl sl_ false kU8 (l.getD k [])))) (rhs := []) elem_37 (by first | assumption | omega | (simp only [maxLen, kU8_sz, kSl_sz, k_arr_2_uint8_sz, k_arr_2_api_Digest_sz]; omega) | (simp only [maxLen, kU8_sz, kSl_sz, k_arr_2_uint8_sz, k_arr_2_api_Digest_sz, List.length_append, List.length_cons, List.length_nil, List.length_take, List.length_drop, List.length_set]; omega) | decide) (src_sl sl_ false kU8 (l.getD k [])) (by simp) (by first | assumption | omega | (simp only [maxLen, kU8_sz, kSl_sz, k_arr_2_uint8_sz, k_arr_2_api_Digest_sz]; omega) | (simp only [maxLen, kU8_sz, kSl_sz, k_arr_2_uint8_sz, k_arr_2_api_Digest_sz, List.length_append, List.length_cons, List.length_nil, List.length_take, List.length_drop, List.length_set]; omega) | decide) (by first | assumption | omega | (simp only [maxLen, kU8_sz, kSl_sz, k_arr_2_uint8_sz, k_arr_2_api_Digest_sz]; omega) | (simp only [maxLen, kU8_sz, kSl_sz, k_arr_2_uint8_sz, k_arr_2_api_Digest_sz, List.length_append, List.length_cons, List.length_nil, List.length_take, List.length_drop, List.length_set]; omega) | decide) (lt_of rfl) trivial))
      (oC (oS rfl rfl (ORule.frz 0 17 2 5 kU8 (l.getD k []) (av := ownV 2 kU8 0 (l.getD k []).length) (q_buildSlice 3 37 (kSl false kU8) (kSl_ok false kU8) [(l.getD k [])] [⟨0, .tmp 17, .one (.d (dsl false false kU8 (l.getD k []))), 0⟩] (cs := [.d (dsl false false kU8 (l.getD k []))]) Try.underlying22 iat_37 rfl zero_37 rfl rfl rfl (Nat.le_of_ble_eq_true rfl) (part_cons rfl rfl (Nat.le_of_ble_eq_true rfl) part_ok) rfl ⟨(.inl rfl), trivial⟩ (lt_of rfl) trivial) rfl (.inr (.inr ⟨rfl, rfl, rfl, (fun h => by cases h), rfl, rfl, by omega, fun i j _ => by rw [Nat.zero_add]⟩)) (by intro h; cases h) rfl rfl))
      (oC (oS rfl rfl (q_appendO 0 4 37 24 (kSl false kU8) (kSl_ok false kU8) (l.take k) [(l.getD k [])] ((l.take k) ++ [(l.getD k [])]) (l.take k).length (sy := (.own 3 (kSl false kU8).sz 0 [(l.getD k [])].length)) (rhs := [(3, .live (arrK 37 (kSl false kU8) [(l.getD k [])]))]) elem_22 (by first | assumption | omega | (simp only [maxLen, kU8_sz, kSl_sz, k_arr_2_uint8_sz, k_arr_2_api_Digest_sz]; omega) | (simp only [maxLen, kU8_sz, kSl_sz, k_arr_2_uint8_sz, k_arr_2_api_Digest_sz, List.length_append, List.length_cons, List.length_nil, List.length_take, List.length_drop, List.length_set]; omega) | decide) (src_own 3 37 (kSl false kU8) [(l.getD k [])]) (by rw [List.take_length]) (by first | assumption | omega | (simp only [maxLen, kU8_sz, kSl_sz, k_arr_2_uint8_sz, k_arr_2_api_Digest_sz]; omega) | (simp only [maxLen, kU8_sz, kSl_sz, k_arr_2_uint8_sz, k_arr_2_api_Digest_sz, List.length_append, List.length_cons, List.length_nil, List.length_take, List.length_drop, List.length_set]; omega) | decide) (by first | assumption | omega | (simp only [maxLen, kU8_sz, kSl_sz, k_arr_2_uint8_sz, k_arr_2_api_Digest_sz]; omega) | (simp only [maxLen, kU8_sz, kSl_sz, k_arr_2_uint8_sz, k_arr_2_api_Digest_sz, List.length_append, List.length_cons, List.length_nil, List.length_take, List.length_drop, List.length_set]; omega) | decide) (lt_of rfl) trivial))
      (oC (oS rfl rfl (r_assign (av := ownV 4 (kSl false kU8) 0 ((l.take k) ++ [(l.getD k [])]).length) (lt_of rfl) trivial)) (oZ rfl)))))))))))
      (by kernel_rfl) (by kernel_rfl) ?_
    refine nB ?_
    refine nT ?_
    refine tR (s1 := ⟨[slV tl nl (kSl sl_ kU8) l, AV.any, AV.any, ownV 4 (kSl false kU8) 0 ((l.take k) ++ [(l.getD k [])]).length, dv (.int .i64 ((k + 1 : Nat) : Int)), AV.any, AV.any, AV.any, dv (.bool (decide (((k : Nat) : Int) < ((l.length : Nat) : Int))))], [.dead, .dead, .dead, .live (arrK 37 (kSl false kU8) [(l.getD k [])]), .live (arrK 37 (kSl false kU8) ((l.take k) ++ [(l.getD k [])]))]⟩) [true, false, false, true, true, false, false, false, true] [true, true, true, true, true]
      (oC (oS rfl rfl (r_move (av := dv (.int .i64 ((k : Nat) : Int))) (lt_of rfl) trivial))
      (oC (oS rfl rfl (r_bin (u1 := .int .i64 ((k : Nat) : Int)) (u2 := .int .i64 1) (v := .int .i64 ((k + 1 : Nat) : Int)) (b_add (by rw [IntKind.wrap_i64]; omega)) (lt_of rfl) ⟨rfl, trivial⟩))
      (oC (oS rfl rfl (r_assign (av := dv (.int .i64 ((k + 1 : Nat) : Int))) (lt_of rfl) trivial)) (oZ rfl))))
      (by kernel_rfl) (by kernel_rfl) ?_
    refine nL (k + 1) (show (k + 1) ≤ l.length from (by omega)) (show (l.length - (k + 1) : Nat) < l.length - k from (by omega)) (fun _ _ hG => Gs.into2 (s := ⟨[slV tl nl (kSl sl_ kU8) l, AV.any, AV.any, ownV 4 (kSl false kU8) 0 ((l.take k) ++ [(l.getD k [])]).length, dv (.int .i64 ((k + 1 : Nat) : Int)), AV.any, AV.any, AV.any, dv (.bool (decide (((k : Nat) : Int) < ((l.length : Nat) : Int))))], [.dead, .dead, .dead, .live (arrK 37 (kSl false kU8) [(l.getD k [])]), .live (arrK 37 (kSl false kU8) ((l.take k) ++ [(l.getD k [])]))]⟩) (s' := ⟨[slV tl nl (kSl sl_ kU8) l, AV.any, AV.any, ownV 0 (kSl false kU8) 0 (l.take (k + 1)).length, dv (.int .i64 ((k + 1 : Nat) : Int))], [.live (arrK 37 (kSl false kU8) (l.take (k + 1)))]⟩) [4] [true, false, false, true, true] (t1 := [slV tl nl (kSl sl_ kU8) l, AV.any, AV.any, ownV 4 (kSl false kU8) 0 (l.take (k + 1)).length, dv (.int .i64 ((k + 1 : Nat) : Int))]) (t2 := [slV tl nl (kSl sl_ kU8) l, AV.any, AV.any, ownV 4 (kSl false kU8) 0 ((l.take k) ++ [(l.getD k [])]).length, dv (.int .i64 ((k + 1 : Nat) : Int))]) (h1 := [.live (arrK 37 (kSl false kU8) (l.take (k + 1)))]) (h2 := [.live (arrK 37 (kSl false kU8) ((l.take k) ++ [(l.getD k [])]))]) (by have e1 : ((l.take (k + 1)).length : Nat) = ((l.take k) ++ [(l.getD k [])]).length := (by first | rfl | (rw [tk_succ (z := []) (by omega)])); have hE := congrArg (fun (q1 : Nat) => ([slV tl nl (kSl sl_ kU8) l, AV.any, AV.any, ownV 4 (kSl false kU8) 0 q1, dv (.int .i64 ((k + 1 : Nat) : Int))] : List AV)) e1; exact hE) (by have e1 : ((l.take (k + 1)) : List (List UInt8)) = (l.take k) ++ [(l.getD k [])] := (by first | rfl | (rw [tk_succ (z := []) (by omega)])); have hE := congrArg (fun (q1 : List (List UInt8)) => ([.live (arrK 37 (kSl false kU8) q1)] : List HS)) e1; exact hE) (by kernel_rfl) (by kernel_rfl) (by kernel_rfl) (by kernel_rfl) (by kernel_rfl) (by kernel_rfl) (by kernel_rfl) (by kernel_rfl) (by kernel_rfl) (by kernel_rfl) (by kernel_rfl) hG)
  · refine T.condF (b := (decide (((k : Nat) : Int) < ((l.length : Nat) : Int)))) rfl (decide_eq_false hq1) ?_
    refine T.exit ?_
    refine xT ?_
    refine xT ?_
    refine xH ?_
    refine nT ?_
    refine T.seq ?_
    refine tR (s1 := ⟨[slV tl nl (kSl sl_ kU8) l, AV.any, ownV 0 (kSl false kU8) 0 (l.take k).length, ownV 0 (kSl false kU8) 0 (l.take k).length, dv (.int .i64 ((k : Nat) : Int)), AV.any, AV.any, AV.any, dv (.bool (decide (((k : Nat) : Int) < ((l.length : Nat) : Int))))], [.live (arrK 37 (kSl false kU8) (l.take k))]⟩) [true, false, true, true, true, false, false, false, true] [true]
      (oC (oS rfl rfl (r_move (av := ownV 0 (kSl false kU8) 0 (l.take k).length) (lt_of rfl) trivial))
      (oC (oS rfl rfl (r_assign (av := ownV 0 (kSl false kU8) 0 (l.take k).length) (lt_of rfl) trivial)) (oZ rfl)))
      (by kernel_rfl) (by kernel_rfl) ?_
    refine nT ?_
    refine T.ret ?_
    exact tE (.inl rfl) [.t 2 (.one (.own 0 (kSl false kU8).sz 0 (l.take k).length))] ⟨⟨rfl, rfl⟩, trivial⟩ [0] (by have e1 : (l.length : Nat) = (l.take k).length := (by first | rfl | (rw [List.take_of_length_le (by omega)])); have hE := congrArg (fun (q1 : Nat) => (ownV 0 (kSl false kU8) 0 q1 : AV)) e1; exact hE) rfl rfl rfl rfl rfl ⟨⟨rfl, (by have e1 : ((l.take k) : List (List UInt8)) = l := (by first | rfl | (rw [List.take_of_length_le (by omega)])); have hE := congrArg (fun (q1 : List (List UInt8)) => (.live (arrK 37 (kSl false kU8) q1) : HS)) e1; exact hE)⟩, trivial⟩

-- quaestor/quaestorlaw02.awake
theorem law_awake : Holds Try.prog 14 ⟨[], [], dv (.bool true), []⟩ := by
  refine Holds.of Try.func14 rfl (N := 21) Try.ntmps14 rfl fun w0 B0 S0 U0 => ?_
  show T _ (mkBase 21 0 w0 S0 U0 B0) ⟨[], []⟩ _ _
  refine T.seq ?_
  refine tR (s1 := ⟨[dv (.bool false)], []⟩) [true] []
    (oC (oS rfl rfl (r_assign (av := dv (.bool false)) (lt_of rfl) ⟨rfl, trivial⟩)) (oZ rfl))
    (by kernel_rfl) (by kernel_rfl) ?_
  refine nT ?_
  refine T.seq ?_
  refine tR (s1 := ⟨[dv (.bool false), AV.any, AV.any, dv (.bool (decide (okO [120])))], []⟩) [true, false, false, true] []
    (oC (oS rfl rfl (r_call (term_Open [120] (by first | assumption | omega | (simp only [maxLen, kU8_sz, kSl_sz, k_arr_2_uint8_sz, k_arr_2_api_Digest_sz]; omega) | (simp only [maxLen, kU8_sz, kSl_sz, k_arr_2_uint8_sz, k_arr_2_api_Digest_sz, List.length_append, List.length_cons, List.length_nil, List.length_take, List.length_drop, List.length_set]; omega) | decide)) Try.func15 rfl (by decide) [] [] (l := [(.const (strV [120]), dv (strV [120]))]) [] rfl 0 0 rfl rfl rfl rfl rfl rfl rfl rfl rfl ⟨.inl ⟨rfl, rfl⟩, trivial⟩ rfl (fun b hb => by cases hb) (.inl rfl) (lt_of rfl) ⟨rfl, trivial⟩))
    (oC (oS rfl rfl (r_move (av := .tup [.one (.d (.val (.int .u8 (((opT [120]).toNat : Nat) : Int)))), .one (.d (dsl false false (kSl false kU8) (opP [120]))), .one (.d (.val (.bool (decide (okO [120])))))]) (lt_of rfl) trivial))
    (oC (oS rfl rfl (r_extract (l := [.one (.d (.val (.int .u8 (((opT [120]).toNat : Nat) : Int)))), .one (.d (dsl false false (kSl false kU8) (opP [120]))), .one (.d (.val (.bool (decide (okO [120])))))]) (tv := .one (.d (.val (.int .u8 (((opT [120]).toNat : Nat) : Int))))) rfl (lt_of rfl) trivial))
    (oC (oS rfl rfl (r_extract (l := [.one (.d (.val (.int .u8 (((opT [120]).toNat : Nat) : Int)))), .one (.d (dsl false false (kSl false kU8) (opP [120]))), .one (.d (.val (.bool (decide (okO [120])))))]) (tv := .one (.d (dsl false false (kSl false kU8) (opP [120])))) rfl (lt_of rfl) trivial))
    (oC (oS rfl rfl (r_extract (l := [.one (.d (.val (.int .u8 (((opT [120]).toNat : Nat) : Int)))), .one (.d (dsl false false (kSl false kU8) (opP [120]))), .one (.d (.val (.bool (decide (okO [120])))))]) (tv := .one (.d (.val (.bool (decide (okO [120])))))) rfl (lt_of rfl) trivial))
    (oC (oS rfl rfl (r_assign (av := dv (.int .u8 (((opT [120]).toNat : Nat) : Int))) (lt_of rfl) trivial))
    (oC (oS rfl rfl (r_assign (av := slV false false (kSl false kU8) (opP [120])) (lt_of rfl) trivial))
    (oC (oS rfl rfl (r_assign (av := dv (.bool (decide (okO [120])))) (lt_of rfl) trivial)) (oZ rfl)))))))))
    (by kernel_rfl) (by kernel_rfl) ?_
  refine nT ?_
  refine T.seq ?_
  by_cases hq1 : (ofB (7 : UInt8) ([] : List (List UInt8))) = [7, 0, 0, 0, 0]
  · by_cases hq2 : (ofB (1 : UInt8) [[(97 : UInt8)]]) = [1, 0, 0, 0, 1, 0, 0, 0, 1, 97]
    · refine tR (s1 := ⟨[dv (.bool (!(decide (okO [120])))), AV.any, AV.any, dv (.bool (decide (okO [120])))], [.dead]⟩) [true, false, false, true] [true]
        (oC (oS rfl rfl (r_call (term_Of (7 : UInt8) false false false ([] : List (List UInt8)) (by first | assumption | omega | (simp only [maxLen, kU8_sz, kSl_sz, k_arr_2_uint8_sz, k_arr_2_api_Digest_sz]; omega) | (simp only [maxLen, kU8_sz, kSl_sz, k_arr_2_uint8_sz, k_arr_2_api_Digest_sz, List.length_append, List.length_cons, List.length_nil, List.length_take, List.length_drop, List.length_set]; omega) | decide)) Try.func11 rfl (by decide) [] [] (l := [(.const (.int .u8 7), dv (.int .u8 7)), (.const (.slice none 0 0), dv (.slice none 0 0))]) [] rfl 0 0 rfl rfl rfl rfl rfl rfl rfl rfl rfl ⟨.inl ⟨rfl, rfl⟩, ⟨.inr (.inr ⟨rfl, rfl, rfl⟩), trivial⟩⟩ rfl (fun b hb => by cases hb) (.inl rfl) (lt_of rfl) ⟨rfl, ⟨rfl, trivial⟩⟩))
        (oC (oS rfl rfl (r_bin (u1 := strV (ofB (7 : UInt8) ([] : List (List UInt8)))) (u2 := strV [7, 0, 0, 0, 0]) (v := .bool (decide ((ofB (7 : UInt8) ([] : List (List UInt8))) = [7, 0, 0, 0, 0]))) b_eqlS (lt_of rfl) ⟨rfl, trivial⟩))
        (oC (oS rfl rfl (r_move (av := dv (.bool (decide ((ofB (7 : UInt8) ([] : List (List UInt8))) = [7, 0, 0, 0, 0])))) (lt_of rfl) trivial))
        (oC (oY (b := (decide ((ofB (7 : UInt8) ([] : List (List UInt8))) = [7, 0, 0, 0, 0]))) rfl rfl rfl rfl (lt_of rfl) (decide_eq_true hq1) (q_buildSlice 0 5 kU8 kU8_ok [(97 : UInt8)] [⟨0, .const (.int .u8 97), .one (.d (.val (.int .u8 97))), 0⟩] (cs := [.d (.val (.int .u8 97))]) Try.underlying37 iat_5 rfl zero_5 rfl rfl rfl (Nat.le_of_ble_eq_true rfl) (part_cons rfl rfl (Nat.le_of_ble_eq_true rfl) part_ok) rfl ⟨(.inl rfl), trivial⟩ (lt_of rfl) ⟨rfl, trivial⟩))
        (oC (oY (b := (decide ((ofB (7 : UInt8) ([] : List (List UInt8))) = [7, 0, 0, 0, 0]))) rfl rfl rfl rfl (lt_of rfl) (decide_eq_true hq1) (r_convLit 0 5 kU8 [(97 : UInt8)] Try.underlying37 Try.underlying5 (by first | decide | omega | simp) (lt_of rfl) trivial))
        (oC (oY (b := (decide ((ofB (7 : UInt8) ([] : List (List UInt8))) = [7, 0, 0, 0, 0]))) rfl rfl rfl rfl (lt_of rfl) (decide_eq_true hq1) (r_call (term_Leaf (1 : UInt8) false true [(97 : UInt8)] (by first | assumption | omega | (simp only [maxLen, kU8_sz, kSl_sz, k_arr_2_uint8_sz, k_arr_2_api_Digest_sz]; omega) | (simp only [maxLen, kU8_sz, kSl_sz, k_arr_2_uint8_sz, k_arr_2_api_Digest_sz, List.length_append, List.length_cons, List.length_nil, List.length_take, List.length_drop, List.length_set]; omega) | decide)) Try.func17 rfl (by decide) [] [] (l := [(.const (.int .u8 1), dv (.int .u8 1)), (.tmp 13, slV false true kU8 [(97 : UInt8)])]) [] rfl 0 0 rfl rfl rfl rfl rfl rfl rfl rfl rfl ⟨.inl ⟨rfl, rfl⟩, ⟨.inl ⟨rfl, rfl⟩, trivial⟩⟩ rfl (fun b hb => by cases hb) (.inl rfl) (lt_of rfl) ⟨rfl, trivial⟩))
        (oC (oY (b := (decide ((ofB (7 : UInt8) ([] : List (List UInt8))) = [7, 0, 0, 0, 0]))) rfl rfl rfl rfl (lt_of rfl) (decide_eq_true hq1) (r_bin (u1 := strV (ofB (1 : UInt8) [[(97 : UInt8)]])) (u2 := strV [1, 0, 0, 0, 1, 0, 0, 0, 1, 97]) (v := .bool (decide ((ofB (1 : UInt8) [[(97 : UInt8)]]) = [1, 0, 0, 0, 1, 0, 0, 0, 1, 97]))) b_eqlS (lt_of rfl) ⟨rfl, trivial⟩))
        (oC (oS rfl rfl (r_pickT (b := (decide ((ofB (7 : UInt8) ([] : List (List UInt8))) = [7, 0, 0, 0, 0]))) (av := dv (.bool (decide ((ofB (1 : UInt8) [[(97 : UInt8)]]) = [1, 0, 0, 0, 1, 0, 0, 0, 1, 97])))) (lt_of rfl) trivial (decide_eq_true hq1)))
        (oC (oS rfl rfl (r_move (av := dv (.bool (decide ((ofB (1 : UInt8) [[(97 : UInt8)]]) = [1, 0, 0, 0, 1, 0, 0, 0, 1, 97])))) (lt_of rfl) trivial))
        (oC (oY (b := (decide ((ofB (1 : UInt8) [[(97 : UInt8)]]) = [1, 0, 0, 0, 1, 0, 0, 0, 1, 97]))) rfl rfl rfl rfl (lt_of rfl) (decide_eq_true hq2) (r_move (av := dv (.bool (decide (okO [120])))) (lt_of rfl) trivial))
        (oC (oY (b := (decide ((ofB (1 : UInt8) [[(97 : UInt8)]]) = [1, 0, 0, 0, 1, 0, 0, 0, 1, 97]))) rfl rfl rfl rfl (lt_of rfl) (decide_eq_true hq2) (r_un (u := .bool (decide (okO [120]))) (v := .bool (!(decide (okO [120])))) u_not (lt_of rfl) trivial))
        (oC (oS rfl rfl (r_pickT (b := (decide ((ofB (1 : UInt8) [[(97 : UInt8)]]) = [1, 0, 0, 0, 1, 0, 0, 0, 1, 97]))) (av := dv (.bool (!(decide (okO [120]))))) (lt_of rfl) trivial (decide_eq_true hq2)))
        (oC (oS rfl rfl (r_assign (av := dv (.bool (!(decide (okO [120]))))) (lt_of rfl) trivial)) (oZ rfl))))))))))))))
        (by kernel_rfl) (by kernel_rfl) ?_
      refine nT ?_
      refine T.ret ?_
      exact tE (.inl rfl) [.t 0 (.one (.d (.val (.bool (!(decide (okO [120])))))))] ⟨⟨rfl, rfl⟩, trivial⟩ [] (by have e1 : (true : Bool) = (!(decide (okO [120]))) := (by first | rfl | (simp; done)); have hE := congrArg (fun (q1 : Bool) => (dv (.bool q1) : AV)) e1; exact hE) rfl rfl rfl rfl rfl trivial
    · exact absurd (by first | decide | kernel_rfl) hq2
  · exact absurd (by first | decide | kernel_rfl) hq1
end Go.Proofs.Ytdgjpmhpjhdkmaa.Q
