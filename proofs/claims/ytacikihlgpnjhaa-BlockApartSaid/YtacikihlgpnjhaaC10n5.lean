import Derived.Test.YtacikihlgpnjhaaC10n4
namespace Go.Proofs.Ytacikihlgpnjhaa.Q
open Go Go.RowKit
set_option linter.unusedVariables false
set_option linter.unusedSimpArgs false
set_option maxRecDepth 100000
set_option maxHeartbeats 4000000
-- quaestor/quaestorref09.half
theorem ref09_half (n : Nat) (h2 : 2 ≤ n) (hn : n ≤ 9223372036854775807) : Holds Try.prog 57 ⟨[dv (.int .i64 ((n : Nat) : Int))], [], dv (.int .i64 ((half n : Nat) : Int)), []⟩ := by
  refine Holds.of Try.func57 rfl (N := 12) Try.ntmps57 rfl fun w0 B0 S0 U0 => ?_
  show T _ (mkBase 12 0 w0 S0 U0 B0) ⟨[dv (.int .i64 ((n : Nat) : Int))], []⟩ _ _
  refine T.seq ?_
  refine tR (s1 := ⟨[dv (.int .i64 ((n : Nat) : Int)), aa, dv (.int .i64 0)], []⟩) [true, false, true] []
    (oC (oS rfl rfl (r_assign (av := dv (.int .i64 0)) (lt_of rfl) ⟨rfl, trivial⟩)) (oZ rfl))
    (by kernel_rfl) (by kernel_rfl) ?_
  refine nT ?_
  refine T.seq ?_
  refine tR (s1 := ⟨[dv (.int .i64 ((n : Nat) : Int)), aa, dv (.int .i64 0), dv (.int .i64 1)], []⟩) (bm 4 13) []
    (oC (oS rfl rfl (r_assign (av := dv (.int .i64 1)) (lt_of rfl) ⟨rfl, trivial⟩)) (oZ rfl))
    (by kernel_rfl) (by kernel_rfl) ?_
  refine nT ?_
  refine T.seq ?_
  refine T.block ?_
  refine T.loop (ι := Nat) (fun (K : Nat) => ⟨[dv (.int .i64 ((n : Nat) : Int)), aa, dv (.int .i64 0), dv (.int .i64 ((K : Nat) : Int))], []⟩) (fun (K : Nat) => (∃ j, K = 2 ^ j) ∧ (K < n)) (fun (K : Nat) => n - K) (1) ⟨⟨0, rfl⟩, (by omega)⟩ (fun _ _ hG => Gs.into2 (s := ⟨[dv (.int .i64 ((n : Nat) : Int)), aa, dv (.int .i64 0), dv (.int .i64 1)], []⟩) (s' := ⟨[dv (.int .i64 ((n : Nat) : Int)), aa, dv (.int .i64 0), dv (.int .i64 1)], []⟩) [] (bm 4 13) (t1 := [dv (.int .i64 ((n : Nat) : Int)), aa, dv (.int .i64 0), dv (.int .i64 1)]) (t2 := [dv (.int .i64 ((n : Nat) : Int)), aa, dv (.int .i64 0), dv (.int .i64 1)]) (h1 := []) (h2 := []) rfl rfl (by kernel_rfl) (by kernel_rfl) (by kernel_rfl) (by kernel_rfl) (by kernel_rfl) (by kernel_rfl) (by kernel_rfl) (by kernel_rfl) (by kernel_rfl) (by kernel_rfl) (by kernel_rfl) hG) ?_
  rintro K ⟨hp, hK⟩
  show T _ _ ⟨[dv (.int .i64 ((n : Nat) : Int)), aa, dv (.int .i64 0), dv (.int .i64 ((K : Nat) : Int))], []⟩ _ _
  replace hp : ∃ j, K = 2 ^ j := hp
  replace hK : K < n := hK
  refine T.seq ?_
  refine T.seq ?_
  refine tR (s1 := ⟨[dv (.int .i64 ((n : Nat) : Int)), aa, dv (.int .i64 0), dv (.int .i64 ((K : Nat) : Int)), aa, aa, aa, aa, dv (.bool (decide (((K : Nat) : Int) < (((n : Nat) : Int) - ((K : Nat) : Int)))))], []⟩) (bm 9 269) []
    (oC (oS rfl rfl (r_move (av := dv (.int .i64 ((K : Nat) : Int))) (lt_of rfl) trivial))
    (oC (oS rfl rfl (r_move (av := dv (.int .i64 ((n : Nat) : Int))) (lt_of rfl) trivial))
    (oC (oS rfl rfl (r_move (av := dv (.int .i64 ((K : Nat) : Int))) (lt_of rfl) trivial))
    (oC (oS rfl rfl (r_bin (u1 := .int .i64 ((n : Nat) : Int)) (u2 := .int .i64 ((K : Nat) : Int)) (v := .int .i64 (((n : Nat) : Int) - ((K : Nat) : Int))) (b_sub (by rw [IntKind.wrap_i64]; omega)) (lt_of rfl) trivial))
    (oC (oS rfl rfl (r_bin (u1 := .int .i64 ((K : Nat) : Int)) (u2 := .int .i64 (((n : Nat) : Int) - ((K : Nat) : Int))) (v := .bool (decide (((K : Nat) : Int) < (((n : Nat) : Int) - ((K : Nat) : Int))))) b_lss (lt_of rfl) trivial)) (oZ rfl))))))
    (by kernel_rfl) (by kernel_rfl) ?_
  refine nT ?_
  by_cases hq1 : ((K : Nat) : Int) < (((n : Nat) : Int) - ((K : Nat) : Int))
  · refine T.condT (b := (decide (((K : Nat) : Int) < (((n : Nat) : Int) - ((K : Nat) : Int))))) rfl (decide_eq_true hq1) ?_
    refine T.skip ?_
    refine nT ?_
    refine T.block ?_
    refine tR (s1 := ⟨[dv (.int .i64 ((n : Nat) : Int)), aa, dv (.int .i64 0), dv (.int .i64 ((2 * K : Nat) : Int)), aa, aa, aa, aa, dv (.bool (decide (((K : Nat) : Int) < (((n : Nat) : Int) - ((K : Nat) : Int)))))], []⟩) (bm 9 269) []
      (oC (oS rfl rfl (r_move (av := dv (.int .i64 ((K : Nat) : Int))) (lt_of rfl) trivial))
      (oC (oS rfl rfl (r_bin (u1 := .int .i64 2) (u2 := .int .i64 ((K : Nat) : Int)) (v := .int .i64 ((2 * K : Nat) : Int)) (b_mul (by rw [IntKind.wrap_i64]; omega)) (lt_of rfl) ⟨rfl, trivial⟩))
      (oC (oS rfl rfl (r_assign (av := dv (.int .i64 ((2 * K : Nat) : Int))) (lt_of rfl) trivial)) (oZ rfl))))
      (by kernel_rfl) (by kernel_rfl) ?_
    refine nB ?_
    refine nL (2 * K) ⟨(show ∃ j, (2 * K) = 2 ^ j from (by obtain ⟨j, hj⟩ := hp; exact ⟨j + 1, by rw [hj, Nat.pow_succ]; omega⟩)), (show (2 * K) < n from (by omega))⟩ (show (n - (2 * K) : Nat) < n - K from (by have hK0 : 0 < K := (by obtain ⟨j, hj⟩ := hp; rw [hj]; exact Nat.pow_pos (by decide)); omega)) (fun _ _ hG => Gs.into2 (s := ⟨[dv (.int .i64 ((n : Nat) : Int)), aa, dv (.int .i64 0), dv (.int .i64 ((2 * K : Nat) : Int)), aa, aa, aa, aa, dv (.bool (decide (((K : Nat) : Int) < (((n : Nat) : Int) - ((K : Nat) : Int)))))], []⟩) (s' := ⟨[dv (.int .i64 ((n : Nat) : Int)), aa, dv (.int .i64 0), dv (.int .i64 ((2 * K : Nat) : Int))], []⟩) [] (bm 4 13) (t1 := [dv (.int .i64 ((n : Nat) : Int)), aa, dv (.int .i64 0), dv (.int .i64 ((2 * K : Nat) : Int))]) (t2 := [dv (.int .i64 ((n : Nat) : Int)), aa, dv (.int .i64 0), dv (.int .i64 ((2 * K : Nat) : Int))]) (h1 := []) (h2 := []) rfl rfl (by kernel_rfl) (by kernel_rfl) (by kernel_rfl) (by kernel_rfl) (by kernel_rfl) (by kernel_rfl) (by kernel_rfl) (by kernel_rfl) (by kernel_rfl) (by kernel_rfl) (by kernel_rfl) hG)
  · refine T.condF (b := (decide (((K : Nat) : Int) < (((n : Nat) : Int) - ((K : Nat) : Int))))) rfl (decide_eq_false hq1) ?_
    refine T.exit ?_
    refine xT ?_
    refine xT ?_
    refine xH ?_
    refine nT ?_
    refine T.seq ?_
    refine tR (s1 := ⟨[dv (.int .i64 ((n : Nat) : Int)), aa, dv (.int .i64 ((K : Nat) : Int)), dv (.int .i64 ((K : Nat) : Int)), aa, aa, aa, aa, dv (.bool (decide (((K : Nat) : Int) < (((n : Nat) : Int) - ((K : Nat) : Int)))))], []⟩) (bm 9 269) []
      (oC (oS rfl rfl (r_move (av := dv (.int .i64 ((K : Nat) : Int))) (lt_of rfl) trivial))
      (oC (oS rfl rfl (r_assign (av := dv (.int .i64 ((K : Nat) : Int))) (lt_of rfl) trivial)) (oZ rfl)))
      (by kernel_rfl) (by kernel_rfl) ?_
    refine nT ?_
    refine T.ret ?_
    exact tE (.inl rfl) [.t 2 (.one (.d (.val (.int .i64 ((K : Nat) : Int)))))] ⟨⟨rfl, rfl⟩, trivial⟩ [] (by have e1 : (((half n : Nat) : Int) : Int) = ((K : Nat) : Int) := (by first | rfl | (rw [half_of hp hK (by omega)])); have hE := congrArg (fun (q1 : Int) => (dv (.int .i64 q1) : AV)) e1; exact hE) rfl rfl rfl rfl rfl trivial

-- quaestor/merkle.Root
theorem merkle_Root_rec : ∀ (N : Nat) (tl : Bool) (nl : Bool) (sl_ : Bool) (l : List (List UInt8)) (hf : fewG szL 40 600 l), l.length = N → Holds Try.prog 33 ⟨[slV tl nl (kSl sl_ kU8) l], [], dv (strV (rootB l)), []⟩ := by
  intro N
  induction N using Nat.strongRecOn with
  | _ N ih =>
    intro tl nl sl_ l hf hN
    refine Holds.of Try.func33 rfl (N := 28) Try.ntmps33 rfl fun w0 B0 S0 U0 => ?_
    show T _ (mkBase 28 0 w0 S0 U0 B0) ⟨[slV tl nl (kSl sl_ kU8) l], []⟩ _ _
    have hl40 := hf.1
    have hg0 : (l.getD 0 []).length ≤ 600 := fewG_get (sz := szL) hf (by decide) 0
    refine T.seq ?_
    refine tR (s1 := ⟨[slV tl nl (kSl sl_ kU8) l, aa, dv (strV [])], []⟩) [true, false, true] []
      (oC (oS rfl rfl (r_assign (av := dv (strV [])) (lt_of rfl) ⟨rfl, trivial⟩)) (oZ rfl))
      (by kernel_rfl) (by kernel_rfl) ?_
    refine nT ?_
    refine T.seq ?_
    refine tR (s1 := ⟨[slV tl nl (kSl sl_ kU8) l, aa, dv (strV []), dv (.int .i64 ((l.length : Nat) : Int))], []⟩) (bm 4 13) []
      (oC (oS rfl rfl (r_move (av := slV tl nl (kSl sl_ kU8) l) (lt_of rfl) trivial))
      (oC (oS rfl rfl (q_len tl nl (kSl sl_ kU8) l Try.underlying60 (lt_of rfl) trivial))
      (oC (oS rfl rfl (r_assign (av := dv (.int .i64 ((l.length : Nat) : Int))) (lt_of rfl) trivial)) (oZ rfl))))
      (by kernel_rfl) (by kernel_rfl) ?_
    refine nT ?_
    refine T.seq ?_
    refine tR (s1 := ⟨[slV tl nl (kSl sl_ kU8) l, aa, dv (strV []), dv (.int .i64 ((l.length : Nat) : Int)), aa, aa, aa, dv (.int .i64 ((l.length : Nat) : Int))], []⟩) (bm 8 141) []
      (oC (oS rfl rfl (r_move (av := dv (.int .i64 ((l.length : Nat) : Int))) (lt_of rfl) trivial)) (oZ rfl))
      (by kernel_rfl) (by kernel_rfl) ?_
    refine nT ?_
    refine T.block ?_
    refine T.seq ?_
    refine tR (s1 := ⟨[slV tl nl (kSl sl_ kU8) l, aa, dv (strV []), dv (.int .i64 ((l.length : Nat) : Int)), aa, aa, aa, dv (.int .i64 ((l.length : Nat) : Int)), aa, aa, aa, aa, aa, aa, aa, aa, aa, aa, aa, dv (.bool (decide (((l.length : Nat) : Int) = 0)))], []⟩) (bm 20 524429) []
      (oC (oS rfl rfl (r_bin (u1 := .int .i64 ((l.length : Nat) : Int)) (u2 := .int .i64 0) (v := .bool (decide (((l.length : Nat) : Int) = 0))) b_eql (lt_of rfl) ⟨rfl, trivial⟩))
      (oC (oS rfl rfl (r_assign (av := dv (.bool (decide (((l.length : Nat) : Int) = 0)))) (lt_of rfl) trivial)) (oZ rfl)))
      (by kernel_rfl) (by kernel_rfl) ?_
    refine nT ?_
    by_cases hq1 : ((l.length : Nat) : Int) = 0
    · refine T.condT (b := (decide (((l.length : Nat) : Int) = 0))) rfl (decide_eq_true hq1) ?_
      refine T.seq ?_
      refine tR (s1 := ⟨[slV tl nl (kSl sl_ kU8) l, aa, dv (strV (ofB (4 : UInt8) ([] : List (List UInt8)))), dv (.int .i64 ((l.length : Nat) : Int)), aa, aa, aa, dv (.int .i64 ((l.length : Nat) : Int)), aa, aa, aa, aa, aa, aa, aa, aa, aa, aa, aa, dv (.bool (decide (((l.length : Nat) : Int) = 0)))], []⟩) (bm 20 524429) []
        (oC (oS rfl rfl (r_call (term_Of (4 : UInt8) false false false ([] : List (List UInt8)) (by first | assumption | omega | (unfold maxLen; omega) | (simp [maxLen] <;> omega) | decide)) Try.func36 rfl (by decide) [] [] (l := [(.const (.int .u8 4), dv (.int .u8 4)), (.const (.slice none 0 0), dv (.slice none 0 0))]) [] rfl 0 0 rfl rfl rfl rfl rfl rfl rfl rfl rfl ⟨.inl ⟨rfl, rfl⟩, ⟨.inr (.inr ⟨rfl, rfl, rfl⟩), trivial⟩⟩ rfl (fun b hb => by cases hb) (.inl rfl) (lt_of rfl) ⟨rfl, ⟨rfl, trivial⟩⟩))
        (oC (oS rfl rfl (r_assign (av := dv (strV (ofB (4 : UInt8) ([] : List (List UInt8))))) (lt_of rfl) trivial)) (oZ rfl)))
        (by kernel_rfl) (by kernel_rfl) ?_
      refine nT ?_
      refine T.ret ?_
      refine rB ?_
      exact tE (.inl rfl) [.t 2 (.one (.d (.val (strV (ofB (4 : UInt8) ([] : List (List UInt8)))))))] ⟨⟨rfl, rfl⟩, trivial⟩ [] (by have e1 : ((rootB l) : List UInt8) = (ofB (4 : UInt8) ([] : List (List UInt8))) := (by first | rfl | exact root_0 (by omega) | exact (root_0 (by omega)).symm | exact root_1 (by omega) | exact (root_1 (by omega)).symm | exact root_2 h2l | exact (root_2 h2l).symm); have hE := congrArg (fun (q1 : List UInt8) => (dv (strV q1) : AV)) e1; exact hE) rfl rfl rfl rfl rfl trivial
    · refine T.condF (b := (decide (((l.length : Nat) : Int) = 0))) rfl (decide_eq_false hq1) ?_
      refine T.seq ?_
      refine tR (s1 := ⟨[slV tl nl (kSl sl_ kU8) l, aa, dv (strV []), dv (.int .i64 ((l.length : Nat) : Int)), aa, aa, aa, dv (.int .i64 ((l.length : Nat) : Int)), aa, aa, aa, aa, aa, aa, aa, aa, aa, aa, aa, dv (.bool (decide (((l.length : Nat) : Int) = 0))), aa, aa, dv (.bool (decide (((l.length : Nat) : Int) = 1)))], []⟩) (bm 23 4718733) []
        (oC (oS rfl rfl (r_bin (u1 := .int .i64 ((l.length : Nat) : Int)) (u2 := .int .i64 1) (v := .bool (decide (((l.length : Nat) : Int) = 1))) b_eql (lt_of rfl) ⟨rfl, trivial⟩))
        (oC (oS rfl rfl (r_assign (av := dv (.bool (decide (((l.length : Nat) : Int) = 1)))) (lt_of rfl) trivial)) (oZ rfl)))
        (by kernel_rfl) (by kernel_rfl) ?_
      refine nT ?_
      by_cases hq2 : ((l.length : Nat) : Int) = 1
      · refine T.condT (b := (decide (((l.length : Nat) : Int) = 1))) rfl (decide_eq_true hq2) ?_
        refine T.seq ?_
        refine tR (s1 := ⟨[slV tl nl (kSl sl_ kU8) l, aa, dv (strV (ofB (2 : UInt8) [(l.getD 0 [])])), dv (.int .i64 ((l.length : Nat) : Int)), aa, aa, aa, dv (.int .i64 ((l.length : Nat) : Int)), aa, aa, aa, aa, aa, aa, aa, aa, aa, aa, aa, dv (.bool (decide (((l.length : Nat) : Int) = 0))), aa, aa, dv (.bool (decide (((l.length : Nat) : Int) = 1)))], []⟩) (bm 23 4718733) []
          (oC (oS rfl rfl (r_move (av := slV tl nl (kSl sl_ kU8) l) (lt_of rfl) trivial))
          (oC (oS rfl rfl (q_index tl nl (kSl sl_ kU8) l 0 (k := .i64) (i := 0) Try.underlying60 iat_29 rfl rfl (by first | assumption | omega | (unfold maxLen; omega) | (simp [maxLen] <;> omega) | decide) (lt_of rfl) ⟨rfl, trivial⟩))
          (oC (oS rfl rfl (r_loadE (tag := tl) (n := 1) (el := (kSl sl_ kU8).cell (l.getD 0 (kSl sl_ kU8).z)) (e0 := dsl sl_ false kU8 (l.getD 0 [])) wide_29 (by decide) rfl (lt_of rfl) trivial))
          (oC (oS rfl rfl (r_call (term_Leaf (2 : UInt8) sl_ false (l.getD 0 []) (by first | assumption | omega | (unfold maxLen; omega) | (simp [maxLen] <;> omega) | decide)) Try.func53 rfl (by decide) [] [] (l := [(.const (.int .u8 2), dv (.int .u8 2)), (.tmp 26, slV sl_ false kU8 (l.getD 0 []))]) [] rfl 0 0 rfl rfl rfl rfl rfl rfl rfl rfl rfl ⟨.inl ⟨rfl, rfl⟩, ⟨.inl ⟨rfl, rfl⟩, trivial⟩⟩ rfl (fun b hb => by cases hb) (.inl rfl) (lt_of rfl) ⟨rfl, trivial⟩))
          (oC (oS rfl rfl (r_assign (av := dv (strV (ofB (2 : UInt8) [(l.getD 0 [])]))) (lt_of rfl) trivial)) (oZ rfl))))))
          (by kernel_rfl) (by kernel_rfl) ?_
        refine nT ?_
        refine T.ret ?_
        refine rB ?_
        exact tE (.inl rfl) [.t 2 (.one (.d (.val (strV (ofB (2 : UInt8) [(l.getD 0 [])])))))] ⟨⟨rfl, rfl⟩, trivial⟩ [] (by have e1 : ((rootB l) : List UInt8) = (ofB (2 : UInt8) [(l.getD 0 [])]) := (by first | rfl | exact root_0 (by omega) | exact (root_0 (by omega)).symm | exact root_1 (by omega) | exact (root_1 (by omega)).symm | exact root_2 h2l | exact (root_2 h2l).symm); have hE := congrArg (fun (q1 : List UInt8) => (dv (strV q1) : AV)) e1; exact hE) rfl rfl rfl rfl rfl trivial
      · have h2l : 2 ≤ l.length := (by omega); have hhl := half_lt h2l; have hhp := half_pos l.length; have hfa := few_root (fewG_take hf (half l.length)); have hfb := few_root (fewG_drop hf (half l.length))
        refine T.condF (b := (decide (((l.length : Nat) : Int) = 1))) rfl (decide_eq_false hq2) ?_
        refine T.seq ?_
        refine tR (s1 := ⟨[slV tl nl (kSl sl_ kU8) l, aa, dv (strV []), dv (.int .i64 ((l.length : Nat) : Int)), dv (.int .i64 ((half l.length : Nat) : Int)), aa, aa, dv (.int .i64 ((l.length : Nat) : Int)), aa, aa, aa, aa, aa, aa, aa, aa, aa, aa, aa, dv (.bool (decide (((l.length : Nat) : Int) = 0))), aa, aa, dv (.bool (decide (((l.length : Nat) : Int) = 1)))], []⟩) (bm 23 4718749) []
          (oC (oS rfl rfl (r_move (av := dv (.int .i64 ((l.length : Nat) : Int))) (lt_of rfl) trivial))
          (oC (oS rfl rfl (r_call (merkle_split l.length (by first | assumption | omega | (unfold maxLen; omega) | (simp [maxLen] <;> omega) | decide) (by first | assumption | omega | (unfold maxLen; omega) | (simp [maxLen] <;> omega) | decide)) Try.func54 rfl (by decide) [] [] (l := [(.tmp 8, dv (.int .i64 ((l.length : Nat) : Int)))]) [] rfl 0 0 rfl rfl rfl rfl rfl rfl rfl rfl rfl ⟨.inl ⟨rfl, rfl⟩, trivial⟩ rfl (fun b hb => by cases hb) (.inl rfl) (lt_of rfl) trivial))
          (oC (oS rfl rfl (r_assign (av := dv (.int .i64 ((half l.length : Nat) : Int))) (lt_of rfl) trivial)) (oZ rfl))))
          (by kernel_rfl) (by kernel_rfl) ?_
        refine nT ?_
        refine T.seq ?_
        refine tD (s1 := ⟨[slV tl nl (kSl sl_ kU8) l, aa, dv (strV (ofB (3 : UInt8) [(rootB (l.take (half l.length))), (rootB (l.drop (half l.length)))])), dv (.int .i64 ((l.length : Nat) : Int)), dv (.int .i64 ((half l.length : Nat) : Int)), aa, aa, dv (.int .i64 ((l.length : Nat) : Int)), aa, aa, aa, aa, aa, aa, aa, aa, aa, aa, aa, dv (.bool (decide (((l.length : Nat) : Int) = 0))), aa, aa, dv (.bool (decide (((l.length : Nat) : Int) = 1)))], []⟩) (by kernel_rfl) [[], [], [0, 1], [0, 1, 2], [], [], [4, 5], [0, 1, 2, 3, 4, 5, 6], [0, 1, 2, 3, 4, 5, 6, 7], [0, 1, 2, 3, 4, 5, 6, 7, 8]] (bm 23 4718749) []
          (oC (oS rfl rfl (r_move (av := slV tl nl (kSl sl_ kU8) l) (lt_of rfl) trivial))
          (oC (oS rfl rfl (r_move (av := dv (.int .i64 ((half l.length : Nat) : Int))) (lt_of rfl) trivial))
          (oC (oS rfl rfl (q_slice tl nl (kSl sl_ kU8) l (l.take (half l.length)) 0 (half l.length) (lo := none) (hi := some (.tmp 11, ((half l.length : Nat) : Int))) Try.underlying60 iat_29 rfl rfl rfl rfl rfl (by first | assumption | omega | (unfold maxLen; omega) | (simp [maxLen] <;> omega) | decide) (by first | assumption | omega | (unfold maxLen; omega) | (simp [maxLen] <;> omega) | decide) rfl (lt_of rfl) trivial))
          (oC (oS rfl rfl (r_call (ih ((l.take (half l.length)).length) (show (l.take (half l.length)).length < N from (by first | omega | (simp only [List.length_take, List.length_drop]; omega))) tl nl sl_ (l.take (half l.length)) (by first | assumption | exact fewG_mono (by assumption) (by decide) | exact fewG_take (by assumption) _ | exact fewG_drop (by assumption) _ | exact fewG_set (by assumption) (by assumption) | decide) rfl) Try.func33 rfl (by decide) [] [] (l := [(.tmp 12, slV tl nl (kSl sl_ kU8) (l.take (half l.length)))]) [] rfl 0 0 rfl rfl rfl rfl rfl rfl rfl rfl rfl ⟨.inl ⟨rfl, rfl⟩, trivial⟩ rfl (fun b hb => by cases hb) (.inl rfl) (lt_of rfl) trivial))
          (oC (oS rfl rfl (r_move (av := slV tl nl (kSl sl_ kU8) l) (lt_of rfl) trivial))
          (oC (oS rfl rfl (r_move (av := dv (.int .i64 ((half l.length : Nat) : Int))) (lt_of rfl) trivial))
          (oC (oS rfl rfl (q_slice tl nl (kSl sl_ kU8) l (l.drop (half l.length)) (half l.length) l.length (lo := some (.tmp 15, ((half l.length : Nat) : Int))) (hi := none) Try.underlying60 iat_29 rfl rfl rfl rfl rfl (by first | assumption | omega | (unfold maxLen; omega) | (simp [maxLen] <;> omega) | decide) (by first | assumption | omega | (unfold maxLen; omega) | (simp [maxLen] <;> omega) | decide) (by rw [List.take_length]) (lt_of rfl) trivial))
          (oC (oS rfl rfl (r_call (ih ((l.drop (half l.length)).length) (show (l.drop (half l.length)).length < N from (by first | omega | (simp only [List.length_take, List.length_drop]; omega))) tl nl sl_ (l.drop (half l.length)) (by first | assumption | exact fewG_mono (by assumption) (by decide) | exact fewG_take (by assumption) _ | exact fewG_drop (by assumption) _ | exact fewG_set (by assumption) (by assumption) | decide) rfl) Try.func33 rfl (by decide) [] [] (l := [(.tmp 16, slV tl nl (kSl sl_ kU8) (l.drop (half l.length)))]) [] rfl 0 0 rfl rfl rfl rfl rfl rfl rfl rfl rfl ⟨.inl ⟨rfl, rfl⟩, trivial⟩ rfl (fun b hb => by cases hb) (.inl rfl) (lt_of rfl) trivial))
          (oC (oS rfl rfl (r_call (term_Pair (3 : UInt8) (rootB (l.take (half l.length))) (rootB (l.drop (half l.length))) (by first | assumption | omega | (unfold maxLen; omega) | (simp [maxLen] <;> omega) | decide)) Try.func55 rfl (by decide) [] [] (l := [(.const (.int .u8 3), dv (.int .u8 3)), (.tmp 13, dv (strV (rootB (l.take (half l.length))))), (.tmp 17, dv (strV (rootB (l.drop (half l.length)))))]) [] rfl 0 0 rfl rfl rfl rfl rfl rfl rfl rfl rfl ⟨.inl ⟨rfl, rfl⟩, ⟨.inl ⟨rfl, rfl⟩, ⟨.inl ⟨rfl, rfl⟩, trivial⟩⟩⟩ rfl (fun b hb => by cases hb) (.inl rfl) (lt_of rfl) ⟨rfl, trivial⟩))
          (oC (oS rfl rfl (r_assign (av := dv (strV (ofB (3 : UInt8) [(rootB (l.take (half l.length))), (rootB (l.drop (half l.length)))]))) (lt_of rfl) trivial)) (oZ rfl)))))))))))
          (by kernel_rfl) (by kernel_rfl) (by kernel_rfl) (by kernel_rfl) (by kernel_rfl) ?_
        refine nT ?_
        refine T.ret ?_
        refine rB ?_
        exact tE (.inl rfl) [.t 2 (.one (.d (.val (strV (ofB (3 : UInt8) [(rootB (l.take (half l.length))), (rootB (l.drop (half l.length)))])))))] ⟨⟨rfl, rfl⟩, trivial⟩ [] (by have e1 : ((rootB l) : List UInt8) = (ofB (3 : UInt8) [(rootB (l.take (half l.length))), (rootB (l.drop (half l.length)))]) := (by first | rfl | exact root_0 (by omega) | exact (root_0 (by omega)).symm | exact root_1 (by omega) | exact (root_1 (by omega)).symm | exact root_2 h2l | exact (root_2 h2l).symm); have hE := congrArg (fun (q1 : List UInt8) => (dv (strV q1) : AV)) e1; exact hE) rfl rfl rfl rfl rfl trivial
theorem merkle_Root (tl : Bool) (nl : Bool) (sl_ : Bool) (l : List (List UInt8)) (hf : fewG szL 40 600 l) : Holds Try.prog 33 ⟨[slV tl nl (kSl sl_ kU8) l], [], dv (strV (rootB l)), []⟩ := merkle_Root_rec _ tl nl sl_ l hf rfl

-- quaestor/quaestorref09.Root
theorem ref09_Root_rec : ∀ (N : Nat) (tl : Bool) (nl : Bool) (sl_ : Bool) (l : List (List UInt8)) (hf : fewG szL 40 600 l), l.length = N → Holds Try.prog 35 ⟨[slV tl nl (kSl sl_ kU8) l], [], dv (strV (rootB l)), []⟩ := by
  intro N
  induction N using Nat.strongRecOn with
  | _ N ih =>
    intro tl nl sl_ l hf hN
    refine Holds.of Try.func35 rfl (N := 27) Try.ntmps35 rfl fun w0 B0 S0 U0 => ?_
    show T _ (mkBase 27 0 w0 S0 U0 B0) ⟨[slV tl nl (kSl sl_ kU8) l], []⟩ _ _
    have hl40 := hf.1
    have hg0 : (l.getD 0 []).length ≤ 600 := fewG_get (sz := szL) hf (by decide) 0
    refine T.seq ?_
    refine tR (s1 := ⟨[slV tl nl (kSl sl_ kU8) l, aa, dv (strV [])], []⟩) [true, false, true] []
      (oC (oS rfl rfl (r_assign (av := dv (strV [])) (lt_of rfl) ⟨rfl, trivial⟩)) (oZ rfl))
      (by kernel_rfl) (by kernel_rfl) ?_
    refine nT ?_
    refine T.seq ?_
    refine T.seq ?_
    refine tR (s1 := ⟨[slV tl nl (kSl sl_ kU8) l, aa, dv (strV []), aa, aa, aa, dv (.bool (decide (((l.length : Nat) : Int) = 0)))], []⟩) (bm 7 69) []
      (oC (oS rfl rfl (r_move (av := slV tl nl (kSl sl_ kU8) l) (lt_of rfl) trivial))
      (oC (oS rfl rfl (q_len tl nl (kSl sl_ kU8) l Try.underlying60 (lt_of rfl) trivial))
      (oC (oS rfl rfl (r_bin (u1 := .int .i64 ((l.length : Nat) : Int)) (u2 := .int .i64 0) (v := .bool (decide (((l.length : Nat) : Int) = 0))) b_eql (lt_of rfl) ⟨rfl, trivial⟩)) (oZ rfl))))
      (by kernel_rfl) (by kernel_rfl) ?_
    refine nT ?_
    by_cases hq1 : ((l.length : Nat) : Int) = 0
    · refine T.condT (b := (decide (((l.length : Nat) : Int) = 0))) rfl (decide_eq_true hq1) ?_
      refine T.seq ?_
      refine tR (s1 := ⟨[slV tl nl (kSl sl_ kU8) l, aa, dv (strV (ofB (4 : UInt8) ([] : List (List UInt8)))), aa, aa, aa, dv (.bool (decide (((l.length : Nat) : Int) = 0)))], []⟩) (bm 7 69) []
        (oC (oS rfl rfl (r_call (ref02_Of (4 : UInt8) false false false ([] : List (List UInt8)) (by first | assumption | omega | (unfold maxLen; omega) | (simp [maxLen] <;> omega) | decide)) Try.func37 rfl (by decide) [] [] (l := [(.const (.int .u8 4), dv (.int .u8 4)), (.const (.slice none 0 0), dv (.slice none 0 0))]) [] rfl 0 0 rfl rfl rfl rfl rfl rfl rfl rfl rfl ⟨.inl ⟨rfl, rfl⟩, ⟨.inr (.inr ⟨rfl, rfl, rfl⟩), trivial⟩⟩ rfl (fun b hb => by cases hb) (.inl rfl) (lt_of rfl) ⟨rfl, ⟨rfl, trivial⟩⟩))
        (oC (oS rfl rfl (r_assign (av := dv (strV (ofB (4 : UInt8) ([] : List (List UInt8))))) (lt_of rfl) trivial)) (oZ rfl)))
        (by kernel_rfl) (by kernel_rfl) ?_
      refine nT ?_
      refine T.ret ?_
      refine rT ?_
      exact tE (.inl rfl) [.t 2 (.one (.d (.val (strV (ofB (4 : UInt8) ([] : List (List UInt8)))))))] ⟨⟨rfl, rfl⟩, trivial⟩ [] (by have e1 : ((rootB l) : List UInt8) = (ofB (4 : UInt8) ([] : List (List UInt8))) := (by first | rfl | exact root_0 (by omega) | exact (root_0 (by omega)).symm | exact root_1 (by omega) | exact (root_1 (by omega)).symm | exact root_2 h2l | exact (root_2 h2l).symm); have hE := congrArg (fun (q1 : List UInt8) => (dv (strV q1) : AV)) e1; exact hE) rfl rfl rfl rfl rfl trivial
    · refine T.condF (b := (decide (((l.length : Nat) : Int) = 0))) rfl (decide_eq_false hq1) ?_
      refine T.skip ?_
      refine nT ?_
      refine T.seq ?_
      refine T.seq ?_
      refine tR (s1 := ⟨[slV tl nl (kSl sl_ kU8) l, aa, dv (strV []), aa, aa, aa, dv (.bool (decide (((l.length : Nat) : Int) = 0))), aa, aa, aa, dv (.bool (decide (((l.length : Nat) : Int) = 1)))], []⟩) (bm 11 1093) []
        (oC (oS rfl rfl (r_move (av := slV tl nl (kSl sl_ kU8) l) (lt_of rfl) trivial))
        (oC (oS rfl rfl (q_len tl nl (kSl sl_ kU8) l Try.underlying60 (lt_of rfl) trivial))
        (oC (oS rfl rfl (r_bin (u1 := .int .i64 ((l.length : Nat) : Int)) (u2 := .int .i64 1) (v := .bool (decide (((l.length : Nat) : Int) = 1))) b_eql (lt_of rfl) ⟨rfl, trivial⟩)) (oZ rfl))))
        (by kernel_rfl) (by kernel_rfl) ?_
      refine nT ?_
      by_cases hq2 : ((l.length : Nat) : Int) = 1
      · refine T.condT (b := (decide (((l.length : Nat) : Int) = 1))) rfl (decide_eq_true hq2) ?_
        refine T.seq ?_
        refine tR (s1 := ⟨[slV tl nl (kSl sl_ kU8) l, aa, dv (strV (ofB (2 : UInt8) [(l.getD 0 [])])), aa, aa, aa, dv (.bool (decide (((l.length : Nat) : Int) = 0))), aa, aa, aa, dv (.bool (decide (((l.length : Nat) : Int) = 1)))], []⟩) (bm 11 1093) []
          (oC (oS rfl rfl (r_move (av := slV tl nl (kSl sl_ kU8) l) (lt_of rfl) trivial))
          (oC (oS rfl rfl (q_index tl nl (kSl sl_ kU8) l 0 (k := .i64) (i := 0) Try.underlying60 iat_29 rfl rfl (by first | assumption | omega | (unfold maxLen; omega) | (simp [maxLen] <;> omega) | decide) (lt_of rfl) ⟨rfl, trivial⟩))
          (oC (oS rfl rfl (r_loadE (tag := tl) (n := 1) (el := (kSl sl_ kU8).cell (l.getD 0 (kSl sl_ kU8).z)) (e0 := dsl sl_ false kU8 (l.getD 0 [])) wide_29 (by decide) rfl (lt_of rfl) trivial))
          (oC (oS rfl rfl (r_call (ref02_Leaf (2 : UInt8) sl_ false (l.getD 0 []) (by first | assumption | omega | (unfold maxLen; omega) | (simp [maxLen] <;> omega) | decide)) Try.func56 rfl (by decide) [] [] (l := [(.const (.int .u8 2), dv (.int .u8 2)), (.tmp 13, slV sl_ false kU8 (l.getD 0 []))]) [] rfl 0 0 rfl rfl rfl rfl rfl rfl rfl rfl rfl ⟨.inl ⟨rfl, rfl⟩, ⟨.inl ⟨rfl, rfl⟩, trivial⟩⟩ rfl (fun b hb => by cases hb) (.inl rfl) (lt_of rfl) ⟨rfl, trivial⟩))
          (oC (oS rfl rfl (r_assign (av := dv (strV (ofB (2 : UInt8) [(l.getD 0 [])]))) (lt_of rfl) trivial)) (oZ rfl))))))
          (by kernel_rfl) (by kernel_rfl) ?_
        refine nT ?_
        refine T.ret ?_
        refine rT ?_
        exact tE (.inl rfl) [.t 2 (.one (.d (.val (strV (ofB (2 : UInt8) [(l.getD 0 [])])))))] ⟨⟨rfl, rfl⟩, trivial⟩ [] (by have e1 : ((rootB l) : List UInt8) = (ofB (2 : UInt8) [(l.getD 0 [])]) := (by first | rfl | exact root_0 (by omega) | exact (root_0 (by omega)).symm | exact root_1 (by omega) | exact (root_1 (by omega)).symm | exact root_2 h2l | exact (root_2 h2l).symm); have hE := congrArg (fun (q1 : List UInt8) => (dv (strV q1) : AV)) e1; exact hE) rfl rfl rfl rfl rfl trivial
      · have h2l : 2 ≤ l.length := (by omega); have hhl := half_lt h2l; have hhp := half_pos l.length; have hfa := few_root (fewG_take hf (half l.length)); have hfb := few_root (fewG_drop hf (half l.length))
        refine T.condF (b := (decide (((l.length : Nat) : Int) = 1))) rfl (decide_eq_false hq2) ?_
        refine T.skip ?_
        refine nT ?_
        refine T.seq ?_
        refine tR (s1 := ⟨[slV tl nl (kSl sl_ kU8) l, aa, dv (strV []), dv (.int .i64 ((half l.length : Nat) : Int)), aa, aa, dv (.bool (decide (((l.length : Nat) : Int) = 0))), aa, aa, aa, dv (.bool (decide (((l.length : Nat) : Int) = 1)))], []⟩) (bm 11 1101) []
          (oC (oS rfl rfl (r_move (av := slV tl nl (kSl sl_ kU8) l) (lt_of rfl) trivial))
          (oC (oS rfl rfl (q_len tl nl (kSl sl_ kU8) l Try.underlying60 (lt_of rfl) trivial))
          (oC (oS rfl rfl (r_call (ref09_half l.length (by first | assumption | omega | (unfold maxLen; omega) | (simp [maxLen] <;> omega) | decide) (by first | assumption | omega | (unfold maxLen; omega) | (simp [maxLen] <;> omega) | decide)) Try.func57 rfl (by decide) [] [] (l := [(.tmp 16, dv (.int .i64 ((l.length : Nat) : Int)))]) [] rfl 0 0 rfl rfl rfl rfl rfl rfl rfl rfl rfl ⟨.inl ⟨rfl, rfl⟩, trivial⟩ rfl (fun b hb => by cases hb) (.inl rfl) (lt_of rfl) trivial))
          (oC (oS rfl rfl (r_assign (av := dv (.int .i64 ((half l.length : Nat) : Int))) (lt_of rfl) trivial)) (oZ rfl)))))
          (by kernel_rfl) (by kernel_rfl) ?_
        refine nT ?_
        refine T.seq ?_
        refine tD (s1 := ⟨[slV tl nl (kSl sl_ kU8) l, aa, dv (strV (ofB (3 : UInt8) [(rootB (l.take (half l.length))), (rootB (l.drop (half l.length)))])), dv (.int .i64 ((half l.length : Nat) : Int)), aa, aa, dv (.bool (decide (((l.length : Nat) : Int) = 0))), aa, aa, aa, dv (.bool (decide (((l.length : Nat) : Int) = 1)))], []⟩) (by kernel_rfl) [[], [], [0, 1], [0, 1, 2], [], [], [4, 5], [0, 1, 2, 3, 4, 5, 6], [0, 1, 2, 3, 4, 5, 6, 7], [0, 1, 2, 3, 4, 5, 6, 7, 8]] (bm 11 1101) []
          (oC (oS rfl rfl (r_move (av := slV tl nl (kSl sl_ kU8) l) (lt_of rfl) trivial))
          (oC (oS rfl rfl (r_move (av := dv (.int .i64 ((half l.length : Nat) : Int))) (lt_of rfl) trivial))
          (oC (oS rfl rfl (q_slice tl nl (kSl sl_ kU8) l (l.take (half l.length)) 0 (half l.length) (lo := none) (hi := some (.tmp 19, ((half l.length : Nat) : Int))) Try.underlying60 iat_29 rfl rfl rfl rfl rfl (by first | assumption | omega | (unfold maxLen; omega) | (simp [maxLen] <;> omega) | decide) (by first | assumption | omega | (unfold maxLen; omega) | (simp [maxLen] <;> omega) | decide) rfl (lt_of rfl) trivial))
          (oC (oS rfl rfl (r_call (ih ((l.take (half l.length)).length) (show (l.take (half l.length)).length < N from (by first | omega | (simp only [List.length_take, List.length_drop]; omega))) tl nl sl_ (l.take (half l.length)) (by first | assumption | exact fewG_mono (by assumption) (by decide) | exact fewG_take (by assumption) _ | exact fewG_drop (by assumption) _ | exact fewG_set (by assumption) (by assumption) | decide) rfl) Try.func35 rfl (by decide) [] [] (l := [(.tmp 20, slV tl nl (kSl sl_ kU8) (l.take (half l.length)))]) [] rfl 0 0 rfl rfl rfl rfl rfl rfl rfl rfl rfl ⟨.inl ⟨rfl, rfl⟩, trivial⟩ rfl (fun b hb => by cases hb) (.inl rfl) (lt_of rfl) trivial))
          (oC (oS rfl rfl (r_move (av := slV tl nl (kSl sl_ kU8) l) (lt_of rfl) trivial))
          (oC (oS rfl rfl (r_move (av := dv (.int .i64 ((half l.length : Nat) : Int))) (lt_of rfl) trivial))
          (oC (oS rfl rfl (q_slice tl nl (kSl sl_ kU8) l (l.drop (half l.length)) (half l.length) l.length (lo := some (.tmp 23, ((half l.length : Nat) : Int))) (hi := none) Try.underlying60 iat_29 rfl rfl rfl rfl rfl (by first | assumption | omega | (unfold maxLen; omega) | (simp [maxLen] <;> omega) | decide) (by first | assumption | omega | (unfold maxLen; omega) | (simp [maxLen] <;> omega) | decide) (by rw [List.take_length]) (lt_of rfl) trivial))
          (oC (oS rfl rfl (r_call (ih ((l.drop (half l.length)).length) (show (l.drop (half l.length)).length < N from (by first | omega | (simp only [List.length_take, List.length_drop]; omega))) tl nl sl_ (l.drop (half l.length)) (by first | assumption | exact fewG_mono (by assumption) (by decide) | exact fewG_take (by assumption) _ | exact fewG_drop (by assumption) _ | exact fewG_set (by assumption) (by assumption) | decide) rfl) Try.func35 rfl (by decide) [] [] (l := [(.tmp 24, slV tl nl (kSl sl_ kU8) (l.drop (half l.length)))]) [] rfl 0 0 rfl rfl rfl rfl rfl rfl rfl rfl rfl ⟨.inl ⟨rfl, rfl⟩, trivial⟩ rfl (fun b hb => by cases hb) (.inl rfl) (lt_of rfl) trivial))
          (oC (oS rfl rfl (r_call (ref02_Pair (3 : UInt8) (rootB (l.take (half l.length))) (rootB (l.drop (half l.length))) (by first | assumption | omega | (unfold maxLen; omega) | (simp [maxLen] <;> omega) | decide)) Try.func58 rfl (by decide) [] [] (l := [(.const (.int .u8 3), dv (.int .u8 3)), (.tmp 21, dv (strV (rootB (l.take (half l.length))))), (.tmp 25, dv (strV (rootB (l.drop (half l.length)))))]) [] rfl 0 0 rfl rfl rfl rfl rfl rfl rfl rfl rfl ⟨.inl ⟨rfl, rfl⟩, ⟨.inl ⟨rfl, rfl⟩, ⟨.inl ⟨rfl, rfl⟩, trivial⟩⟩⟩ rfl (fun b hb => by cases hb) (.inl rfl) (lt_of rfl) ⟨rfl, trivial⟩))
          (oC (oS rfl rfl (r_assign (av := dv (strV (ofB (3 : UInt8) [(rootB (l.take (half l.length))), (rootB (l.drop (half l.length)))]))) (lt_of rfl) trivial)) (oZ rfl)))))))))))
          (by kernel_rfl) (by kernel_rfl) (by kernel_rfl) (by kernel_rfl) (by kernel_rfl) ?_
        refine nT ?_
        refine T.ret ?_
        exact tE (.inl rfl) [.t 2 (.one (.d (.val (strV (ofB (3 : UInt8) [(rootB (l.take (half l.length))), (rootB (l.drop (half l.length)))])))))] ⟨⟨rfl, rfl⟩, trivial⟩ [] (by have e1 : ((rootB l) : List UInt8) = (ofB (3 : UInt8) [(rootB (l.take (half l.length))), (rootB (l.drop (half l.length)))]) := (by first | rfl | exact root_0 (by omega) | exact (root_0 (by omega)).symm | exact root_1 (by omega) | exact (root_1 (by omega)).symm | exact root_2 h2l | exact (root_2 h2l).symm); have hE := congrArg (fun (q1 : List UInt8) => (dv (strV q1) : AV)) e1; exact hE) rfl rfl rfl rfl rfl trivial
theorem ref09_Root (tl : Bool) (nl : Bool) (sl_ : Bool) (l : List (List UInt8)) (hf : fewG szL 40 600 l) : Holds Try.prog 35 ⟨[slV tl nl (kSl sl_ kU8) l], [], dv (strV (rootB l)), []⟩ := ref09_Root_rec _ tl nl sl_ l hf rfl

theorem iat_67 : Try.prog.info? 67 = some Try.t67 := by kernel_rfl
theorem wide_67 : Wide Try.prog 67 (some 2) := ⟨_, _, Try.underlying67, .inl ⟨_, rfl⟩, iat_67, rfl⟩
theorem cells_67 : Cells Try.prog 67 2 := ⟨_, iat_67, rfl⟩
-- slices.Reverse[[]quaestor/api.Step,quaestor/api.Step]
theorem rev_Step (l : List api_Step) (hl : l.length ≤ 3000000) : Holds Try.prog 59 ⟨[ownV 0 (k_api_Step false) 0 l.length], [arrK 67 (k_api_Step false) l], .tup [], [.live (arrK 67 (k_api_Step false) l.reverse)]⟩ := by
  refine Holds.of Try.func59 rfl (N := 28) Try.ntmps59 rfl fun w0 B0 S0 U0 => ?_
  show T _ (mkBase 28 1 w0 S0 U0 B0) ⟨[ownV 0 (k_api_Step false) 0 l.length], [.live (arrK 67 (k_api_Step false) l)]⟩ _ _
  refine T.seq ?_
  refine tR (s1 := ⟨[ownV 0 (k_api_Step false) 0 l.length, aa, dv (.int .i64 0), dv (.int .i64 (((l.length : Nat) : Int) - 1))], [.live (arrK 67 (k_api_Step false) l)]⟩) (bm 4 13) [true]
    (oC (oS rfl rfl (r_move (av := ownV 0 (k_api_Step false) 0 l.length) (lt_of rfl) trivial))
    (oC (oS rfl rfl (r_lenO (l := 0) (sz := (k_api_Step false).sz) (off := 0) (n := l.length) Try.underlying42 (lt_of rfl) trivial))
    (oC (oS rfl rfl (r_bin (u1 := .int .i64 ((l.length : Nat) : Int)) (u2 := .int .i64 1) (v := .int .i64 (((l.length : Nat) : Int) - 1)) (b_sub (by rw [IntKind.wrap_i64]; omega)) (lt_of rfl) ⟨rfl, trivial⟩))
    (oC (oS rfl rfl (r_assign (av := dv (.int .i64 0)) (lt_of rfl) ⟨rfl, trivial⟩))
    (oC (oS rfl rfl (r_assign (av := dv (.int .i64 (((l.length : Nat) : Int) - 1))) (lt_of rfl) trivial)) (oZ rfl))))))
    (by kernel_rfl) (by kernel_rfl) ?_
  refine nT ?_
  refine T.block ?_
  refine T.loop (ι := Nat × (List api_Step)) (fun (x_ : Nat × (List api_Step)) => ⟨[ownV 0 (k_api_Step false) 0 l.length, aa, dv (.int .i64 ((x_.1 : Nat) : Int)), dv (.int .i64 (((l.length : Nat) : Int) - 1 - ((x_.1 : Nat) : Int)))], [.live (arrK 67 (k_api_Step false) x_.2)]⟩) (fun (x_ : Nat × (List api_Step)) => (2 * x_.1 ≤ l.length) ∧ (revI z_api_Step l x_.1 x_.2)) (fun (x_ : Nat × (List api_Step)) => l.length - x_.1) (0, l) ⟨(by omega), (rev_0 _ _)⟩ (fun _ _ hG => Gs.into2 (s := ⟨[ownV 0 (k_api_Step false) 0 l.length, aa, dv (.int .i64 0), dv (.int .i64 (((l.length : Nat) : Int) - 1))], [.live (arrK 67 (k_api_Step false) l)]⟩) (s' := ⟨[ownV 0 (k_api_Step false) 0 l.length, aa, dv (.int .i64 0), dv (.int .i64 (((l.length : Nat) : Int) - 1 - ((0 : Nat) : Int)))], [.live (arrK 67 (k_api_Step false) l)]⟩) [0] (bm 4 13) (t1 := [ownV 0 (k_api_Step false) 0 l.length, aa, dv (.int .i64 0), dv (.int .i64 (((l.length : Nat) : Int) - 1 - ((0 : Nat) : Int)))]) (t2 := [ownV 0 (k_api_Step false) 0 l.length, aa, dv (.int .i64 0), dv (.int .i64 (((l.length : Nat) : Int) - 1))]) (h1 := [.live (arrK 67 (k_api_Step false) l)]) (h2 := [.live (arrK 67 (k_api_Step false) l)]) (by have e1 : (((l.length : Nat) : Int) - 1 - ((0 : Nat) : Int) : Int) = ((l.length : Nat) : Int) - 1 := (by first | rfl | omega); have hE := congrArg (fun (q1 : Int) => ([ownV 0 (k_api_Step false) 0 l.length, aa, dv (.int .i64 0), dv (.int .i64 q1)] : List AV)) e1; exact hE) rfl (by kernel_rfl) (by kernel_rfl) (by kernel_rfl) (by kernel_rfl) (by kernel_rfl) (by kernel_rfl) (by kernel_rfl) (by kernel_rfl) (by kernel_rfl) (by kernel_rfl) (by kernel_rfl) hG) ?_
  rintro ⟨i, ys⟩ ⟨hi, hr⟩
  show T _ _ ⟨[ownV 0 (k_api_Step false) 0 l.length, aa, dv (.int .i64 ((i : Nat) : Int)), dv (.int .i64 (((l.length : Nat) : Int) - 1 - ((i : Nat) : Int)))], [.live (arrK 67 (k_api_Step false) ys)]⟩ _ _
  replace hi : 2 * i ≤ l.length := hi
  replace hr : revI z_api_Step l i ys := hr
  have hy1 := hr.1
  refine T.seq ?_
  refine T.seq ?_
  refine tR (s1 := ⟨[ownV 0 (k_api_Step false) 0 l.length, aa, dv (.int .i64 ((i : Nat) : Int)), dv (.int .i64 (((l.length : Nat) : Int) - 1 - ((i : Nat) : Int))), aa, aa, aa, aa, aa, dv (.bool (decide (((i : Nat) : Int) < (((l.length : Nat) : Int) - 1 - ((i : Nat) : Int)))))], [.live (arrK 67 (k_api_Step false) ys)]⟩) (bm 10 525) [true]
    (oC (oS rfl rfl (r_move (av := dv (.int .i64 ((i : Nat) : Int))) (lt_of rfl) trivial))
    (oC (oS rfl rfl (r_move (av := dv (.int .i64 (((l.length : Nat) : Int) - 1 - ((i : Nat) : Int)))) (lt_of rfl) trivial))
    (oC (oS rfl rfl (r_bin (u1 := .int .i64 ((i : Nat) : Int)) (u2 := .int .i64 (((l.length : Nat) : Int) - 1 - ((i : Nat) : Int))) (v := .bool (decide (((i : Nat) : Int) < (((l.length : Nat) : Int) - 1 - ((i : Nat) : Int))))) b_lss (lt_of rfl) trivial)) (oZ rfl))))
    (by kernel_rfl) (by kernel_rfl) ?_
  refine nT ?_
  by_cases hq1 : ((i : Nat) : Int) < (((l.length : Nat) : Int) - 1 - ((i : Nat) : Int))
  · refine T.condT (b := (decide (((i : Nat) : Int) < (((l.length : Nat) : Int) - 1 - ((i : Nat) : Int))))) rfl (decide_eq_true hq1) ?_
    refine T.skip ?_
    refine nT ?_
    refine T.seq ?_
    refine T.block ?_
    refine tD (s1 := ⟨[ownV 0 (k_api_Step false) 0 l.length, aa, dv (.int .i64 ((i : Nat) : Int)), dv (.int .i64 (((l.length : Nat) : Int) - 1 - ((i : Nat) : Int))), aa, aa, aa, aa, aa, dv (.bool (decide (((i : Nat) : Int) < (((l.length : Nat) : Int) - 1 - ((i : Nat) : Int)))))], [.live (arrK 67 (k_api_Step false) ((ys.set i (ys.getD (((l.length : Nat) : Int) - 1 - ((i : Nat) : Int)).toNat z_api_Step)).set (((l.length : Nat) : Int) - 1 - ((i : Nat) : Int)).toNat (ys.getD i z_api_Step)))]⟩) (by kernel_rfl) [[], [], [], [], [], [], [4, 5], [4, 5, 6], [], [], [8, 9], [8, 9, 10], [0, 1, 4, 5, 6, 7, 8, 9, 10, 11], [0, 1, 4, 5, 6, 7, 8, 9, 10, 11, 12], [0, 1, 2, 3, 4, 5, 6, 7, 8, 9, 10, 11, 12, 13], [0, 1, 2, 3, 4, 5, 6, 7, 8, 9, 10, 11, 12, 13, 14]] (bm 10 525) [true]
      (oC (oS rfl rfl (r_move (av := ownV 0 (k_api_Step false) 0 l.length) (lt_of rfl) trivial))
      (oC (oS rfl rfl (r_move (av := dv (.int .i64 ((i : Nat) : Int))) (lt_of rfl) trivial))
      (oC (oS rfl rfl (r_move (av := ownV 0 (k_api_Step false) 0 l.length) (lt_of rfl) trivial))
      (oC (oS rfl rfl (r_move (av := dv (.int .i64 (((l.length : Nat) : Int) - 1 - ((i : Nat) : Int)))) (lt_of rfl) trivial))
      (oC (oS rfl rfl (r_move (av := ownV 0 (k_api_Step false) 0 l.length) (lt_of rfl) trivial))
      (oC (oS rfl rfl (r_move (av := dv (.int .i64 (((l.length : Nat) : Int) - 1 - ((i : Nat) : Int)))) (lt_of rfl) trivial))
      (oC (oS rfl rfl (r_indexO (k := .i64) (l := 0) (sz := (k_api_Step false).sz) (off := 0) (n := l.length) (i := (((l.length : Nat) : Int) - 1 - ((i : Nat) : Int))) (m := (((l.length : Nat) : Int) - 1 - ((i : Nat) : Int)).toNat) (o' := (((l.length : Nat) : Int) - 1 - ((i : Nat) : Int)).toNat * (k_api_Step false).sz + 0) Try.underlying42 iat_67 rfl (by omega) (by first | assumption | omega | (unfold maxLen; omega) | (simp [maxLen] <;> omega) | decide) (by first | rfl | simp) (lt_of rfl) trivial))
      (oC (oS rfl rfl (r_loadAs (l := 0) (off := (((l.length : Nat) : Int) - 1 - ((i : Nat) : Int)).toNat * (k_api_Step false).sz + 0) (i := (((l.length : Nat) : Int) - 1 - ((i : Nat) : Int)).toNat) (j := 0) (T := 67) (sz := (k_api_Step false).sz) (n := ys.length) (el := elOf (k_api_Step false) ys) (ds := [.d (.val (.bool (ys.getD (((l.length : Nat) : Int) - 1 - ((i : Nat) : Int)).toNat z_api_Step).f_Left)), .d (.val (strV (ys.getD (((l.length : Nat) : Int) - 1 - ((i : Nat) : Int)).toNat z_api_Step).f_Digest))]) wide_67 rfl (by first | assumption | omega | (unfold maxLen; omega) | (simp [maxLen] <;> omega) | decide) (by decide) rfl (lt_of rfl) trivial))
      (oC (oS rfl rfl (r_move (av := ownV 0 (k_api_Step false) 0 l.length) (lt_of rfl) trivial))
      (oC (oS rfl rfl (r_move (av := dv (.int .i64 ((i : Nat) : Int))) (lt_of rfl) trivial))
      (oC (oS rfl rfl (r_indexO (k := .i64) (l := 0) (sz := (k_api_Step false).sz) (off := 0) (n := l.length) (i := ((i : Nat) : Int)) (m := i) (o' := i * (k_api_Step false).sz + 0) Try.underlying42 iat_67 rfl rfl (by first | assumption | omega | (unfold maxLen; omega) | (simp [maxLen] <;> omega) | decide) (by first | rfl | simp) (lt_of rfl) trivial))
      (oC (oS rfl rfl (r_loadAs (l := 0) (off := i * (k_api_Step false).sz + 0) (i := i) (j := 0) (T := 67) (sz := (k_api_Step false).sz) (n := ys.length) (el := elOf (k_api_Step false) ys) (ds := [.d (.val (.bool (ys.getD i z_api_Step).f_Left)), .d (.val (strV (ys.getD i z_api_Step).f_Digest))]) wide_67 rfl (by first | assumption | omega | (unfold maxLen; omega) | (simp [maxLen] <;> omega) | decide) (by decide) rfl (lt_of rfl) trivial))
      (oC (oS rfl rfl (r_indexO (k := .i64) (l := 0) (sz := (k_api_Step false).sz) (off := 0) (n := l.length) (i := ((i : Nat) : Int)) (m := i) (o' := i * (k_api_Step false).sz + 0) Try.underlying42 iat_67 rfl rfl (by first | assumption | omega | (unfold maxLen; omega) | (simp [maxLen] <;> omega) | decide) (by first | rfl | simp) (lt_of rfl) trivial))
      (oC (oS rfl rfl (q_storeA 0 67 (k_api_Step false) ys (ys.getD (((l.length : Nat) : Int) - 1 - ((i : Nat) : Int)).toNat z_api_Step) i 0 2 [.val (.bool (ys.getD (((l.length : Nat) : Int) - 1 - ((i : Nat) : Int)).toNat z_api_Step).f_Left), .val (strV (ys.getD (((l.length : Nat) : Int) - 1 - ((i : Nat) : Int)).toNat z_api_Step).f_Digest)] (tv := .agg [.d (.val (.bool (ys.getD (((l.length : Nat) : Int) - 1 - ((i : Nat) : Int)).toNat z_api_Step).f_Left)), .d (.val (strV (ys.getD (((l.length : Nat) : Int) - 1 - ((i : Nat) : Int)).toNat z_api_Step).f_Digest))]) (off := i * (k_api_Step false).sz + 0) cells_67 ⟨(.inl rfl), ⟨(.inl rfl), trivial⟩⟩ rfl rfl (by first | assumption | omega | (unfold maxLen; omega) | (simp [maxLen] <;> omega) | decide) (by decide) rfl (by intro j hj; replace hj : j < 2 := hj; rcases j with _ | _ | j <;> first | rfl | omega) trivial))
      (oC (oS rfl rfl (r_indexO (k := .i64) (l := 0) (sz := (k_api_Step false).sz) (off := 0) (n := l.length) (i := (((l.length : Nat) : Int) - 1 - ((i : Nat) : Int))) (m := (((l.length : Nat) : Int) - 1 - ((i : Nat) : Int)).toNat) (o' := (((l.length : Nat) : Int) - 1 - ((i : Nat) : Int)).toNat * (k_api_Step false).sz + 0) Try.underlying42 iat_67 rfl (by omega) (by first | assumption | omega | (unfold maxLen; omega) | (simp [maxLen] <;> omega) | decide) (by first | rfl | simp) (lt_of rfl) trivial))
      (oC (oS rfl rfl (q_storeA 0 67 (k_api_Step false) (ys.set i (ys.getD (((l.length : Nat) : Int) - 1 - ((i : Nat) : Int)).toNat z_api_Step)) (ys.getD i z_api_Step) (((l.length : Nat) : Int) - 1 - ((i : Nat) : Int)).toNat 0 2 [.val (.bool (ys.getD i z_api_Step).f_Left), .val (strV (ys.getD i z_api_Step).f_Digest)] (tv := .agg [.d (.val (.bool (ys.getD i z_api_Step).f_Left)), .d (.val (strV (ys.getD i z_api_Step).f_Digest))]) (off := (((l.length : Nat) : Int) - 1 - ((i : Nat) : Int)).toNat * (k_api_Step false).sz + 0) cells_67 ⟨(.inl rfl), ⟨(.inl rfl), trivial⟩⟩ rfl rfl (by first | assumption | omega | (unfold maxLen; omega) | (simp [maxLen] <;> omega) | decide) (by decide) rfl (by intro j hj; replace hj : j < 2 := hj; rcases j with _ | _ | j <;> first | rfl | omega) trivial)) (oZ rfl)))))))))))))))))
      (by kernel_rfl) (by kernel_rfl) (by kernel_rfl) (by kernel_rfl) (by kernel_rfl) ?_
    refine nB ?_
    refine nT ?_
    refine tR (s1 := ⟨[ownV 0 (k_api_Step false) 0 l.length, aa, dv (.int .i64 ((i + 1 : Nat) : Int)), dv (.int .i64 ((((l.length : Nat) : Int) - 1 - ((i : Nat) : Int)) - 1)), aa, aa, aa, aa, aa, dv (.bool (decide (((i : Nat) : Int) < (((l.length : Nat) : Int) - 1 - ((i : Nat) : Int)))))], [.live (arrK 67 (k_api_Step false) ((ys.set i (ys.getD (((l.length : Nat) : Int) - 1 - ((i : Nat) : Int)).toNat z_api_Step)).set (((l.length : Nat) : Int) - 1 - ((i : Nat) : Int)).toNat (ys.getD i z_api_Step)))]⟩) (bm 10 525) [true]
      (oC (oS rfl rfl (r_move (av := dv (.int .i64 ((i : Nat) : Int))) (lt_of rfl) trivial))
      (oC (oS rfl rfl (r_bin (u1 := .int .i64 ((i : Nat) : Int)) (u2 := .int .i64 1) (v := .int .i64 ((i + 1 : Nat) : Int)) (b_add (by rw [IntKind.wrap_i64]; omega)) (lt_of rfl) ⟨rfl, trivial⟩))
      (oC (oS rfl rfl (r_move (av := dv (.int .i64 (((l.length : Nat) : Int) - 1 - ((i : Nat) : Int)))) (lt_of rfl) trivial))
      (oC (oS rfl rfl (r_bin (u1 := .int .i64 (((l.length : Nat) : Int) - 1 - ((i : Nat) : Int))) (u2 := .int .i64 1) (v := .int .i64 ((((l.length : Nat) : Int) - 1 - ((i : Nat) : Int)) - 1)) (b_sub (by rw [IntKind.wrap_i64]; omega)) (lt_of rfl) ⟨rfl, trivial⟩))
      (oC (oS rfl rfl (r_assign (av := dv (.int .i64 ((i + 1 : Nat) : Int))) (lt_of rfl) trivial))
      (oC (oS rfl rfl (r_assign (av := dv (.int .i64 ((((l.length : Nat) : Int) - 1 - ((i : Nat) : Int)) - 1))) (lt_of rfl) trivial)) (oZ rfl)))))))
      (by kernel_rfl) (by kernel_rfl) ?_
    refine nL (i + 1, ((ys.set i (ys.getD (((l.length : Nat) : Int) - 1 - ((i : Nat) : Int)).toNat z_api_Step)).set (((l.length : Nat) : Int) - 1 - ((i : Nat) : Int)).toNat (ys.getD i z_api_Step))) ⟨(show 2 * (i + 1) ≤ l.length from (by omega)), (show revI z_api_Step l (i + 1) ((ys.set i (ys.getD (((l.length : Nat) : Int) - 1 - ((i : Nat) : Int)).toNat z_api_Step)).set (((l.length : Nat) : Int) - 1 - ((i : Nat) : Int)).toNat (ys.getD i z_api_Step)) from (rev_step hr (by omega) (by omega)))⟩ (show (l.length - (i + 1) : Nat) < l.length - i from (by omega)) (fun _ _ hG => Gs.into2 (s := ⟨[ownV 0 (k_api_Step false) 0 l.length, aa, dv (.int .i64 ((i + 1 : Nat) : Int)), dv (.int .i64 ((((l.length : Nat) : Int) - 1 - ((i : Nat) : Int)) - 1)), aa, aa, aa, aa, aa, dv (.bool (decide (((i : Nat) : Int) < (((l.length : Nat) : Int) - 1 - ((i : Nat) : Int)))))], [.live (arrK 67 (k_api_Step false) ((ys.set i (ys.getD (((l.length : Nat) : Int) - 1 - ((i : Nat) : Int)).toNat z_api_Step)).set (((l.length : Nat) : Int) - 1 - ((i : Nat) : Int)).toNat (ys.getD i z_api_Step)))]⟩) (s' := ⟨[ownV 0 (k_api_Step false) 0 l.length, aa, dv (.int .i64 ((i + 1 : Nat) : Int)), dv (.int .i64 (((l.length : Nat) : Int) - 1 - ((i + 1 : Nat) : Int)))], [.live (arrK 67 (k_api_Step false) ((ys.set i (ys.getD (((l.length : Nat) : Int) - 1 - ((i : Nat) : Int)).toNat z_api_Step)).set (((l.length : Nat) : Int) - 1 - ((i : Nat) : Int)).toNat (ys.getD i z_api_Step)))]⟩) [0] (bm 4 13) (t1 := [ownV 0 (k_api_Step false) 0 l.length, aa, dv (.int .i64 ((i + 1 : Nat) : Int)), dv (.int .i64 (((l.length : Nat) : Int) - 1 - ((i + 1 : Nat) : Int)))]) (t2 := [ownV 0 (k_api_Step false) 0 l.length, aa, dv (.int .i64 ((i + 1 : Nat) : Int)), dv (.int .i64 ((((l.length : Nat) : Int) - 1 - ((i : Nat) : Int)) - 1))]) (h1 := [.live (arrK 67 (k_api_Step false) ((ys.set i (ys.getD (((l.length : Nat) : Int) - 1 - ((i : Nat) : Int)).toNat z_api_Step)).set (((l.length : Nat) : Int) - 1 - ((i : Nat) : Int)).toNat (ys.getD i z_api_Step)))]) (h2 := [.live (arrK 67 (k_api_Step false) ((ys.set i (ys.getD (((l.length : Nat) : Int) - 1 - ((i : Nat) : Int)).toNat z_api_Step)).set (((l.length : Nat) : Int) - 1 - ((i : Nat) : Int)).toNat (ys.getD i z_api_Step)))]) (by have e1 : (((l.length : Nat) : Int) - 1 - ((i + 1 : Nat) : Int) : Int) = (((l.length : Nat) : Int) - 1 - ((i : Nat) : Int)) - 1 := (by first | rfl | omega); have hE := congrArg (fun (q1 : Int) => ([ownV 0 (k_api_Step false) 0 l.length, aa, dv (.int .i64 ((i + 1 : Nat) : Int)), dv (.int .i64 q1)] : List AV)) e1; exact hE) rfl (by kernel_rfl) (by kernel_rfl) (by kernel_rfl) (by kernel_rfl) (by kernel_rfl) (by kernel_rfl) (by kernel_rfl) (by kernel_rfl) (by kernel_rfl) (by kernel_rfl) (by kernel_rfl) hG)
  · refine T.condF (b := (decide (((i : Nat) : Int) < (((l.length : Nat) : Int) - 1 - ((i : Nat) : Int))))) rfl (decide_eq_false hq1) ?_
    refine T.exit ?_
    refine xT ?_
    refine xT ?_
    refine xH ?_
    exact tE (.inr rfl) [] trivial [0] rfl rfl rfl rfl rfl rfl ⟨⟨rfl, (by have e1 : (ys : List api_Step) = l.reverse := (by first | rfl | exact (rev_end hr (by omega)).symm | exact rev_end hr (by omega)); have hE := congrArg (fun (q1 : List api_Step) => (.live (arrK 67 (k_api_Step false) q1) : HS)) e1; exact hE)⟩, trivial⟩
end Go.Proofs.Ytacikihlgpnjhaa.Q
