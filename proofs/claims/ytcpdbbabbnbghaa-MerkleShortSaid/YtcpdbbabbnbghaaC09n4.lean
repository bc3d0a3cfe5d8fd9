import Derived.Test.YtcpdbbabbnbghaaC09n3
namespace Go.Proofs.Ytcpdbbabbnbghaa.Q
open Go Go.RowKit
set_option linter.unusedVariables false
set_option linter.unusedSimpArgs false
set_option maxRecDepth 100000
set_option maxHeartbeats 4000000
-- quaestor/merkle.split
theorem merkle_split (n : Nat) (h2 : 2 ≤ n) (hn : n ≤ 9223372036854775807) : Holds Try.prog 23 ⟨[dv (.int .i64 ((n : Nat) : Int))], [], dv (.int .i64 ((half n : Nat) : Int)), []⟩ := by
  refine Holds.of Try.func23 rfl (N := 9) Try.ntmps23 rfl fun w0 B0 S0 U0 => ?_
  show T _ (mkBase 9 0 w0 S0 U0 B0) ⟨[dv (.int .i64 ((n : Nat) : Int))], []⟩ _ _
  have hlg := log_le hn h2
  refine T.seq ?_
  refine tR (s1 := ⟨[dv (.int .i64 ((n : Nat) : Int)), AV.any, dv (.int .i64 0)], []⟩) [true, false, true] []
    (oC (oS rfl rfl (r_assign (av := dv (.int .i64 0)) (lt_of rfl) ⟨rfl, trivial⟩)) (oZ rfl))
    (by kernel_rfl) (by kernel_rfl) ?_
  refine nT ?_
  refine T.seq ?_
  refine tR (s1 := ⟨[dv (.int .i64 ((n : Nat) : Int)), AV.any, dv (.int .i64 ((half n : Nat) : Int))], []⟩) [true, false, true] []
    (oC (oS rfl rfl (r_move (av := dv (.int .i64 ((n : Nat) : Int))) (lt_of rfl) trivial))
    (oC (oS rfl rfl (r_bin (u1 := .int .i64 ((n : Nat) : Int)) (u2 := .int .i64 1) (v := .int .i64 ((n - 1 : Nat) : Int)) (b_sub (by rw [IntKind.wrap_i64]; omega)) (lt_of rfl) ⟨rfl, trivial⟩))
    (oC (oS rfl rfl (r_conv (u := .int .i64 ((n - 1 : Nat) : Int)) (v := .int .u64 ((n - 1 : Nat) : Int)) (c_int Try.underlying3 Try.underlying55 (by first | rfl | (rw [IntKind.wrap_u64]; omega))) (lt_of rfl) trivial))
    (oC (oS rfl rfl (r_call (bits_Len (n - 1) (by first | assumption | omega | (simp only [maxLen, kU8_sz, kSl_sz, k_api_Step_sz, k_quaestorlaw09_Claim_sz]; omega) | (simp only [maxLen, kU8_sz, kSl_sz, k_api_Step_sz, k_quaestorlaw09_Claim_sz, List.length_append, List.length_cons, List.length_nil, List.length_take, List.length_drop, List.length_set]; omega) | decide)) Try.func35 rfl (by decide) [] [] (l := [(.tmp 5, dv (.int .u64 ((n - 1 : Nat) : Int)))]) [] rfl 0 0 rfl rfl rfl rfl rfl rfl rfl rfl rfl ⟨.inl ⟨rfl, rfl⟩, trivial⟩ rfl (fun b hb => by cases hb) (.inl rfl) (lt_of rfl) trivial))
    (oC (oS rfl rfl (r_bin (u1 := .int .i64 ((lenN (n - 1) : Nat) : Int)) (u2 := .int .i64 1) (v := .int .i64 ((Nat.log2 (n - 1) : Nat) : Int)) (b_sub (by rw [lenN_pos (by omega), IntKind.wrap_i64]; omega)) (lt_of rfl) ⟨rfl, trivial⟩))
    (oC (oS rfl rfl (r_bin (u1 := .int .i64 1) (u2 := .int .i64 ((Nat.log2 (n - 1) : Nat) : Int)) (v := .int .i64 ((half n : Nat) : Int)) (b_shl (n := Nat.log2 (n - 1)) rfl (Nat.le_trans hlg (by decide)) (shl_half hn h2)) (lt_of rfl) ⟨rfl, trivial⟩))
    (oC (oS rfl rfl (r_assign (av := dv (.int .i64 ((half n : Nat) : Int))) (lt_of rfl) trivial)) (oZ rfl))))))))
    (by kernel_rfl) (by kernel_rfl) ?_
  refine nT ?_
  refine T.ret ?_
  exact tE (.inl rfl) [.t 2 (.one (.d (.val (.int .i64 ((half n : Nat) : Int)))))] ⟨⟨rfl, rfl⟩, trivial⟩ [] rfl rfl rfl rfl rfl rfl trivial

-- quaestor/quaestorref09.half
theorem ref09_half (n : Nat) (h2 : 2 ≤ n) (hn : n ≤ 9223372036854775807) : Holds Try.prog 27 ⟨[dv (.int .i64 ((n : Nat) : Int))], [], dv (.int .i64 ((half n : Nat) : Int)), []⟩ := by
  refine Holds.of Try.func27 rfl (N := 12) Try.ntmps27 rfl fun w0 B0 S0 U0 => ?_
  show T _ (mkBase 12 0 w0 S0 U0 B0) ⟨[dv (.int .i64 ((n : Nat) : Int))], []⟩ _ _
  refine T.seq ?_
  refine tR (s1 := ⟨[dv (.int .i64 ((n : Nat) : Int)), AV.any, dv (.int .i64 0)], []⟩) [true, false, true] []
    (oC (oS rfl rfl (r_assign (av := dv (.int .i64 0)) (lt_of rfl) ⟨rfl, trivial⟩)) (oZ rfl))
    (by kernel_rfl) (by kernel_rfl) ?_
  refine nT ?_
  refine T.seq ?_
  refine tR (s1 := ⟨[dv (.int .i64 ((n : Nat) : Int)), AV.any, dv (.int .i64 0), dv (.int .i64 1)], []⟩) [true, false, true, true] []
    (oC (oS rfl rfl (r_assign (av := dv (.int .i64 1)) (lt_of rfl) ⟨rfl, trivial⟩)) (oZ rfl))
    (by kernel_rfl) (by kernel_rfl) ?_
  refine nT ?_
  refine T.seq ?_
  refine T.block ?_
  refine T.loop (ι := Nat) (fun (K : Nat) => ⟨[dv (.int .i64 ((n : Nat) : Int)), AV.any, dv (.int .i64 0), dv (.int .i64 ((K : Nat) : Int))], []⟩) (fun (K : Nat) => (∃ j, K = 2 ^ j) ∧ (K < n)) (fun (K : Nat) => n - K) (1) ⟨⟨0, rfl⟩, (by omega)⟩ (fun _ _ hG => Gs.into2 (s := ⟨[dv (.int .i64 ((n : Nat) : Int)), AV.any, dv (.int .i64 0), dv (.int .i64 1)], []⟩) (s' := ⟨[dv (.int .i64 ((n : Nat) : Int)), AV.any, dv (.int .i64 0), dv (.int .i64 1)], []⟩) [] [true, false, true, true] (t1 := [dv (.int .i64 ((n : Nat) : Int)), AV.any, dv (.int .i64 0), dv (.int .i64 1)]) (t2 := [dv (.int .i64 ((n : Nat) : Int)), AV.any, dv (.int .i64 0), dv (.int .i64 1)]) (h1 := []) (h2 := []) rfl rfl (by kernel_rfl) (by kernel_rfl) (by kernel_rfl) (by kernel_rfl) (by kernel_rfl) (by kernel_rfl) (by kernel_rfl) (by kernel_rfl) (by kernel_rfl) (by kernel_rfl) (by kernel_rfl) hG) ?_
  rintro K ⟨hp, hK⟩
  show T _ _ ⟨[dv (.int .i64 ((n : Nat) : Int)), AV.any, dv (.int .i64 0), dv (.int .i64 ((K : Nat) : Int))], []⟩ _ _
  replace hp : ∃ j, K = 2 ^ j := hp
  replace hK : K < n := hK
  refine T.seq ?_
  refine T.seq ?_
  refine tR (s1 := ⟨[dv (.int .i64 ((n : Nat) : Int)), AV.any, dv (.int .i64 0), dv (.int .i64 ((K : Nat) : Int)), AV.any, AV.any, AV.any, AV.any, dv (.bool (decide (((K : Nat) : Int) < (((n : Nat) : Int) - ((K : Nat) : Int)))))], []⟩) [true, false, true, true, false, false, false, false, true] []
    (oC (oS rfl rfl (r_move (av := dv (.int .i64 ((K : Nat) : Int))) (lt_of rfl) trivial))
    (oC (oS rfl rfl (r_move (av := dv (.int .i64 ((n : Nat) : Int))) (lt_of rfl) trivial))
    (oC (oS rfl rfl (r_move (av := dv (.int .i64 ((K : Nat) : Int))) (lt_of rfl) trivial))
    (oC (oS rfl rfl (r_bin (u1 := .int .i64 ((n : Nat) : Int)) (u2 := .int .i64 ((K : Nat) : Int)) (v := .int .i64 (((n : Nat) : Int) - ((K : Nat) : Int))) (b_sub (by rw [IntKind.wrap_i64]; omega)) (lt_of rfl) trivial))
    (oC (oS rfl rfl (r_bin (u1 := .int .i64 ((K : Nat) : Int)) (u2 := .int .i64 (((n : Nat) : Int) - ((K : Nat) : Int))) (v := .bool (decide (((K : Nat) : Int) < (((n : Nat) : Int) - ((K : Nat) : Int))))) b_lss (lt_of rfl) trivial)) (oZ rfl))))))
    (by kernel_rfl) (by kernel_rfl) ?_
  refine nT ?_
  by_cases hq1 : ((K : Nat) : Int) < (((n : Nat) : Int) - ((K : Nat) : Int))
  · refine T.condT (b := (decide (((K : Nat) : Int) < (((n : Nat) : Int) - ((K : Nat) : Int))))) rfl (decide_eq_true hq1) ?_
    refine T.skip ?_
    refine nT ?_
    refine T.block ?_
    refine tR (s1 := ⟨[dv (.int .i64 ((n : Nat) : Int)), AV.any, dv (.int .i64 0), dv (.int .i64 ((2 * K : Nat) : Int)), AV.any, AV.any, AV.any, AV.any, dv (.bool (decide (((K : Nat) : Int) < (((n : Nat) : Int) - ((K : Nat) : Int)))))], []⟩) [true, false, true, true, false, false, false, false, true] []
      (oC (oS rfl rfl (r_move (av := dv (.int .i64 ((K : Nat) : Int))) (lt_of rfl) trivial))
      (oC (oS rfl rfl (r_bin (u1 := .int .i64 2) (u2 := .int .i64 ((K : Nat) : Int)) (v := .int .i64 ((2 * K : Nat) : Int)) (b_mul (by rw [IntKind.wrap_i64]; omega)) (lt_of rfl) ⟨rfl, trivial⟩))
      (oC (oS rfl rfl (r_assign (av := dv (.int .i64 ((2 * K : Nat) : Int))) (lt_of rfl) trivial)) (oZ rfl))))
      (by kernel_rfl) (by kernel_rfl) ?_
    refine nB ?_
    refine nL (2 * K) ⟨(show ∃ j, (2 * K) = 2 ^ j from (by obtain ⟨j, hj⟩ := hp; exact ⟨j + 1, by rw [hj, Nat.pow_succ]; omega⟩)), (show (2 * K) < n from (by omega))⟩ (show (n - (2 * K) : Nat) < n - K from (by have hK0 : 0 < K := (by obtain ⟨j, hj⟩ := hp; rw [hj]; exact Nat.pow_pos (by decide)); omega)) (fun _ _ hG => Gs.into2 (s := ⟨[dv (.int .i64 ((n : Nat) : Int)), AV.any, dv (.int .i64 0), dv (.int .i64 ((2 * K : Nat) : Int)), AV.any, AV.any, AV.any, AV.any, dv (.bool (decide (((K : Nat) : Int) < (((n : Nat) : Int) - ((K : Nat) : Int)))))], []⟩) (s' := ⟨[dv (.int .i64 ((n : Nat) : Int)), AV.any, dv (.int .i64 0), dv (.int .i64 ((2 * K : Nat) : Int))], []⟩) [] [true, false, true, true] (t1 := [dv (.int .i64 ((n : Nat) : Int)), AV.any, dv (.int .i64 0), dv (.int .i64 ((2 * K : Nat) : Int))]) (t2 := [dv (.int .i64 ((n : Nat) : Int)), AV.any, dv (.int .i64 0), dv (.int .i64 ((2 * K : Nat) : Int))]) (h1 := []) (h2 := []) rfl rfl (by kernel_rfl) (by kernel_rfl) (by kernel_rfl) (by kernel_rfl) (by kernel_rfl) (by kernel_rfl) (by kernel_rfl) (by kernel_rfl) (by kernel_rfl) (by kernel_rfl) (by kernel_rfl) hG)
  · refine T.condF (b := (decide (((K : Nat) : Int) < (((n : Nat) : Int) - ((K : Nat) : Int))))) rfl (decide_eq_false hq1) ?_
    refine T.exit ?_
    refine xT ?_
    refine xT ?_
    refine xH ?_
    refine nT ?_
    refine T.seq ?_
    refine tR (s1 := ⟨[dv (.int .i64 ((n : Nat) : Int)), AV.any, dv (.int .i64 ((K : Nat) : Int)), dv (.int .i64 ((K : Nat) : Int)), AV.any, AV.any, AV.any, AV.any, dv (.bool (decide (((K : Nat) : Int) < (((n : Nat) : Int) - ((K : Nat) : Int)))))], []⟩) [true, false, true, true, false, false, false, false, true] []
      (oC (oS rfl rfl (r_move (av := dv (.int .i64 ((K : Nat) : Int))) (lt_of rfl) trivial))
      (oC (oS rfl rfl (r_assign (av := dv (.int .i64 ((K : Nat) : Int))) (lt_of rfl) trivial)) (oZ rfl)))
      (by kernel_rfl) (by kernel_rfl) ?_
    refine nT ?_
    refine T.ret ?_
    exact tE (.inl rfl) [.t 2 (.one (.d (.val (.int .i64 ((K : Nat) : Int)))))] ⟨⟨rfl, rfl⟩, trivial⟩ [] (by have e1 : (((half n : Nat) : Int) : Int) = ((K : Nat) : Int) := (by first | rfl | (rw [half_of hp hK (by omega)])); have hE := congrArg (fun (q1 : Int) => (dv (.int .i64 q1) : AV)) e1; exact hE) rfl rfl rfl rfl rfl trivial

-- quaestor/merkle.Root
theorem merkle_Root_rec : ∀ (N : Nat) (tl : Bool) (nl : Bool) (sl_ : Bool) (l : List (List UInt8)) (hf : fewG szL 40 200 l), l.length = N → Holds Try.prog 11 ⟨[slV tl nl (kSl sl_ kU8) l], [], dv (strV (rootB l)), []⟩ := by
  intro N
  induction N using Nat.strongRecOn with
  | _ N ih =>
    intro tl nl sl_ l hf hN
    refine Holds.of Try.func11 rfl (N := 28) Try.ntmps11 rfl fun w0 B0 S0 U0 => ?_
    show T _ (mkBase 28 0 w0 S0 U0 B0) ⟨[slV tl nl (kSl sl_ kU8) l], []⟩ _ _
    have hl40 := hf.1
    have hg0 : (l.getD 0 []).length ≤ 200 := fewG_get (sz := szL) hf (by decide) 0
    refine T.seq ?_
    refine tR (s1 := ⟨[slV tl nl (kSl sl_ kU8) l, AV.any, dv (strV [])], []⟩) [true, false, true] []
      (oC (oS rfl rfl (r_assign (av := dv (strV [])) (lt_of rfl) ⟨rfl, trivial⟩)) (oZ rfl))
      (by kernel_rfl) (by kernel_rfl) ?_
    refine nT ?_
    refine T.seq ?_
    refine tR (s1 := ⟨[slV tl nl (kSl sl_ kU8) l, AV.any, dv (strV []), dv (.int .i64 ((l.length : Nat) : Int))], []⟩) [true, false, true, true] []
      (oC (oS rfl rfl (r_move (av := slV tl nl (kSl sl_ kU8) l) (lt_of rfl) trivial))
      (oC (oS rfl rfl (q_len tl nl (kSl sl_ kU8) l Try.underlying22 (lt_of rfl) trivial))
      (oC (oS rfl rfl (r_assign (av := dv (.int .i64 ((l.length : Nat) : Int))) (lt_of rfl) trivial)) (oZ rfl))))
      (by kernel_rfl) (by kernel_rfl) ?_
    refine nT ?_
    refine T.seq ?_
    refine tR (s1 := ⟨[slV tl nl (kSl sl_ kU8) l, AV.any, dv (strV []), dv (.int .i64 ((l.length : Nat) : Int)), AV.any, AV.any, AV.any, dv (.int .i64 ((l.length : Nat) : Int))], []⟩) [true, false, true, true, false, false, false, true] []
      (oC (oS rfl rfl (r_move (av := dv (.int .i64 ((l.length : Nat) : Int))) (lt_of rfl) trivial)) (oZ rfl))
      (by kernel_rfl) (by kernel_rfl) ?_
    refine nT ?_
    refine T.block ?_
    refine T.seq ?_
    refine tR (s1 := ⟨[slV tl nl (kSl sl_ kU8) l, AV.any, dv (strV []), dv (.int .i64 ((l.length : Nat) : Int)), AV.any, AV.any, AV.any, dv (.int .i64 ((l.length : Nat) : Int)), AV.any, AV.any, AV.any, AV.any, AV.any, AV.any, AV.any, AV.any, AV.any, AV.any, AV.any, dv (.bool (decide (((l.length : Nat) : Int) = 0)))], []⟩) [true, false, true, true, false, false, false, true, false, false, false, false, false, false, false, false, false, false, false, true] []
      (oC (oS rfl rfl (r_bin (u1 := .int .i64 ((l.length : Nat) : Int)) (u2 := .int .i64 0) (v := .bool (decide (((l.length : Nat) : Int) = 0))) b_eql (lt_of rfl) ⟨rfl, trivial⟩))
      (oC (oS rfl rfl (r_assign (av := dv (.bool (decide (((l.length : Nat) : Int) = 0)))) (lt_of rfl) trivial)) (oZ rfl)))
      (by kernel_rfl) (by kernel_rfl) ?_
    refine nT ?_
    by_cases hq1 : ((l.length : Nat) : Int) = 0
    · refine T.condT (b := (decide (((l.length : Nat) : Int) = 0))) rfl (decide_eq_true hq1) ?_
      refine T.seq ?_
      refine tR (s1 := ⟨[slV tl nl (kSl sl_ kU8) l, AV.any, dv (strV (ofB (4 : UInt8) ([] : List (List UInt8)))), dv (.int .i64 ((l.length : Nat) : Int)), AV.any, AV.any, AV.any, dv (.int .i64 ((l.length : Nat) : Int)), AV.any, AV.any, AV.any, AV.any, AV.any, AV.any, AV.any, AV.any, AV.any, AV.any, AV.any, dv (.bool (decide (((l.length : Nat) : Int) = 0)))], []⟩) [true, false, true, true, false, false, false, true, false, false, false, false, false, false, false, false, false, false, false, true] []
        (oC (oS rfl rfl (r_call (term_Of (4 : UInt8) false false false ([] : List (List UInt8)) (by first | assumption | omega | (simp only [maxLen, kU8_sz, kSl_sz, k_api_Step_sz, k_quaestorlaw09_Claim_sz]; omega) | (simp only [maxLen, kU8_sz, kSl_sz, k_api_Step_sz, k_quaestorlaw09_Claim_sz, List.length_append, List.length_cons, List.length_nil, List.length_take, List.length_drop, List.length_set]; omega) | decide)) Try.func21 rfl (by decide) [] [] (l := [(.const (.int .u8 4), dv (.int .u8 4)), (.const (.slice none 0 0), dv (.slice none 0 0))]) [] rfl 0 0 rfl rfl rfl rfl rfl rfl rfl rfl rfl ⟨.inl ⟨rfl, rfl⟩, ⟨.inr (.inr ⟨rfl, rfl, rfl⟩), trivial⟩⟩ rfl (fun b hb => by cases hb) (.inl rfl) (lt_of rfl) ⟨rfl, ⟨rfl, trivial⟩⟩))
        (oC (oS rfl rfl (r_assign (av := dv (strV (ofB (4 : UInt8) ([] : List (List UInt8))))) (lt_of rfl) trivial)) (oZ rfl)))
        (by kernel_rfl) (by kernel_rfl) ?_
      refine nT ?_
      refine T.ret ?_
      refine rB ?_
      exact tE (.inl rfl) [.t 2 (.one (.d (.val (strV (ofB (4 : UInt8) ([] : List (List UInt8)))))))] ⟨⟨rfl, rfl⟩, trivial⟩ [] (by have e1 : ((rootB l) : List UInt8) = (ofB (4 : UInt8) ([] : List (List UInt8))) := (by first | rfl | exact root_0 (by omega) | exact (root_0 (by omega)).symm | exact root_1 (by omega) | exact (root_1 (by omega)).symm | exact root_2 h2l | exact (root_2 h2l).symm); have hE := congrArg (fun (q1 : List UInt8) => (dv (strV q1) : AV)) e1; exact hE) rfl rfl rfl rfl rfl trivial
    · refine T.condF (b := (decide (((l.length : Nat) : Int) = 0))) rfl (decide_eq_false hq1) ?_
      refine T.seq ?_
      refine tR (s1 := ⟨[slV tl nl (kSl sl_ kU8) l, AV.any, dv (strV []), dv (.int .i64 ((l.length : Nat) : Int)), AV.any, AV.any, AV.any, dv (.int .i64 ((l.length : Nat) : Int)), AV.any, AV.any, AV.any, AV.any, AV.any, AV.any, AV.any, AV.any, AV.any, AV.any, AV.any, dv (.bool (decide (((l.length : Nat) : Int) = 0))), AV.any, AV.any, dv (.bool (decide (((l.length : Nat) : Int) = 1)))], []⟩) [true, false, true, true, false, false, false, true, false, false, false, false, false, false, false, false, false, false, false, true, false, false, true] []
        (oC (oS rfl rfl (r_bin (u1 := .int .i64 ((l.length : Nat) : Int)) (u2 := .int .i64 1) (v := .bool (decide (((l.length : Nat) : Int) = 1))) b_eql (lt_of rfl) ⟨rfl, trivial⟩))
        (oC (oS rfl rfl (r_assign (av := dv (.bool (decide (((l.length : Nat) : Int) = 1)))) (lt_of rfl) trivial)) (oZ rfl)))
        (by kernel_rfl) (by kernel_rfl) ?_
      refine nT ?_
      by_cases hq2 : ((l.length : Nat) : Int) = 1
      · refine T.condT (b := (decide (((l.length : Nat) : Int) = 1))) rfl (decide_eq_true hq2) ?_
        refine T.seq ?_
        refine tR (s1 := ⟨[slV tl nl (kSl sl_ kU8) l, AV.any, dv (strV (ofB (2 : UInt8) [(l.getD 0 [])])), dv (.int .i64 ((l.length : Nat) : Int)), AV.any, AV.any, AV.any, dv (.int .i64 ((l.length : Nat) : Int)), AV.any, AV.any, AV.any, AV.any, AV.any, AV.any, AV.any, AV.any, AV.any, AV.any, AV.any, dv (.bool (decide (((l.length : Nat) : Int) = 0))), AV.any, AV.any, dv (.bool (decide (((l.length : Nat) : Int) = 1)))], []⟩) [true, false, true, true, false, false, false, true, false, false, false, false, false, false, false, false, false, false, false, true, false, false, true] []
          (oC (oS rfl rfl (r_move (av := slV tl nl (kSl sl_ kU8) l) (lt_of rfl) trivial))
          (oC (oS rfl rfl (q_index tl nl (kSl sl_ kU8) l 0 (k := .i64) (i := 0) Try.underlying22 iat_33 rfl rfl (by first | assumption | omega | (simp only [maxLen, kU8_sz, kSl_sz, k_api_Step_sz, k_quaestorlaw09_Claim_sz]; omega) | (simp only [maxLen, kU8_sz, kSl_sz, k_api_Step_sz, k_quaestorlaw09_Claim_sz, List.length_append, List.length_cons, List.length_nil, List.length_take, List.length_drop, List.length_set]; omega) | decide) (lt_of rfl) ⟨rfl, trivial⟩))
          (oC (oS rfl rfl (r_loadE (tag := tl) (n := 1) (el := (kSl sl_ kU8).cell (l.getD 0 (kSl sl_ kU8).z)) (e0 := dsl sl_ false kU8 (l.getD 0 [])) wide_33 (by decide) rfl (lt_of rfl) trivial))
          (oC (oS rfl rfl (r_call (term_Leaf (2 : UInt8) sl_ false (l.getD 0 []) (by first | assumption | omega | (simp only [maxLen, kU8_sz, kSl_sz, k_api_Step_sz, k_quaestorlaw09_Claim_sz]; omega) | (simp only [maxLen, kU8_sz, kSl_sz, k_api_Step_sz, k_quaestorlaw09_Claim_sz, List.length_append, List.length_cons, List.length_nil, List.length_take, List.length_drop, List.length_set]; omega) | decide)) Try.func22 rfl (by decide) [] [] (l := [(.const (.int .u8 2), dv (.int .u8 2)), (.tmp 26, slV sl_ false kU8 (l.getD 0 []))]) [] rfl 0 0 rfl rfl rfl rfl rfl rfl rfl rfl rfl ⟨.inl ⟨rfl, rfl⟩, ⟨.inl ⟨rfl, rfl⟩, trivial⟩⟩ rfl (fun b hb => by cases hb) (.inl rfl) (lt_of rfl) ⟨rfl, trivial⟩))
          (oC (oS rfl rfl (r_assign (av := dv (strV (ofB (2 : UInt8) [(l.getD 0 [])]))) (lt_of rfl) trivial)) (oZ rfl))))))
          (by kernel_rfl) (by kernel_rfl) ?_
        refine nT ?_
        refine T.ret ?_
        refine rB ?_
        exact tE (.inl rfl) [.t 2 (.one (.d (.val (strV (ofB (2 : UInt8) [(l.getD 0 [])])))))] ⟨⟨rfl, rfl⟩, trivial⟩ [] (by have e1 : ((rootB l) : List UInt8) = (ofB (2 : UInt8) [(l.getD 0 [])]) := (by first | rfl | exact root_0 (by omega) | exact (root_0 (by omega)).symm | exact root_1 (by omega) | exact (root_1 (by omega)).symm | exact root_2 h2l | exact (root_2 h2l).symm); have hE := congrArg (fun (q1 : List UInt8) => (dv (strV q1) : AV)) e1; exact hE) rfl rfl rfl rfl rfl trivial
      · have h2l : 2 ≤ l.length := (by omega); have hhl := half_lt h2l; have hhp := half_pos l.length; have hfa := few_root (fewG_take hf (half l.length)); have hfb := few_root (fewG_drop hf (half l.length))
        refine T.condF (b := (decide (((l.length : Nat) : Int) = 1))) rfl (decide_eq_false hq2) ?_
        refine T.seq ?_
        refine tR (s1 := ⟨[slV tl nl (kSl sl_ kU8) l, AV.any, dv (strV []), dv (.int .i64 ((l.length : Nat) : Int)), dv (.int .i64 ((half l.length : Nat) : Int)), AV.any, AV.any, dv (.int .i64 ((l.length : Nat) : Int)), AV.any, AV.any, AV.any, AV.any, AV.any, AV.any, AV.any, AV.any, AV.any, AV.any, AV.any, dv (.bool (decide (((l.length : Nat) : Int) = 0))), AV.any, AV.any, dv (.bool (decide (((l.length : Nat) : Int) = 1)))], []⟩) [true, false, true, true, true, false, false, true, false, false, false, false, false, false, false, false, false, false, false, true, false, false, true] []
          (oC (oS rfl rfl (r_move (av := dv (.int .i64 ((l.length : Nat) : Int))) (lt_of rfl) trivial))
          (oC (oS rfl rfl (r_call (merkle_split l.length (by first | assumption | omega | (simp only [maxLen, kU8_sz, kSl_sz, k_api_Step_sz, k_quaestorlaw09_Claim_sz]; omega) | (simp only [maxLen, kU8_sz, kSl_sz, k_api_Step_sz, k_quaestorlaw09_Claim_sz, List.length_append, List.length_cons, List.length_nil, List.length_take, List.length_drop, List.length_set]; omega) | decide) (by first | assumption | omega | (simp only [maxLen, kU8_sz, kSl_sz, k_api_Step_sz, k_quaestorlaw09_Claim_sz]; omega) | (simp only [maxLen, kU8_sz, kSl_sz, k_api_Step_sz, k_quaestorlaw09_Claim_sz, List.length_append, List.length_cons, List.length_nil, List.length_take, List.length_drop, List.length_set]; omega) | decide)) Try.func23 rfl (by decide) [] [] (l := [(.tmp 8, dv (.int .i64 ((l.length : Nat) : Int)))]) [] rfl 0 0 rfl rfl rfl rfl rfl rfl rfl rfl rfl ⟨.inl ⟨rfl, rfl⟩, trivial⟩ rfl (fun b hb => by cases hb) (.inl rfl) (lt_of rfl) trivial))
          (oC (oS rfl rfl (r_assign (av := dv (.int .i64 ((half l.length : Nat) : Int))) (lt_of rfl) trivial)) (oZ rfl))))
          (by kernel_rfl) (by kernel_rfl) ?_
        refine nT ?_
        refine T.seq ?_
        refine tD (s1 := ⟨[slV tl nl (kSl sl_ kU8) l, AV.any, dv (strV (ofB (3 : UInt8) [(rootB (l.take (half l.length))), (rootB (l.drop (half l.length)))])), dv (.int .i64 ((l.length : Nat) : Int)), dv (.int .i64 ((half l.length : Nat) : Int)), AV.any, AV.any, dv (.int .i64 ((l.length : Nat) : Int)), AV.any, AV.any, AV.any, AV.any, AV.any, AV.any, AV.any, AV.any, AV.any, AV.any, AV.any, dv (.bool (decide (((l.length : Nat) : Int) = 0))), AV.any, AV.any, dv (.bool (decide (((l.length : Nat) : Int) = 1)))], []⟩) (by kernel_rfl) [[], [], [0, 1], [0, 1, 2], [], [], [4, 5], [0, 1, 2, 3, 4, 5, 6], [0, 1, 2, 3, 4, 5, 6, 7], [0, 1, 2, 3, 4, 5, 6, 7, 8]] [true, false, true, true, true, false, false, true, false, false, false, false, false, false, false, false, false, false, false, true, false, false, true] []
          (oC (oS rfl rfl (r_move (av := slV tl nl (kSl sl_ kU8) l) (lt_of rfl) trivial))
          (oC (oS rfl rfl (r_move (av := dv (.int .i64 ((half l.length : Nat) : Int))) (lt_of rfl) trivial))
          (oC (oS rfl rfl (q_slice tl nl (kSl sl_ kU8) l (l.take (half l.length)) 0 (half l.length) (lo := none) (hi := some (.tmp 11, ((half l.length : Nat) : Int))) Try.underlying22 iat_33 rfl rfl rfl rfl rfl (by first | assumption | omega | (simp only [maxLen, kU8_sz, kSl_sz, k_api_Step_sz, k_quaestorlaw09_Claim_sz]; omega) | (simp only [maxLen, kU8_sz, kSl_sz, k_api_Step_sz, k_quaestorlaw09_Claim_sz, List.length_append, List.length_cons, List.length_nil, List.length_take, List.length_drop, List.length_set]; omega) | decide) (by first | assumption | omega | (simp only [maxLen, kU8_sz, kSl_sz, k_api_Step_sz, k_quaestorlaw09_Claim_sz]; omega) | (simp only [maxLen, kU8_sz, kSl_sz, k_api_Step_sz, k_quaestorlaw09_Claim_sz, List.length_append, List.length_cons, List.length_nil, List.length_take, List.length_drop, List.length_set]; omega) | decide) rfl (lt_of rfl) trivial))
          (oC (oS rfl rfl (r_call (ih ((l.take (half l.length)).length) (show (l.take (half l.length)).length < N from (by first | omega | (simp only [List.length_take, List.length_drop]; omega))) tl nl sl_ (l.take (half l.length)) (by first | assumption | exact fewG_take (by assumption) _ | exact fewG_drop (by assumption) _ | exact fewG_set (by assumption) (by assumption) | decide) rfl) Try.func11 rfl (by decide) [] [] (l := [(.tmp 12, slV tl nl (kSl sl_ kU8) (l.take (half l.length)))]) [] rfl 0 0 rfl rfl rfl rfl rfl rfl rfl rfl rfl ⟨.inl ⟨rfl, rfl⟩, trivial⟩ rfl (fun b hb => by cases hb) (.inl rfl) (lt_of rfl) trivial))
          (oC (oS rfl rfl (r_move (av := slV tl nl (kSl sl_ kU8) l) (lt_of rfl) trivial))
          (oC (oS rfl rfl (r_move (av := dv (.int .i64 ((half l.length : Nat) : Int))) (lt_of rfl) trivial))
          (oC (oS rfl rfl (q_slice tl nl (kSl sl_ kU8) l (l.drop (half l.length)) (half l.length) l.length (lo := some (.tmp 15, ((half l.length : Nat) : Int))) (hi := none) Try.underlying22 iat_33 rfl rfl rfl rfl rfl (by first | assumption | omega | (simp only [maxLen, kU8_sz, kSl_sz, k_api_Step_sz, k_quaestorlaw09_Claim_sz]; omega) | (simp only [maxLen, kU8_sz, kSl_sz, k_api_Step_sz, k_quaestorlaw09_Claim_sz, List.length_append, List.length_cons, List.length_nil, List.length_take, List.length_drop, List.length_set]; omega) | decide) (by first | assumption | omega | (simp only [maxLen, kU8_sz, kSl_sz, k_api_Step_sz, k_quaestorlaw09_Claim_sz]; omega) | (simp only [maxLen, kU8_sz, kSl_sz, k_api_Step_sz, k_quaestorlaw09_Claim_sz, List.length_append, List.length_cons, List.length_nil, List.length_take, List.length_drop, List.length_set]; omega) | decide) (by rw [List.take_length]) (lt_of rfl) trivial))
          (oC (oS rfl rfl (r_call (ih ((l.drop (half l.length)).length) (show (l.drop (half l.length)).length < N from (by first | omega | (simp only [List.length_take, List.length_drop]; omega))) tl nl sl_ (l.drop (half l.length)) (by first | assumption | exact fewG_take (by assumption) _ | exact fewG_drop (by assumption) _ | exact fewG_set (by assumption) (by assumption) | decide) rfl) Try.func11 rfl (by decide) [] [] (l := [(.tmp 16, slV tl nl (kSl sl_ kU8) (l.drop (half l.length)))]) [] rfl 0 0 rfl rfl rfl rfl rfl rfl rfl rfl rfl ⟨.inl ⟨rfl, rfl⟩, trivial⟩ rfl (fun b hb => by cases hb) (.inl rfl) (lt_of rfl) trivial))
          (oC (oS rfl rfl (r_call (term_Pair (3 : UInt8) (rootB (l.take (half l.length))) (rootB (l.drop (half l.length))) (by first | assumption | omega | (simp only [maxLen, kU8_sz, kSl_sz, k_api_Step_sz, k_quaestorlaw09_Claim_sz]; omega) | (simp only [maxLen, kU8_sz, kSl_sz, k_api_Step_sz, k_quaestorlaw09_Claim_sz, List.length_append, List.length_cons, List.length_nil, List.length_take, List.length_drop, List.length_set]; omega) | decide)) Try.func24 rfl (by decide) [] [] (l := [(.const (.int .u8 3), dv (.int .u8 3)), (.tmp 13, dv (strV (rootB (l.take (half l.length))))), (.tmp 17, dv (strV (rootB (l.drop (half l.length)))))]) [] rfl 0 0 rfl rfl rfl rfl rfl rfl rfl rfl rfl ⟨.inl ⟨rfl, rfl⟩, ⟨.inl ⟨rfl, rfl⟩, ⟨.inl ⟨rfl, rfl⟩, trivial⟩⟩⟩ rfl (fun b hb => by cases hb) (.inl rfl) (lt_of rfl) ⟨rfl, trivial⟩))
          (oC (oS rfl rfl (r_assign (av := dv (strV (ofB (3 : UInt8) [(rootB (l.take (half l.length))), (rootB (l.drop (half l.length)))]))) (lt_of rfl) trivial)) (oZ rfl)))))))))))
          (by kernel_rfl) (by kernel_rfl) (by kernel_rfl) (by kernel_rfl) (by kernel_rfl) ?_
        refine nT ?_
        refine T.ret ?_
        refine rB ?_
        exact tE (.inl rfl) [.t 2 (.one (.d (.val (strV (ofB (3 : UInt8) [(rootB (l.take (half l.length))), (rootB (l.drop (half l.length)))])))))] ⟨⟨rfl, rfl⟩, trivial⟩ [] (by have e1 : ((rootB l) : List UInt8) = (ofB (3 : UInt8) [(rootB (l.take (half l.length))), (rootB (l.drop (half l.length)))]) := (by first | rfl | exact root_0 (by omega) | exact (root_0 (by omega)).symm | exact root_1 (by omega) | exact (root_1 (by omega)).symm | exact root_2 h2l | exact (root_2 h2l).symm); have hE := congrArg (fun (q1 : List UInt8) => (dv (strV q1) : AV)) e1; exact hE) rfl rfl rfl rfl rfl trivial
theorem merkle_Root (tl : Bool) (nl : Bool) (sl_ : Bool) (l : List (List UInt8)) (hf : fewG szL 40 200 l) : Holds Try.prog 11 ⟨[slV tl nl (kSl sl_ kU8) l], [], dv (strV (rootB l)), []⟩ := merkle_Root_rec _ tl nl sl_ l hf rfl

-- quaestor/quaestorref09.Root
theorem ref09_Root_rec : ∀ (N : Nat) (tl : Bool) (nl : Bool) (sl_ : Bool) (l : List (List UInt8)) (hf : fewG szL 40 200 l), l.length = N → Holds Try.prog 12 ⟨[slV tl nl (kSl sl_ kU8) l], [], dv (strV (rootB l)), []⟩ := by
  intro N
  induction N using Nat.strongRecOn with
  | _ N ih =>
    intro tl nl sl_ l hf hN
    refine Holds.of Try.func12 rfl (N := 27) Try.ntmps12 rfl fun w0 B0 S0 U0 => ?_
    show T _ (mkBase 27 0 w0 S0 U0 B0) ⟨[slV tl nl (kSl sl_ kU8) l], []⟩ _ _
    have hl40 := hf.1
    have hg0 : (l.getD 0 []).length ≤ 200 := fewG_get (sz := szL) hf (by decide) 0
    refine T.seq ?_
    refine tR (s1 := ⟨[slV tl nl (kSl sl_ kU8) l, AV.any, dv (strV [])], []⟩) [true, false, true] []
      (oC (oS rfl rfl (r_assign (av := dv (strV [])) (lt_of rfl) ⟨rfl, trivial⟩)) (oZ rfl))
      (by kernel_rfl) (by kernel_rfl) ?_
    refine nT ?_
    refine T.seq ?_
    refine T.seq ?_
    refine tR (s1 := ⟨[slV tl nl (kSl sl_ kU8) l, AV.any, dv (strV []), AV.any, AV.any, AV.any, dv (.bool (decide (((l.length : Nat) : Int) = 0)))], []⟩) [true, false, true, false, false, false, true] []
      (oC (oS rfl rfl (r_move (av := slV tl nl (kSl sl_ kU8) l) (lt_of rfl) trivial))
      (oC (oS rfl rfl (q_len tl nl (kSl sl_ kU8) l Try.underlying22 (lt_of rfl) trivial))
      (oC (oS rfl rfl (r_bin (u1 := .int .i64 ((l.length : Nat) : Int)) (u2 := .int .i64 0) (v := .bool (decide (((l.length : Nat) : Int) = 0))) b_eql (lt_of rfl) ⟨rfl, trivial⟩)) (oZ rfl))))
      (by kernel_rfl) (by kernel_rfl) ?_
    refine nT ?_
    by_cases hq1 : ((l.length : Nat) : Int) = 0
    · refine T.condT (b := (decide (((l.length : Nat) : Int) = 0))) rfl (decide_eq_true hq1) ?_
      refine T.seq ?_
      refine tR (s1 := ⟨[slV tl nl (kSl sl_ kU8) l, AV.any, dv (strV (ofB (4 : UInt8) ([] : List (List UInt8)))), AV.any, AV.any, AV.any, dv (.bool (decide (((l.length : Nat) : Int) = 0)))], []⟩) [true, false, true, false, false, false, true] []
        (oC (oS rfl rfl (r_call (ref02_Of (4 : UInt8) false false false ([] : List (List UInt8)) (by first | assumption | omega | (simp only [maxLen, kU8_sz, kSl_sz, k_api_Step_sz, k_quaestorlaw09_Claim_sz]; omega) | (simp only [maxLen, kU8_sz, kSl_sz, k_api_Step_sz, k_quaestorlaw09_Claim_sz, List.length_append, List.length_cons, List.length_nil, List.length_take, List.length_drop, List.length_set]; omega) | decide)) Try.func25 rfl (by decide) [] [] (l := [(.const (.int .u8 4), dv (.int .u8 4)), (.const (.slice none 0 0), dv (.slice none 0 0))]) [] rfl 0 0 rfl rfl rfl rfl rfl rfl rfl rfl rfl ⟨.inl ⟨rfl, rfl⟩, ⟨.inr (.inr ⟨rfl, rfl, rfl⟩), trivial⟩⟩ rfl (fun b hb => by cases hb) (.inl rfl) (lt_of rfl) ⟨rfl, ⟨rfl, trivial⟩⟩))
        (oC (oS rfl rfl (r_assign (av := dv (strV (ofB (4 : UInt8) ([] : List (List UInt8))))) (lt_of rfl) trivial)) (oZ rfl)))
        (by kernel_rfl) (by kernel_rfl) ?_
      refine nT ?_
      refine T.ret ?_
      refine rT ?_
      exact tE (.inl rfl) [.t 2 (.one (.d (.val (strV (ofB (4 : UInt8) ([] : List (List UInt8)))))))] ⟨⟨rfl, rfl⟩, trivial⟩ [] (by have e1 : ((rootB l) : List UInt8) = (ofB (4 : UInt8) ([] : List (List UInt8))) := (by first | rfl | exact root_0 (by omega) | exact (root_0 (by omega)).symm | exact root_1 (by omega) | exact (root_1 (by omega)).symm | exact root_2 h2l | exact (root_2 h2l).symm); have hE := congrArg (fun (q1 : List UInt8) => (dv (strV q1) : AV)) e1; exact hE) rfl rfl rfl rfl rfl trivial
    · refine T.condF (b := (decide (((l.length : Nat) : Int) = 0))) rfl (decide_eq_false hq1) ?_
      refine T.skip ?_
      refine nT ?_
      refine T.seq ?_
      refine T.seq ?_
      refine tR (s1 := ⟨[slV tl nl (kSl sl_ kU8) l, AV.any, dv (strV []), AV.any, AV.any, AV.any, dv (.bool (decide (((l.length : Nat) : Int) = 0))), AV.any, AV.any, AV.any, dv (.bool (decide (((l.length : Nat) : Int) = 1)))], []⟩) [true, false, true, false, false, false, true, false, false, false, true] []
        (oC (oS rfl rfl (r_move (av := slV tl nl (kSl sl_ kU8) l) (lt_of rfl) trivial))
        (oC (oS rfl rfl (q_len tl nl (kSl sl_ kU8) l Try.underlying22 (lt_of rfl) trivial))
        (oC (oS rfl rfl (r_bin (u1 := .int .i64 ((l.length : Nat) : Int)) (u2 := .int .i64 1) (v := .bool (decide (((l.length : Nat) : Int) = 1))) b_eql (lt_of rfl) ⟨rfl, trivial⟩)) (oZ rfl))))
        (by kernel_rfl) (by kernel_rfl) ?_
      refine nT ?_
      by_cases hq2 : ((l.length : Nat) : Int) = 1
      · refine T.condT (b := (decide (((l.length : Nat) : Int) = 1))) rfl (decide_eq_true hq2) ?_
        refine T.seq ?_
        refine tR (s1 := ⟨[slV tl nl (kSl sl_ kU8) l, AV.any, dv (strV (ofB (2 : UInt8) [(l.getD 0 [])])), AV.any, AV.any, AV.any, dv (.bool (decide (((l.length : Nat) : Int) = 0))), AV.any, AV.any, AV.any, dv (.bool (decide (((l.length : Nat) : Int) = 1)))], []⟩) [true, false, true, false, false, false, true, false, false, false, true] []
          (oC (oS rfl rfl (r_move (av := slV tl nl (kSl sl_ kU8) l) (lt_of rfl) trivial))
          (oC (oS rfl rfl (q_index tl nl (kSl sl_ kU8) l 0 (k := .i64) (i := 0) Try.underlying22 iat_33 rfl rfl (by first | assumption | omega | (simp only [maxLen, kU8_sz, kSl_sz, k_api_Step_sz, k_quaestorlaw09_Claim_sz]; omega) | (simp only [maxLen, kU8_sz, kSl_sz, k_api_Step_sz, k_quaestorlaw09_Claim_sz, List.length_append, List.length_cons, List.length_nil, List.length_take, List.length_drop, List.length_set]; omega) | decide) (lt_of rfl) ⟨rfl, trivial⟩))
          (oC (oS rfl rfl (r_loadE (tag := tl) (n := 1) (el := (kSl sl_ kU8).cell (l.getD 0 (kSl sl_ kU8).z)) (e0 := dsl sl_ false kU8 (l.getD 0 [])) wide_33 (by decide) rfl (lt_of rfl) trivial))
          (oC (oS rfl rfl (r_call (ref02_Leaf (2 : UInt8) sl_ false (l.getD 0 []) (by first | assumption | omega | (simp only [maxLen, kU8_sz, kSl_sz, k_api_Step_sz, k_quaestorlaw09_Claim_sz]; omega) | (simp only [maxLen, kU8_sz, kSl_sz, k_api_Step_sz, k_quaestorlaw09_Claim_sz, List.length_append, List.length_cons, List.length_nil, List.length_take, List.length_drop, List.length_set]; omega) | decide)) Try.func26 rfl (by decide) [] [] (l := [(.const (.int .u8 2), dv (.int .u8 2)), (.tmp 13, slV sl_ false kU8 (l.getD 0 []))]) [] rfl 0 0 rfl rfl rfl rfl rfl rfl rfl rfl rfl ⟨.inl ⟨rfl, rfl⟩, ⟨.inl ⟨rfl, rfl⟩, trivial⟩⟩ rfl (fun b hb => by cases hb) (.inl rfl) (lt_of rfl) ⟨rfl, trivial⟩))
          (oC (oS rfl rfl (r_assign (av := dv (strV (ofB (2 : UInt8) [(l.getD 0 [])]))) (lt_of rfl) trivial)) (oZ rfl))))))
          (by kernel_rfl) (by kernel_rfl) ?_
        refine nT ?_
        refine T.ret ?_
        refine rT ?_
        exact tE (.inl rfl) [.t 2 (.one (.d (.val (strV (ofB (2 : UInt8) [(l.getD 0 [])])))))] ⟨⟨rfl, rfl⟩, trivial⟩ [] (by have e1 : ((rootB l) : List UInt8) = (ofB (2 : UInt8) [(l.getD 0 [])]) := (by first | rfl | exact root_0 (by omega) | exact (root_0 (by omega)).symm | exact root_1 (by omega) | exact (root_1 (by omega)).symm | exact root_2 h2l | exact (root_2 h2l).symm); have hE := congrArg (fun (q1 : List UInt8) => (dv (strV q1) : AV)) e1; exact hE) rfl rfl rfl rfl rfl trivial
      · have h2l : 2 ≤ l.length := (by omega); have hhl := half_lt h2l; have hhp := half_pos l.length; have hfa := few_root (fewG_take hf (half l.length)); have hfb := few_root (fewG_drop hf (half l.length))
        refine T.condF (b := (decide (((l.length : Nat) : Int) = 1))) rfl (decide_eq_false hq2) ?_
        refine T.skip ?_
        refine nT ?_
        refine T.seq ?_
        refine tR (s1 := ⟨[slV tl nl (kSl sl_ kU8) l, AV.any, dv (strV []), dv (.int .i64 ((half l.length : Nat) : Int)), AV.any, AV.any, dv (.bool (decide (((l.length : Nat) : Int) = 0))), AV.any, AV.any, AV.any, dv (.bool (decide (((l.length : Nat) : Int) = 1)))], []⟩) [true, false, true, true, false, false, true, false, false, false, true] []
          (oC (oS rfl rfl (r_move (av := slV tl nl (kSl sl_ kU8) l) (lt_of rfl) trivial))
          (oC (oS rfl rfl (q_len tl nl (kSl sl_ kU8) l Try.underlying22 (lt_of rfl) trivial))
          (oC (oS rfl rfl (r_call (ref09_half l.length (by first | assumption | omega | (simp only [maxLen, kU8_sz, kSl_sz, k_api_Step_sz, k_quaestorlaw09_Claim_sz]; omega) | (simp only [maxLen, kU8_sz, kSl_sz, k_api_Step_sz, k_quaestorlaw09_Claim_sz, List.length_append, List.length_cons, List.length_nil, List.length_take, List.length_drop, List.length_set]; omega) | decide) (by first | assumption | omega | (simp only [maxLen, kU8_sz, kSl_sz, k_api_Step_sz, k_quaestorlaw09_Claim_sz]; omega) | (simp only [maxLen, kU8_sz, kSl_sz, k_api_Step_sz, k_quaestorlaw09_Claim_sz, List.length_append, List.length_cons, List.length_nil, List.length_take, List.length_drop, List.length_set]; omega) | decide)) Try.func27 rfl (by decide) [] [] (l := [(.tmp 16, dv (.int .i64 ((l.length : Nat) : Int)))]) [] rfl 0 0 rfl rfl rfl rfl rfl rfl rfl rfl rfl ⟨.inl ⟨rfl, rfl⟩, trivial⟩ rfl (fun b hb => by cases hb) (.inl rfl) (lt_of rfl) trivial))
          (oC (oS rfl rfl (r_assign (av := dv (.int .i64 ((half l.length : Nat) : Int))) (lt_of rfl) trivial)) (oZ rfl)))))
          (by kernel_rfl) (by kernel_rfl) ?_
        refine nT ?_
        refine T.seq ?_
        refine tD (s1 := ⟨[slV tl nl (kSl sl_ kU8) l, AV.any, dv (strV (ofB (3 : UInt8) [(rootB (l.take (half l.length))), (rootB (l.drop (half l.length)))])), dv (.int .i64 ((half l.length : Nat) : Int)), AV.any, AV.any, dv (.bool (decide (((l.length : Nat) : Int) = 0))), AV.any, AV.any, AV.any, dv (.bool (decide (((l.length : Nat) : Int) = 1)))], []⟩) (by kernel_rfl) [[], [], [0, 1], [0, 1, 2], [], [], [4, 5], [0, 1, 2, 3, 4, 5, 6], [0, 1, 2, 3, 4, 5, 6, 7], [0, 1, 2, 3, 4, 5, 6, 7, 8]] [true, false, true, true, false, false, true, false, false, false, true] []
          (oC (oS rfl rfl (r_move (av := slV tl nl (kSl sl_ kU8) l) (lt_of rfl) trivial))
          (oC (oS rfl rfl (r_move (av := dv (.int .i64 ((half l.length : Nat) : Int))) (lt_of rfl) trivial))
          (oC (oS rfl rfl (q_slice tl nl (kSl sl_ kU8) l (l.take (half l.length)) 0 (half l.length) (lo := none) (hi := some (.tmp 19, ((half l.length : Nat) : Int))) Try.underlying22 iat_33 rfl rfl rfl rfl rfl (by first | assumption | omega | (simp only [maxLen, kU8_sz, kSl_sz, k_api_Step_sz, k_quaestorlaw09_Claim_sz]; omega) | (simp only [maxLen, kU8_sz, kSl_sz, k_api_Step_sz, k_quaestorlaw09_Claim_sz, List.length_append, List.length_cons, List.length_nil, List.length_take, List.length_drop, List.length_set]; omega) | decide) (by first | assumption | omega | (simp only [maxLen, kU8_sz, kSl_sz, k_api_Step_sz, k_quaestorlaw09_Claim_sz]; omega) | (simp only [maxLen, kU8_sz, kSl_sz, k_api_Step_sz, k_quaestorlaw09_Claim_sz, List.length_append, List.length_cons, List.length_nil, List.length_take, List.length_drop, List.length_set]; omega) | decide) rfl (lt_of rfl) trivial))
          (oC (oS rfl rfl (r_call (ih ((l.take (half l.length)).length) (show (l.take (half l.length)).length < N from (by first | omega | (simp only [List.length_take, List.length_drop]; omega))) tl nl sl_ (l.take (half l.length)) (by first | assumption | exact fewG_take (by assumption) _ | exact fewG_drop (by assumption) _ | exact fewG_set (by assumption) (by assumption) | decide) rfl) Try.func12 rfl (by decide) [] [] (l := [(.tmp 20, slV tl nl (kSl sl_ kU8) (l.take (half l.length)))]) [] rfl 0 0 rfl rfl rfl rfl rfl rfl rfl rfl rfl ⟨.inl ⟨rfl, rfl⟩, trivial⟩ rfl (fun b hb => by cases hb) (.inl rfl) (lt_of rfl) trivial))
          (oC (oS rfl rfl (r_move (av := slV tl nl (kSl sl_ kU8) l) (lt_of rfl) trivial))
          (oC (oS rfl rfl (r_move (av := dv (.int .i64 ((half l.length : Nat) : Int))) (lt_of rfl) trivial))
          (oC (oS rfl rfl (q_slice tl nl (kSl sl_ kU8) l (l.drop (half l.length)) (half l.length) l.length (lo := some (.tmp 23, ((half l.length : Nat) : Int))) (hi := none) Try.underlying22 iat_33 rfl rfl rfl rfl rfl (by first | assumption | omega | (simp only [maxLen, kU8_sz, kSl_sz, k_api_Step_sz, k_quaestorlaw09_Claim_sz]; omega) | (simp only [maxLen, kU8_sz, kSl_sz, k_api_Step_sz, k_quaestorlaw09_Claim_sz, List.length_append, List.length_cons, List.length_nil, List.length_take, List.length_drop, List.length_set]; omega) | decide) (by first | assumption | omega | (simp only [maxLen, kU8_sz, kSl_sz, k_api_Step_sz, k_quaestorlaw09_Claim_sz]; omega) | (simp only [maxLen, kU8_sz, kSl_sz, k_api_Step_sz, k_quaestorlaw09_Claim_sz, List.length_append, List.length_cons, List.length_nil, List.length_take, List.length_drop, List.length_set]; omega) | decide) (by rw [List.take_length]) (lt_of rfl) trivial))
          (oC (oS rfl rfl (r_call (ih ((l.drop (half l.length)).length) (show (l.drop (half l.length)).length < N from (by first | omega | (simp only [List.length_take, List.length_drop]; omega))) tl nl sl_ (l.drop (half l.length)) (by first | assumption | exact fewG_take (by assumption) _ | exact fewG_drop (by assumption) _ | exact fewG_set (by assumption) (by assumption) | decide) rfl) Try.func12 rfl (by decide) [] [] (l := [(.tmp 24, slV tl nl (kSl sl_ kU8) (l.drop (half l.length)))]) [] rfl 0 0 rfl rfl rfl rfl rfl rfl rfl rfl rfl ⟨.inl ⟨rfl, rfl⟩, trivial⟩ rfl (fun b hb => by cases hb) (.inl rfl) (lt_of rfl) trivial))
          (oC (oS rfl rfl (r_call (ref02_Pair (3 : UInt8) (rootB (l.take (half l.length))) (rootB (l.drop (half l.length))) (by first | assumption | omega | (simp only [maxLen, kU8_sz, kSl_sz, k_api_Step_sz, k_quaestorlaw09_Claim_sz]; omega) | (simp only [maxLen, kU8_sz, kSl_sz, k_api_Step_sz, k_quaestorlaw09_Claim_sz, List.length_append, List.length_cons, List.length_nil, List.length_take, List.length_drop, List.length_set]; omega) | decide)) Try.func28 rfl (by decide) [] [] (l := [(.const (.int .u8 3), dv (.int .u8 3)), (.tmp 21, dv (strV (rootB (l.take (half l.length))))), (.tmp 25, dv (strV (rootB (l.drop (half l.length)))))]) [] rfl 0 0 rfl rfl rfl rfl rfl rfl rfl rfl rfl ⟨.inl ⟨rfl, rfl⟩, ⟨.inl ⟨rfl, rfl⟩, ⟨.inl ⟨rfl, rfl⟩, trivial⟩⟩⟩ rfl (fun b hb => by cases hb) (.inl rfl) (lt_of rfl) ⟨rfl, trivial⟩))
          (oC (oS rfl rfl (r_assign (av := dv (strV (ofB (3 : UInt8) [(rootB (l.take (half l.length))), (rootB (l.drop (half l.length)))]))) (lt_of rfl) trivial)) (oZ rfl)))))))))))
          (by kernel_rfl) (by kernel_rfl) (by kernel_rfl) (by kernel_rfl) (by kernel_rfl) ?_
        refine nT ?_
        refine T.ret ?_
        exact tE (.inl rfl) [.t 2 (.one (.d (.val (strV (ofB (3 : UInt8) [(rootB (l.take (half l.length))), (rootB (l.drop (half l.length)))])))))] ⟨⟨rfl, rfl⟩, trivial⟩ [] (by have e1 : ((rootB l) : List UInt8) = (ofB (3 : UInt8) [(rootB (l.take (half l.length))), (rootB (l.drop (half l.length)))]) := (by first | rfl | exact root_0 (by omega) | exact (root_0 (by omega)).symm | exact root_1 (by omega) | exact (root_1 (by omega)).symm | exact root_2 h2l | exact (root_2 h2l).symm); have hE := congrArg (fun (q1 : List UInt8) => (dv (strV q1) : AV)) e1; exact hE) rfl rfl rfl rfl rfl trivial
theorem ref09_Root (tl : Bool) (nl : Bool) (sl_ : Bool) (l : List (List UInt8)) (hf : fewG szL 40 200 l) : Holds Try.prog 12 ⟨[slV tl nl (kSl sl_ kU8) l], [], dv (strV (rootB l)), []⟩ := ref09_Root_rec _ tl nl sl_ l hf rfl
end Go.Proofs.Ytcpdbbabbnbghaa.Q
