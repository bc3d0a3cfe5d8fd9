import Derived.Test.YtacikihlgpnjhaaC10n6
namespace Go.Proofs.Ytacikihlgpnjhaa.Q
open Go Go.RowKit
set_option linter.unusedVariables false
set_option linter.unusedSimpArgs false
set_option maxRecDepth 100000
set_option maxHeartbeats 4000000
theorem zero_4 : Zero Try.prog 4 [.bool false] := ⟨_, _, iat_4, rfl, rfl⟩
theorem elem_84 : Elem Try.prog 84 4 1 1 := ⟨Try.underlying84, _, _, iat_4, rfl, rfl, rfl, rfl, by decide⟩
-- quaestor/merkle.turns
theorem merkle_turns (i : Int) (n : Int) (hi : 0 ≤ i ∧ i < n) (hn : n ≤ 9223372036854775807) : Holds Try.prog 61 ⟨[dv (.int .i64 i), dv (.int .i64 n)], [], ownV 0 kBool 0 (sidesN i.toNat n.toNat).length, [.live (arrK 4 kBool (sidesN i.toNat n.toNat))]⟩ := by
  refine Holds.of Try.func61 rfl (N := 31) Try.ntmps61 rfl fun w0 B0 S0 U0 => ?_
  show T _ (mkBase 31 0 w0 S0 U0 B0) ⟨[dv (.int .i64 i), dv (.int .i64 n)], []⟩ _ _
  refine T.seq ?_
  refine tR (s1 := ⟨[dv (.int .i64 i), dv (.int .i64 n), aa, aa, dv (.slice none 0 0)], []⟩) (bm 5 19) []
    (oC (oS rfl rfl (r_assign (av := dv (.slice none 0 0)) (lt_of rfl) ⟨rfl, trivial⟩)) (oZ rfl))
    (by kernel_rfl) (by kernel_rfl) ?_
  refine nT ?_
  refine T.scopeS ?_
  refine T.seq ?_
  refine T.label ?_
  refine nT ?_
  refine T.seq ?_
  refine T.block ?_
  refine T.turn (s' := ⟨[dv (.int .i64 i), dv (.int .i64 n), aa, aa, ownV 0 kBool 0 0], [.live (arrK 4 kBool ([] : List Bool))]⟩) (fun _ _ hG => Gs.absent 0 4 4 kBool rfl rfl hG) ?_
  refine T.loop (ι := Nat × Nat × (List Bool)) (fun (x_ : Nat × Nat × (List Bool)) => ⟨[dv (.int .i64 ((x_.1 : Nat) : Int)), dv (.int .i64 ((x_.2.1 : Nat) : Int)), aa, aa, ownV 0 kBool 0 x_.2.2.length], [.live (arrK 4 kBool x_.2.2)]⟩) (fun (x_ : Nat × Nat × (List Bool)) => (x_.2.1 ≤ 9223372036854775807) ∧ (x_.1 < x_.2.1) ∧ (sidesN i.toNat n.toNat = sidesN x_.1 x_.2.1 ++ x_.2.2.reverse)) (fun (x_ : Nat × Nat × (List Bool)) => x_.2.1) (i.toNat, n.toNat, ([] : List Bool)) ⟨(show n.toNat ≤ 9223372036854775807 from (by omega)), (show i.toNat < n.toNat from (by omega)), (show sidesN i.toNat n.toNat = sidesN i.toNat n.toNat ++ ([] : List Bool).reverse from (by simp))⟩ (fun _ _ hG => Gs.into2 (s := ⟨[dv (.int .i64 i), dv (.int .i64 n), aa, aa, ownV 0 kBool 0 0], [.live (arrK 4 kBool ([] : List Bool))]⟩) (s' := ⟨[dv (.int .i64 ((i.toNat : Nat) : Int)), dv (.int .i64 ((n.toNat : Nat) : Int)), aa, aa, ownV 0 kBool 0 ([] : List Bool).length], [.live (arrK 4 kBool ([] : List Bool))]⟩) [0] (bm 5 19) (t1 := [dv (.int .i64 ((i.toNat : Nat) : Int)), dv (.int .i64 ((n.toNat : Nat) : Int)), aa, aa, ownV 0 kBool 0 ([] : List Bool).length]) (t2 := [dv (.int .i64 i), dv (.int .i64 n), aa, aa, ownV 0 kBool 0 0]) (h1 := [.live (arrK 4 kBool ([] : List Bool))]) (h2 := [.live (arrK 4 kBool ([] : List Bool))]) (by have e1 : (((i.toNat : Nat) : Int) : Int) = i := (by first | rfl | omega); have e2 : (((n.toNat : Nat) : Int) : Int) = n := (by first | rfl | omega); have e3 : (([] : List Bool).length : Nat) = 0 := (by first | rfl | omega); have hE := congr (congr (congrArg (fun (q1 : Int) (q2 : Int) (q3 : Nat) => ([dv (.int .i64 q1), dv (.int .i64 q2), aa, aa, ownV 0 kBool 0 q3] : List AV)) e1) e2) e3; exact hE) rfl (by kernel_rfl) (by kernel_rfl) (by kernel_rfl) (by kernel_rfl) (by kernel_rfl) (by kernel_rfl) (by kernel_rfl) (by kernel_rfl) (by kernel_rfl) (by kernel_rfl) (by kernel_rfl) hG) ?_
  rintro ⟨j, m, Dn⟩ ⟨hm, hj, he⟩
  show T _ _ ⟨[dv (.int .i64 ((j : Nat) : Int)), dv (.int .i64 ((m : Nat) : Int)), aa, aa, ownV 0 kBool 0 Dn.length], [.live (arrK 4 kBool Dn)]⟩ _ _
  replace hm : m ≤ 9223372036854775807 := hm
  replace hj : j < m := hj
  replace he : sidesN i.toNat n.toNat = sidesN j m ++ Dn.reverse := he
  have hDl := sides_D he
  refine T.block ?_
  refine T.seq ?_
  refine T.seq ?_
  refine tR (s1 := ⟨[dv (.int .i64 ((j : Nat) : Int)), dv (.int .i64 ((m : Nat) : Int)), aa, aa, ownV 0 kBool 0 Dn.length, aa, aa, aa, dv (.bool (decide (((m : Nat) : Int) < 2)))], [.live (arrK 4 kBool Dn)]⟩) (bm 9 275) [true]
    (oC (oS rfl rfl (r_move (av := dv (.int .i64 ((m : Nat) : Int))) (lt_of rfl) trivial))
    (oC (oS rfl rfl (r_bin (u1 := .int .i64 ((m : Nat) : Int)) (u2 := .int .i64 2) (v := .bool (decide (((m : Nat) : Int) < 2))) b_lss (lt_of rfl) ⟨rfl, trivial⟩)) (oZ rfl)))
    (by kernel_rfl) (by kernel_rfl) ?_
  refine nT ?_
  by_cases hq1 : ((m : Nat) : Int) < 2
  · refine T.condT (b := (decide (((m : Nat) : Int) < 2))) rfl (decide_eq_true hq1) ?_
    refine T.exit ?_
    refine xT ?_
    refine xM rfl ?_
    refine xT ?_
    refine xH ?_
    refine nT ?_
    refine T.seq ?_
    refine tR (s1 := ⟨[dv (.int .i64 ((j : Nat) : Int)), dv (.int .i64 ((m : Nat) : Int)), aa, aa, ownV 0 kBool 0 Dn.length, aa, aa, aa, dv (.bool (decide (((m : Nat) : Int) < 2)))], [.live (arrK 4 kBool Dn.reverse)]⟩) (bm 9 275) [true]
      (oC (oS rfl rfl (r_move (av := ownV 0 kBool 0 Dn.length) (lt_of rfl) trivial))
      (oC (oS rfl rfl (r_call (rev_bool Dn (by first | assumption | omega | (unfold maxLen; omega) | (simp [maxLen] <;> omega) | decide)) Try.func71 rfl (by decide) [0] [] (l := [(.tmp 28, ownV 0 kBool 0 Dn.length)]) [] rfl 1 1 rfl rfl rfl rfl rfl rfl rfl rfl rfl ⟨.inl ⟨rfl, rfl⟩, trivial⟩ rfl (fun b hb => by cases hb) (.inl rfl) (lt_of rfl) trivial)) (oZ rfl)))
      (by kernel_rfl) (by kernel_rfl) ?_
    refine nT ?_
    refine T.seq ?_
    refine T.turn (s' := ⟨[dv (.int .i64 ((j : Nat) : Int)), dv (.int .i64 ((m : Nat) : Int)), aa, aa, ownV 0 kBool 0 Dn.reverse.length, aa, aa, aa, dv (.bool (decide (((m : Nat) : Int) < 2)))], [.live (arrK 4 kBool Dn.reverse)]⟩) (fun _ _ hG => Gs.into2 (s := ⟨[dv (.int .i64 ((j : Nat) : Int)), dv (.int .i64 ((m : Nat) : Int)), aa, aa, ownV 0 kBool 0 Dn.length, aa, aa, aa, dv (.bool (decide (((m : Nat) : Int) < 2)))], [.live (arrK 4 kBool Dn.reverse)]⟩) (s' := ⟨[dv (.int .i64 ((j : Nat) : Int)), dv (.int .i64 ((m : Nat) : Int)), aa, aa, ownV 0 kBool 0 Dn.reverse.length, aa, aa, aa, dv (.bool (decide (((m : Nat) : Int) < 2)))], [.live (arrK 4 kBool Dn.reverse)]⟩) [0] (bm 9 275) (t1 := [dv (.int .i64 ((j : Nat) : Int)), dv (.int .i64 ((m : Nat) : Int)), aa, aa, ownV 0 kBool 0 Dn.reverse.length, aa, aa, aa, dv (.bool (decide (((m : Nat) : Int) < 2)))]) (t2 := [dv (.int .i64 ((j : Nat) : Int)), dv (.int .i64 ((m : Nat) : Int)), aa, aa, ownV 0 kBool 0 Dn.length, aa, aa, aa, dv (.bool (decide (((m : Nat) : Int) < 2)))]) (h1 := [.live (arrK 4 kBool Dn.reverse)]) (h2 := [.live (arrK 4 kBool Dn.reverse)]) (by have e1 : (Dn.reverse.length : Nat) = Dn.length := (by simp only [List.length_set, List.length_reverse]); have hE := congrArg (fun (q1 : Nat) => ([dv (.int .i64 ((j : Nat) : Int)), dv (.int .i64 ((m : Nat) : Int)), aa, aa, ownV 0 kBool 0 q1, aa, aa, aa, dv (.bool (decide (((m : Nat) : Int) < 2)))] : List AV)) e1; exact hE) rfl (by kernel_rfl) (by kernel_rfl) (by kernel_rfl) (by kernel_rfl) (by kernel_rfl) (by kernel_rfl) (by kernel_rfl) (by kernel_rfl) (by kernel_rfl) (by kernel_rfl) (by kernel_rfl) hG) ?_
    refine tR (s1 := ⟨[dv (.int .i64 ((j : Nat) : Int)), dv (.int .i64 ((m : Nat) : Int)), aa, aa, ownV 0 kBool 0 Dn.reverse.length, aa, aa, aa, dv (.bool (decide (((m : Nat) : Int) < 2)))], [.live (arrK 4 kBool Dn.reverse)]⟩) (bm 9 275) [true]
      (oC (oS rfl rfl (r_move (av := ownV 0 kBool 0 Dn.reverse.length) (lt_of rfl) trivial))
      (oC (oS rfl rfl (r_assign (av := ownV 0 kBool 0 Dn.reverse.length) (lt_of rfl) trivial)) (oZ rfl)))
      (by kernel_rfl) (by kernel_rfl) ?_
    refine nT ?_
    refine T.ret ?_
    refine rS ?_
    exact tE (.inl rfl) [.t 4 (.one (.own 0 kBool.sz 0 Dn.reverse.length))] ⟨⟨rfl, rfl⟩, trivial⟩ [0] (by have e1 : ((sidesN i.toNat n.toNat).length : Nat) = Dn.reverse.length := (by first | rfl | exact (sides_end he (by omega)).symm | exact sides_end he (by omega) | (rw [← sides_end he (by omega)])); have hE := congrArg (fun (q1 : Nat) => (ownV 0 kBool 0 q1 : AV)) e1; exact hE) rfl rfl rfl rfl rfl ⟨⟨rfl, (by have e1 : (Dn.reverse : List Bool) = (sidesN i.toNat n.toNat) := (by first | rfl | exact (sides_end he (by omega)).symm | exact sides_end he (by omega) | (rw [← sides_end he (by omega)])); have hE := congrArg (fun (q1 : List Bool) => (.live (arrK 4 kBool q1) : HS)) e1; exact hE)⟩, trivial⟩
  · have h2m : 2 ≤ m := (by omega); have hhl := half_lt h2m; have hhp := half_pos m
    refine T.condF (b := (decide (((m : Nat) : Int) < 2))) rfl (decide_eq_false hq1) ?_
    refine T.skip ?_
    refine nT ?_
    refine T.seq ?_
    refine tR (s1 := ⟨[dv (.int .i64 ((j : Nat) : Int)), dv (.int .i64 ((m : Nat) : Int)), aa, aa, ownV 0 kBool 0 Dn.length, dv (.int .i64 ((half m : Nat) : Int)), aa, aa, dv (.bool (decide (((m : Nat) : Int) < 2)))], [.live (arrK 4 kBool Dn)]⟩) (bm 9 307) [true]
      (oC (oS rfl rfl (r_move (av := dv (.int .i64 ((m : Nat) : Int))) (lt_of rfl) trivial))
      (oC (oS rfl rfl (r_call (merkle_split m (by first | assumption | omega | (unfold maxLen; omega) | (simp [maxLen] <;> omega) | decide) (by first | assumption | omega | (unfold maxLen; omega) | (simp [maxLen] <;> omega) | decide)) Try.func54 rfl (by decide) [] [] (l := [(.tmp 9, dv (.int .i64 ((m : Nat) : Int)))]) [] rfl 0 0 rfl rfl rfl rfl rfl rfl rfl rfl rfl ⟨.inl ⟨rfl, rfl⟩, trivial⟩ rfl (fun b hb => by cases hb) (.inl rfl) (lt_of rfl) trivial))
      (oC (oS rfl rfl (r_assign (av := dv (.int .i64 ((half m : Nat) : Int))) (lt_of rfl) trivial)) (oZ rfl))))
      (by kernel_rfl) (by kernel_rfl) ?_
    refine nT ?_
    refine T.seq ?_
    refine T.seq ?_
    refine tR (s1 := ⟨[dv (.int .i64 ((j : Nat) : Int)), dv (.int .i64 ((m : Nat) : Int)), aa, aa, ownV 0 kBool 0 Dn.length, dv (.int .i64 ((half m : Nat) : Int)), dv (.bool (decide (((j : Nat) : Int) ≥ ((half m : Nat) : Int)))), aa, dv (.bool (decide (((m : Nat) : Int) < 2)))], [.live (arrK 4 kBool Dn)]⟩) (bm 9 371) [true]
      (oC (oS rfl rfl (r_move (av := dv (.int .i64 ((j : Nat) : Int))) (lt_of rfl) trivial))
      (oC (oS rfl rfl (r_move (av := dv (.int .i64 ((half m : Nat) : Int))) (lt_of rfl) trivial))
      (oC (oS rfl rfl (r_bin (u1 := .int .i64 ((j : Nat) : Int)) (u2 := .int .i64 ((half m : Nat) : Int)) (v := .bool (decide (((j : Nat) : Int) ≥ ((half m : Nat) : Int)))) b_geq (lt_of rfl) trivial))
      (oC (oS rfl rfl (r_assign (av := dv (.bool (decide (((j : Nat) : Int) ≥ ((half m : Nat) : Int))))) (lt_of rfl) trivial)) (oZ rfl)))))
      (by kernel_rfl) (by kernel_rfl) ?_
    refine nT ?_
    refine T.seq ?_
    refine tR (s1 := ⟨[dv (.int .i64 ((j : Nat) : Int)), dv (.int .i64 ((m : Nat) : Int)), aa, aa, ownV 0 kBool 0 Dn.length, dv (.int .i64 ((half m : Nat) : Int)), dv (.bool (decide (((j : Nat) : Int) ≥ ((half m : Nat) : Int)))), aa, dv (.bool (decide (((m : Nat) : Int) < 2))), aa, aa, aa, aa, aa, dv (.bool (decide (((j : Nat) : Int) ≥ ((half m : Nat) : Int))))], [.live (arrK 4 kBool Dn)]⟩) (bm 15 16755) [true]
      (oC (oS rfl rfl (r_move (av := dv (.bool (decide (((j : Nat) : Int) ≥ ((half m : Nat) : Int))))) (lt_of rfl) trivial)) (oZ rfl))
      (by kernel_rfl) (by kernel_rfl) ?_
    refine nT ?_
    by_cases hq2 : ((j : Nat) : Int) ≥ ((half m : Nat) : Int)
    · refine T.condT (b := (decide (((j : Nat) : Int) ≥ ((half m : Nat) : Int)))) rfl (decide_eq_true hq2) ?_
      refine T.seq ?_
      refine tR (s1 := ⟨[dv (.int .i64 ((j : Nat) : Int)), dv (.int .i64 ((m : Nat) : Int)), aa, aa, ownV 2 kBool 0 (Dn ++ [true]).length, dv (.int .i64 ((half m : Nat) : Int)), dv (.bool (decide (((j : Nat) : Int) ≥ ((half m : Nat) : Int)))), aa, dv (.bool (decide (((m : Nat) : Int) < 2))), aa, aa, aa, aa, aa, dv (.bool (decide (((j : Nat) : Int) ≥ ((half m : Nat) : Int))))], [.dead, .live (arrK 4 kBool [true]), .live (arrK 4 kBool (Dn ++ [true]))]⟩) (bm 15 16755) [true, true, true]
        (oC (oS rfl rfl (r_move (av := ownV 0 kBool 0 Dn.length) (lt_of rfl) trivial))
        (oC (oS rfl rfl (q_buildSlice 1 4 kBool kBool_ok [true] [⟨0, .const (.bool true), .one (.d (.val (.bool true))), 0⟩] (cs := [.d (.val (.bool true))]) Try.underlying84 iat_4 rfl zero_4 rfl rfl rfl (Nat.le_of_ble_eq_true rfl) (part_cons rfl rfl (Nat.le_of_ble_eq_true rfl) part_ok) rfl ⟨(.inl rfl), trivial⟩ (lt_of rfl) ⟨rfl, trivial⟩))
        (oC (oS rfl rfl (q_appendO 0 2 4 1 kBool kBool_ok Dn [true] (Dn ++ [true]) Dn.length (sy := (.own 1 kBool.sz 0 [true].length)) (rhs := [(1, .live (arrK 4 kBool [true]))]) elem_84 (by first | assumption | omega | (unfold maxLen; omega) | (simp [maxLen] <;> omega) | decide) (src_own 1 4 kBool [true]) (by rw [List.take_length]) (by first | assumption | omega | (unfold maxLen; omega) | (simp [maxLen] <;> omega) | decide) (by first | assumption | omega | (unfold maxLen; omega) | (simp [maxLen] <;> omega) | decide) (lt_of rfl) trivial))
        (oC (oS rfl rfl (r_assign (av := ownV 2 kBool 0 (Dn ++ [true]).length) (lt_of rfl) trivial)) (oZ rfl)))))
        (by kernel_rfl) (by kernel_rfl) ?_
      refine nT ?_
      refine T.seq ?_
      refine tR (s1 := ⟨[dv (.int .i64 ((j - (half m) : Nat) : Int)), dv (.int .i64 ((m - (half m) : Nat) : Int)), aa, aa, ownV 2 kBool 0 (Dn ++ [true]).length, dv (.int .i64 ((half m : Nat) : Int)), dv (.bool (decide (((j : Nat) : Int) ≥ ((half m : Nat) : Int)))), aa, dv (.bool (decide (((m : Nat) : Int) < 2))), aa, aa, aa, aa, aa, dv (.bool (decide (((j : Nat) : Int) ≥ ((half m : Nat) : Int))))], [.dead, .live (arrK 4 kBool [true]), .live (arrK 4 kBool (Dn ++ [true]))]⟩) (bm 15 16755) [true, true, true]
        (oC (oS rfl rfl (r_move (av := dv (.int .i64 ((j : Nat) : Int))) (lt_of rfl) trivial))
        (oC (oS rfl rfl (r_move (av := dv (.int .i64 ((half m : Nat) : Int))) (lt_of rfl) trivial))
        (oC (oS rfl rfl (r_bin (u1 := .int .i64 ((j : Nat) : Int)) (u2 := .int .i64 ((half m : Nat) : Int)) (v := .int .i64 ((j - (half m) : Nat) : Int)) (b_sub (by rw [IntKind.wrap_i64]; omega)) (lt_of rfl) trivial))
        (oC (oS rfl rfl (r_move (av := dv (.int .i64 ((m : Nat) : Int))) (lt_of rfl) trivial))
        (oC (oS rfl rfl (r_move (av := dv (.int .i64 ((half m : Nat) : Int))) (lt_of rfl) trivial))
        (oC (oS rfl rfl (r_bin (u1 := .int .i64 ((m : Nat) : Int)) (u2 := .int .i64 ((half m : Nat) : Int)) (v := .int .i64 ((m - (half m) : Nat) : Int)) (b_sub (by rw [IntKind.wrap_i64]; omega)) (lt_of rfl) trivial))
        (oC (oS rfl rfl (r_assign (av := dv (.int .i64 ((j - (half m) : Nat) : Int))) (lt_of rfl) trivial))
        (oC (oS rfl rfl (r_assign (av := dv (.int .i64 ((m - (half m) : Nat) : Int))) (lt_of rfl) trivial)) (oZ rfl)))))))))
        (by kernel_rfl) (by kernel_rfl) ?_
      refine nT ?_
      refine T.exit ?_
      refine xT ?_
      refine xH ?_
      refine nL (j - (half m), m - (half m), Dn ++ [true]) ⟨(show (m - (half m)) ≤ 9223372036854775807 from (by omega)), (show (j - (half m)) < (m - (half m)) from (by omega)), (show sidesN i.toNat n.toNat = sidesN (j - (half m)) (m - (half m)) ++ (Dn ++ [true]).reverse from (by first | exact sides_stepr he h2m hm (by omega) | exact sides_stepl he h2m hm (by omega)))⟩ (show ((m - (half m)) : Nat) < m from (by omega)) (fun _ _ hG => Gs.into2 (s := ⟨[dv (.int .i64 ((j - (half m) : Nat) : Int)), dv (.int .i64 ((m - (half m) : Nat) : Int)), aa, aa, ownV 2 kBool 0 (Dn ++ [true]).length, dv (.int .i64 ((half m : Nat) : Int)), dv (.bool (decide (((j : Nat) : Int) ≥ ((half m : Nat) : Int)))), aa, dv (.bool (decide (((m : Nat) : Int) < 2))), aa, aa, aa, aa, aa, dv (.bool (decide (((j : Nat) : Int) ≥ ((half m : Nat) : Int))))], [.dead, .live (arrK 4 kBool [true]), .live (arrK 4 kBool (Dn ++ [true]))]⟩) (s' := ⟨[dv (.int .i64 ((j - (half m) : Nat) : Int)), dv (.int .i64 ((m - (half m) : Nat) : Int)), aa, aa, ownV 0 kBool 0 (Dn ++ [true]).length], [.live (arrK 4 kBool (Dn ++ [true]))]⟩) [2] (bm 5 19) (t1 := [dv (.int .i64 ((j - (half m) : Nat) : Int)), dv (.int .i64 ((m - (half m) : Nat) : Int)), aa, aa, ownV 2 kBool 0 (Dn ++ [true]).length]) (t2 := [dv (.int .i64 ((j - (half m) : Nat) : Int)), dv (.int .i64 ((m - (half m) : Nat) : Int)), aa, aa, ownV 2 kBool 0 (Dn ++ [true]).length]) (h1 := [.live (arrK 4 kBool (Dn ++ [true]))]) (h2 := [.live (arrK 4 kBool (Dn ++ [true]))]) rfl rfl (by kernel_rfl) (by kernel_rfl) (by kernel_rfl) (by kernel_rfl) (by kernel_rfl) (by kernel_rfl) (by kernel_rfl) (by kernel_rfl) (by kernel_rfl) (by kernel_rfl) (by kernel_rfl) hG)
    · refine T.condF (b := (decide (((j : Nat) : Int) ≥ ((half m : Nat) : Int)))) rfl (decide_eq_false hq2) ?_
      refine T.skip ?_
      refine nT ?_
      refine T.seq ?_
      refine tR (s1 := ⟨[dv (.int .i64 ((j : Nat) : Int)), dv (.int .i64 ((m : Nat) : Int)), aa, aa, ownV 2 kBool 0 (Dn ++ [false]).length, dv (.int .i64 ((half m : Nat) : Int)), dv (.bool (decide (((j : Nat) : Int) ≥ ((half m : Nat) : Int)))), aa, dv (.bool (decide (((m : Nat) : Int) < 2))), aa, aa, aa, aa, aa, dv (.bool (decide (((j : Nat) : Int) ≥ ((half m : Nat) : Int))))], [.dead, .live (arrK 4 kBool [false]), .live (arrK 4 kBool (Dn ++ [false]))]⟩) (bm 15 16755) [true, true, true]
        (oC (oS rfl rfl (r_move (av := ownV 0 kBool 0 Dn.length) (lt_of rfl) trivial))
        (oC (oS rfl rfl (q_buildSlice 1 4 kBool kBool_ok [false] [⟨0, .const (.bool false), .one (.d (.val (.bool false))), 0⟩] (cs := [.d (.val (.bool false))]) Try.underlying84 iat_4 rfl zero_4 rfl rfl rfl (Nat.le_of_ble_eq_true rfl) (part_cons rfl rfl (Nat.le_of_ble_eq_true rfl) part_ok) rfl ⟨(.inl rfl), trivial⟩ (lt_of rfl) ⟨rfl, trivial⟩))
        (oC (oS rfl rfl (q_appendO 0 2 4 1 kBool kBool_ok Dn [false] (Dn ++ [false]) Dn.length (sy := (.own 1 kBool.sz 0 [false].length)) (rhs := [(1, .live (arrK 4 kBool [false]))]) elem_84 (by first | assumption | omega | (unfold maxLen; omega) | (simp [maxLen] <;> omega) | decide) (src_own 1 4 kBool [false]) (by rw [List.take_length]) (by first | assumption | omega | (unfold maxLen; omega) | (simp [maxLen] <;> omega) | decide) (by first | assumption | omega | (unfold maxLen; omega) | (simp [maxLen] <;> omega) | decide) (lt_of rfl) trivial))
        (oC (oS rfl rfl (r_assign (av := ownV 2 kBool 0 (Dn ++ [false]).length) (lt_of rfl) trivial)) (oZ rfl)))))
        (by kernel_rfl) (by kernel_rfl) ?_
      refine nT ?_
      refine tR (s1 := ⟨[dv (.int .i64 ((j : Nat) : Int)), dv (.int .i64 ((half m : Nat) : Int)), aa, aa, ownV 2 kBool 0 (Dn ++ [false]).length, dv (.int .i64 ((half m : Nat) : Int)), dv (.bool (decide (((j : Nat) : Int) ≥ ((half m : Nat) : Int)))), aa, dv (.bool (decide (((m : Nat) : Int) < 2))), aa, aa, aa, aa, aa, dv (.bool (decide (((j : Nat) : Int) ≥ ((half m : Nat) : Int))))], [.dead, .live (arrK 4 kBool [false]), .live (arrK 4 kBool (Dn ++ [false]))]⟩) (bm 15 16755) [true, true, true]
        (oC (oS rfl rfl (r_move (av := dv (.int .i64 ((half m : Nat) : Int))) (lt_of rfl) trivial))
        (oC (oS rfl rfl (r_assign (av := dv (.int .i64 ((half m : Nat) : Int))) (lt_of rfl) trivial)) (oZ rfl)))
        (by kernel_rfl) (by kernel_rfl) ?_
      refine nB ?_
      refine nL (j, half m, Dn ++ [false]) ⟨(show (half m) ≤ 9223372036854775807 from (by omega)), (show j < (half m) from (by omega)), (show sidesN i.toNat n.toNat = sidesN j (half m) ++ (Dn ++ [false]).reverse from (by first | exact sides_stepr he h2m hm (by omega) | exact sides_stepl he h2m hm (by omega)))⟩ (show ((half m) : Nat) < m from (by omega)) (fun _ _ hG => Gs.into2 (s := ⟨[dv (.int .i64 ((j : Nat) : Int)), dv (.int .i64 ((half m : Nat) : Int)), aa, aa, ownV 2 kBool 0 (Dn ++ [false]).length, dv (.int .i64 ((half m : Nat) : Int)), dv (.bool (decide (((j : Nat) : Int) ≥ ((half m : Nat) : Int)))), aa, dv (.bool (decide (((m : Nat) : Int) < 2))), aa, aa, aa, aa, aa, dv (.bool (decide (((j : Nat) : Int) ≥ ((half m : Nat) : Int))))], [.dead, .live (arrK 4 kBool [false]), .live (arrK 4 kBool (Dn ++ [false]))]⟩) (s' := ⟨[dv (.int .i64 ((j : Nat) : Int)), dv (.int .i64 ((half m : Nat) : Int)), aa, aa, ownV 0 kBool 0 (Dn ++ [false]).length], [.live (arrK 4 kBool (Dn ++ [false]))]⟩) [2] (bm 5 19) (t1 := [dv (.int .i64 ((j : Nat) : Int)), dv (.int .i64 ((half m : Nat) : Int)), aa, aa, ownV 2 kBool 0 (Dn ++ [false]).length]) (t2 := [dv (.int .i64 ((j : Nat) : Int)), dv (.int .i64 ((half m : Nat) : Int)), aa, aa, ownV 2 kBool 0 (Dn ++ [false]).length]) (h1 := [.live (arrK 4 kBool (Dn ++ [false]))]) (h2 := [.live (arrK 4 kBool (Dn ++ [false]))]) rfl rfl (by kernel_rfl) (by kernel_rfl) (by kernel_rfl) (by kernel_rfl) (by kernel_rfl) (by kernel_rfl) (by kernel_rfl) (by kernel_rfl) (by kernel_rfl) (by kernel_rfl) (by kernel_rfl) hG)

-- quaestor/quaestorref09.sides
theorem ref09_sides_rec : ∀ (N : Nat) (j : Nat) (m : Nat) (hj : j ≤ 9223372036854775807) (hm : m ≤ 9223372036854775807), m = N → Holds Try.prog 62 ⟨[dv (.int .i64 ((j : Nat) : Int)), dv (.int .i64 ((m : Nat) : Int))], [], ownV 0 kBool 0 (sidesN j m).length, [.live (arrK 4 kBool (sidesN j m))]⟩ := by
  intro N
  induction N using Nat.strongRecOn with
  | _ N ih =>
    intro j m hj hm hN
    refine Holds.of Try.func62 rfl (N := 27) Try.ntmps62 rfl fun w0 B0 S0 U0 => ?_
    show T _ (mkBase 27 0 w0 S0 U0 B0) ⟨[dv (.int .i64 ((j : Nat) : Int)), dv (.int .i64 ((m : Nat) : Int))], []⟩ _ _
    refine T.seq ?_
    refine tR (s1 := ⟨[dv (.int .i64 ((j : Nat) : Int)), dv (.int .i64 ((m : Nat) : Int)), aa, aa, dv (.slice none 0 0)], []⟩) (bm 5 19) []
      (oC (oS rfl rfl (r_assign (av := dv (.slice none 0 0)) (lt_of rfl) ⟨rfl, trivial⟩)) (oZ rfl))
      (by kernel_rfl) (by kernel_rfl) ?_
    refine nT ?_
    refine T.seq ?_
    refine T.seq ?_
    refine tR (s1 := ⟨[dv (.int .i64 ((j : Nat) : Int)), dv (.int .i64 ((m : Nat) : Int)), aa, aa, dv (.slice none 0 0), aa, aa, dv (.bool (decide (((m : Nat) : Int) < 2)))], []⟩) (bm 8 147) []
      (oC (oS rfl rfl (r_move (av := dv (.int .i64 ((m : Nat) : Int))) (lt_of rfl) trivial))
      (oC (oS rfl rfl (r_bin (u1 := .int .i64 ((m : Nat) : Int)) (u2 := .int .i64 2) (v := .bool (decide (((m : Nat) : Int) < 2))) b_lss (lt_of rfl) ⟨rfl, trivial⟩)) (oZ rfl)))
      (by kernel_rfl) (by kernel_rfl) ?_
    refine nT ?_
    by_cases hq1 : ((m : Nat) : Int) < 2
    · refine T.condT (b := (decide (((m : Nat) : Int) < 2))) rfl (decide_eq_true hq1) ?_
      refine T.seq ?_
      refine tR (s1 := ⟨[dv (.int .i64 ((j : Nat) : Int)), dv (.int .i64 ((m : Nat) : Int)), aa, aa, dv (.slice none 0 0), aa, aa, dv (.bool (decide (((m : Nat) : Int) < 2)))], []⟩) (bm 8 147) []
        (oC (oS rfl rfl (r_assign (av := dv (.slice none 0 0)) (lt_of rfl) ⟨rfl, trivial⟩)) (oZ rfl))
        (by kernel_rfl) (by kernel_rfl) ?_
      refine nT ?_
      refine T.ret ?_
      refine rT ?_
      refine Ends.turn (s' := ⟨[dv (.int .i64 ((j : Nat) : Int)), dv (.int .i64 ((m : Nat) : Int)), aa, aa, ownV 0 kBool 0 0, aa, aa, dv (.bool (decide (((m : Nat) : Int) < 2)))], [.live (arrK 4 kBool ([] : List Bool))]⟩) (fun _ _ hG => Gs.absent 0 4 4 kBool rfl rfl hG) ?_
      exact tE (.inl rfl) [.t 4 (.one (.own 0 kBool.sz 0 0))] ⟨⟨rfl, rfl⟩, trivial⟩ [0] (by have e1 : ((sidesN j m).length : Nat) = 0 := (by first | rfl | exact sides_1 (by omega) _ | exact (sides_1 (by omega) _).symm | (rw [sides_1 (by omega)]; first | done | rfl) | exact sides_l h2m hm (by omega) | exact (sides_l h2m hm (by omega)).symm | exact sides_r h2m hm (by omega) | exact (sides_r h2m hm (by omega)).symm | (rw [sides_l h2m hm (by omega)]) | (rw [sides_r h2m hm (by omega)])); have hE := congrArg (fun (q1 : Nat) => (ownV 0 kBool 0 q1 : AV)) e1; exact hE) rfl rfl rfl rfl rfl ⟨⟨rfl, (by have e1 : (([] : List Bool) : List Bool) = (sidesN j m) := (by first | rfl | exact sides_1 (by omega) _ | exact (sides_1 (by omega) _).symm | (rw [sides_1 (by omega)]; first | done | rfl) | exact sides_l h2m hm (by omega) | exact (sides_l h2m hm (by omega)).symm | exact sides_r h2m hm (by omega) | exact (sides_r h2m hm (by omega)).symm | (rw [sides_l h2m hm (by omega)]) | (rw [sides_r h2m hm (by omega)])); have hE := congrArg (fun (q1 : List Bool) => (.live (arrK 4 kBool q1) : HS)) e1; exact hE)⟩, trivial⟩
    · have h2m : 2 ≤ m := (by omega); have hhl := half_lt h2m; have hhp := half_pos m; have hsa := sides_len j (half m); have hsb := sides_len (j - half m) (m - half m)
      refine T.condF (b := (decide (((m : Nat) : Int) < 2))) rfl (decide_eq_false hq1) ?_
      refine T.skip ?_
      refine nT ?_
      refine T.seq ?_
      refine tR (s1 := ⟨[dv (.int .i64 ((j : Nat) : Int)), dv (.int .i64 ((m : Nat) : Int)), aa, aa, dv (.slice none 0 0), dv (.int .i64 ((half m : Nat) : Int)), aa, dv (.bool (decide (((m : Nat) : Int) < 2)))], []⟩) (bm 8 179) []
        (oC (oS rfl rfl (r_move (av := dv (.int .i64 ((m : Nat) : Int))) (lt_of rfl) trivial))
        (oC (oS rfl rfl (r_call (ref09_half m (by first | assumption | omega | (unfold maxLen; omega) | (simp [maxLen] <;> omega) | decide) (by first | assumption | omega | (unfold maxLen; omega) | (simp [maxLen] <;> omega) | decide)) Try.func57 rfl (by decide) [] [] (l := [(.tmp 8, dv (.int .i64 ((m : Nat) : Int)))]) [] rfl 0 0 rfl rfl rfl rfl rfl rfl rfl rfl rfl ⟨.inl ⟨rfl, rfl⟩, trivial⟩ rfl (fun b hb => by cases hb) (.inl rfl) (lt_of rfl) trivial))
        (oC (oS rfl rfl (r_assign (av := dv (.int .i64 ((half m : Nat) : Int))) (lt_of rfl) trivial)) (oZ rfl))))
        (by kernel_rfl) (by kernel_rfl) ?_
      refine nT ?_
      refine T.seq ?_
      refine T.seq ?_
      refine tR (s1 := ⟨[dv (.int .i64 ((j : Nat) : Int)), dv (.int .i64 ((m : Nat) : Int)), aa, aa, dv (.slice none 0 0), dv (.int .i64 ((half m : Nat) : Int)), aa, dv (.bool (decide (((m : Nat) : Int) < 2))), aa, aa, aa, aa, dv (.bool (decide (((j : Nat) : Int) < ((half m : Nat) : Int))))], []⟩) (bm 13 4275) []
        (oC (oS rfl rfl (r_move (av := dv (.int .i64 ((j : Nat) : Int))) (lt_of rfl) trivial))
        (oC (oS rfl rfl (r_move (av := dv (.int .i64 ((half m : Nat) : Int))) (lt_of rfl) trivial))
        (oC (oS rfl rfl (r_bin (u1 := .int .i64 ((j : Nat) : Int)) (u2 := .int .i64 ((half m : Nat) : Int)) (v := .bool (decide (((j : Nat) : Int) < ((half m : Nat) : Int)))) b_lss (lt_of rfl) trivial)) (oZ rfl))))
        (by kernel_rfl) (by kernel_rfl) ?_
      refine nT ?_
      by_cases hq2 : ((j : Nat) : Int) < ((half m : Nat) : Int)
      · refine T.condT (b := (decide (((j : Nat) : Int) < ((half m : Nat) : Int)))) rfl (decide_eq_true hq2) ?_
        refine T.seq ?_
        refine tR (s1 := ⟨[dv (.int .i64 ((j : Nat) : Int)), dv (.int .i64 ((m : Nat) : Int)), aa, aa, ownV 2 kBool 0 ((sidesN j (half m)) ++ [false]).length, dv (.int .i64 ((half m : Nat) : Int)), aa, dv (.bool (decide (((m : Nat) : Int) < 2))), aa, aa, aa, aa, dv (.bool (decide (((j : Nat) : Int) < ((half m : Nat) : Int))))], [.dead, .live (arrK 4 kBool [false]), .live (arrK 4 kBool ((sidesN j (half m)) ++ [false]))]⟩) (bm 13 4275) [true, true, true]
          (oC (oS rfl rfl (r_move (av := dv (.int .i64 ((j : Nat) : Int))) (lt_of rfl) trivial))
          (oC (oS rfl rfl (r_move (av := dv (.int .i64 ((half m : Nat) : Int))) (lt_of rfl) trivial))
          (oC (oS rfl rfl (r_call (ih ((half m)) (show (half m) < N from (by omega)) j (half m) (by first | assumption | omega | (unfold maxLen; omega) | (simp [maxLen] <;> omega) | decide) (by first | assumption | omega | (unfold maxLen; omega) | (simp [maxLen] <;> omega) | decide) rfl) Try.func62 rfl (by decide) [0] [] (l := [(.tmp 13, dv (.int .i64 ((j : Nat) : Int))), (.tmp 14, dv (.int .i64 ((half m : Nat) : Int)))]) [] rfl 0 1 rfl rfl rfl rfl rfl rfl rfl rfl rfl ⟨.inl ⟨rfl, rfl⟩, ⟨.inl ⟨rfl, rfl⟩, trivial⟩⟩ rfl (fun b hb => by cases hb) (.inl rfl) (lt_of rfl) trivial))
          (oC (oS rfl rfl (q_buildSlice 1 4 kBool kBool_ok [false] [⟨0, .const (.bool false), .one (.d (.val (.bool false))), 0⟩] (cs := [.d (.val (.bool false))]) Try.underlying84 iat_4 rfl zero_4 rfl rfl rfl (Nat.le_of_ble_eq_true rfl) (part_cons rfl rfl (Nat.le_of_ble_eq_true rfl) part_ok) rfl ⟨(.inl rfl), trivial⟩ (lt_of rfl) ⟨rfl, trivial⟩))
          (oC (oS rfl rfl (q_appendO 0 2 4 1 kBool kBool_ok (sidesN j (half m)) [false] ((sidesN j (half m)) ++ [false]) (sidesN j (half m)).length (sy := (.own 1 kBool.sz 0 [false].length)) (rhs := [(1, .live (arrK 4 kBool [false]))]) elem_84 (by first | assumption | omega | (unfold maxLen; omega) | (simp [maxLen] <;> omega) | decide) (src_own 1 4 kBool [false]) (by rw [List.take_length]) (by first | assumption | omega | (unfold maxLen; omega) | (simp [maxLen] <;> omega) | decide) (by first | assumption | omega | (unfold maxLen; omega) | (simp [maxLen] <;> omega) | decide) (lt_of rfl) trivial))
          (oC (oS rfl rfl (r_assign (av := ownV 2 kBool 0 ((sidesN j (half m)) ++ [false]).length) (lt_of rfl) trivial)) (oZ rfl)))))))
          (by kernel_rfl) (by kernel_rfl) ?_
        refine nT ?_
        refine T.ret ?_
        refine rT ?_
        exact tE (.inl rfl) [.t 4 (.one (.own 2 kBool.sz 0 ((sidesN j (half m)) ++ [false]).length))] ⟨⟨rfl, rfl⟩, trivial⟩ [2] (by have e1 : ((sidesN j m).length : Nat) = ((sidesN j (half m)) ++ [false]).length := (by first | rfl | exact sides_1 (by omega) _ | exact (sides_1 (by omega) _).symm | (rw [sides_1 (by omega)]; first | done | rfl) | exact sides_l h2m hm (by omega) | exact (sides_l h2m hm (by omega)).symm | exact sides_r h2m hm (by omega) | exact (sides_r h2m hm (by omega)).symm | (rw [sides_l h2m hm (by omega)]) | (rw [sides_r h2m hm (by omega)])); have hE := congrArg (fun (q1 : Nat) => (ownV 2 kBool 0 q1 : AV)) e1; exact hE) rfl rfl rfl rfl rfl ⟨⟨rfl, (by have e1 : ((sidesN j (half m)) ++ [false] : List Bool) = (sidesN j m) := (by first | rfl | exact sides_1 (by omega) _ | exact (sides_1 (by omega) _).symm | (rw [sides_1 (by omega)]; first | done | rfl) | exact sides_l h2m hm (by omega) | exact (sides_l h2m hm (by omega)).symm | exact sides_r h2m hm (by omega) | exact (sides_r h2m hm (by omega)).symm | (rw [sides_l h2m hm (by omega)]) | (rw [sides_r h2m hm (by omega)])); have hE := congrArg (fun (q1 : List Bool) => (.live (arrK 4 kBool q1) : HS)) e1; exact hE)⟩, trivial⟩
      · refine T.condF (b := (decide (((j : Nat) : Int) < ((half m : Nat) : Int)))) rfl (decide_eq_false hq2) ?_
        refine T.skip ?_
        refine nT ?_
        refine T.seq ?_
        refine tR (s1 := ⟨[dv (.int .i64 ((j : Nat) : Int)), dv (.int .i64 ((m : Nat) : Int)), aa, aa, ownV 2 kBool 0 ((sidesN (j - (half m)) (m - (half m))) ++ [true]).length, dv (.int .i64 ((half m : Nat) : Int)), aa, dv (.bool (decide (((m : Nat) : Int) < 2))), aa, aa, aa, aa, dv (.bool (decide (((j : Nat) : Int) < ((half m : Nat) : Int))))], [.dead, .live (arrK 4 kBool [true]), .live (arrK 4 kBool ((sidesN (j - (half m)) (m - (half m))) ++ [true]))]⟩) (bm 13 4275) [true, true, true]
          (oC (oS rfl rfl (r_move (av := dv (.int .i64 ((j : Nat) : Int))) (lt_of rfl) trivial))
          (oC (oS rfl rfl (r_move (av := dv (.int .i64 ((half m : Nat) : Int))) (lt_of rfl) trivial))
          (oC (oS rfl rfl (r_bin (u1 := .int .i64 ((j : Nat) : Int)) (u2 := .int .i64 ((half m : Nat) : Int)) (v := .int .i64 ((j - (half m) : Nat) : Int)) (b_sub (by rw [IntKind.wrap_i64]; omega)) (lt_of rfl) trivial))
          (oC (oS rfl rfl (r_move (av := dv (.int .i64 ((m : Nat) : Int))) (lt_of rfl) trivial))
          (oC (oS rfl rfl (r_move (av := dv (.int .i64 ((half m : Nat) : Int))) (lt_of rfl) trivial))
          (oC (oS rfl rfl (r_bin (u1 := .int .i64 ((m : Nat) : Int)) (u2 := .int .i64 ((half m : Nat) : Int)) (v := .int .i64 ((m - (half m) : Nat) : Int)) (b_sub (by rw [IntKind.wrap_i64]; omega)) (lt_of rfl) trivial))
          (oC (oS rfl rfl (r_call (ih ((m - (half m))) (show (m - (half m)) < N from (by omega)) (j - (half m)) (m - (half m)) (by first | assumption | omega | (unfold maxLen; omega) | (simp [maxLen] <;> omega) | decide) (by first | assumption | omega | (unfold maxLen; omega) | (simp [maxLen] <;> omega) | decide) rfl) Try.func62 rfl (by decide) [0] [] (l := [(.tmp 20, dv (.int .i64 ((j - (half m) : Nat) : Int))), (.tmp 23, dv (.int .i64 ((m - (half m) : Nat) : Int)))]) [] rfl 0 1 rfl rfl rfl rfl rfl rfl rfl rfl rfl ⟨.inl ⟨rfl, rfl⟩, ⟨.inl ⟨rfl, rfl⟩, trivial⟩⟩ rfl (fun b hb => by cases hb) (.inl rfl) (lt_of rfl) trivial))
          (oC (oS rfl rfl (q_buildSlice 1 4 kBool kBool_ok [true] [⟨0, .const (.bool true), .one (.d (.val (.bool true))), 0⟩] (cs := [.d (.val (.bool true))]) Try.underlying84 iat_4 rfl zero_4 rfl rfl rfl (Nat.le_of_ble_eq_true rfl) (part_cons rfl rfl (Nat.le_of_ble_eq_true rfl) part_ok) rfl ⟨(.inl rfl), trivial⟩ (lt_of rfl) ⟨rfl, trivial⟩))
          (oC (oS rfl rfl (q_appendO 0 2 4 1 kBool kBool_ok (sidesN (j - (half m)) (m - (half m))) [true] ((sidesN (j - (half m)) (m - (half m))) ++ [true]) (sidesN (j - (half m)) (m - (half m))).length (sy := (.own 1 kBool.sz 0 [true].length)) (rhs := [(1, .live (arrK 4 kBool [true]))]) elem_84 (by first | assumption | omega | (unfold maxLen; omega) | (simp [maxLen] <;> omega) | decide) (src_own 1 4 kBool [true]) (by rw [List.take_length]) (by first | assumption | omega | (unfold maxLen; omega) | (simp [maxLen] <;> omega) | decide) (by first | assumption | omega | (unfold maxLen; omega) | (simp [maxLen] <;> omega) | decide) (lt_of rfl) trivial))
          (oC (oS rfl rfl (r_assign (av := ownV 2 kBool 0 ((sidesN (j - (half m)) (m - (half m))) ++ [true]).length) (lt_of rfl) trivial)) (oZ rfl)))))))))))
          (by kernel_rfl) (by kernel_rfl) ?_
        refine nT ?_
        refine T.ret ?_
        exact tE (.inl rfl) [.t 4 (.one (.own 2 kBool.sz 0 ((sidesN (j - (half m)) (m - (half m))) ++ [true]).length))] ⟨⟨rfl, rfl⟩, trivial⟩ [2] (by have e1 : ((sidesN j m).length : Nat) = ((sidesN (j - (half m)) (m - (half m))) ++ [true]).length := (by first | rfl | exact sides_1 (by omega) _ | exact (sides_1 (by omega) _).symm | (rw [sides_1 (by omega)]; first | done | rfl) | exact sides_l h2m hm (by omega) | exact (sides_l h2m hm (by omega)).symm | exact sides_r h2m hm (by omega) | exact (sides_r h2m hm (by omega)).symm | (rw [sides_l h2m hm (by omega)]) | (rw [sides_r h2m hm (by omega)])); have hE := congrArg (fun (q1 : Nat) => (ownV 2 kBool 0 q1 : AV)) e1; exact hE) rfl rfl rfl rfl rfl ⟨⟨rfl, (by have e1 : ((sidesN (j - (half m)) (m - (half m))) ++ [true] : List Bool) = (sidesN j m) := (by first | rfl | exact sides_1 (by omega) _ | exact (sides_1 (by omega) _).symm | (rw [sides_1 (by omega)]; first | done | rfl) | exact sides_l h2m hm (by omega) | exact (sides_l h2m hm (by omega)).symm | exact sides_r h2m hm (by omega) | exact (sides_r h2m hm (by omega)).symm | (rw [sides_l h2m hm (by omega)]) | (rw [sides_r h2m hm (by omega)])); have hE := congrArg (fun (q1 : List Bool) => (.live (arrK 4 kBool q1) : HS)) e1; exact hE)⟩, trivial⟩
theorem ref09_sides (j : Nat) (m : Nat) (hj : j ≤ 9223372036854775807) (hm : m ≤ 9223372036854775807) : Holds Try.prog 62 ⟨[dv (.int .i64 ((j : Nat) : Int)), dv (.int .i64 ((m : Nat) : Int))], [], ownV 0 kBool 0 (sidesN j m).length, [.live (arrK 4 kBool (sidesN j m))]⟩ := ref09_sides_rec _ j m hj hm rfl

theorem fld_67_0 : FieldAt Try.prog 67 0 0 := ⟨_, _, _, Try.underlying67, rfl, iat_4, by decide, rfl⟩
theorem fld_67_1 : FieldAt Try.prog 67 1 1 := ⟨_, _, _, Try.underlying67, rfl, iat_22, by decide, rfl⟩
theorem wide_22 : Wide Try.prog 22 none := ⟨_, Try.underlying22, (fun _ h => by cases h), (fun _ _ h => by cases h)⟩
-- quaestor/merkle.Check
theorem merkle_Check (root : List UInt8) (tleaf : Bool) (nleaf : Bool) (leaf : List UInt8) (i : Int) (n : Int) (tp : Bool) (np : Bool) (p : List api_Step) (hp : fewG szS 70 30000 p) (hl : leaf.length ≤ 600) (hn : n ≤ 9223372036854775807) : Holds Try.prog 40 ⟨[dv (strV root), slV tleaf nleaf kU8 leaf, dv (.int .i64 i), dv (.int .i64 n), slV tp np (k_api_Step false) p], [], dv (.int .i64 (checkM root leaf i n p)), []⟩ := by
  refine Holds.of Try.func40 rfl (N := 62) Try.ntmps40 rfl fun w0 B0 S0 U0 => ?_
  show T _ (mkBase 62 0 w0 S0 U0 B0) ⟨[dv (strV root), slV tleaf nleaf kU8 leaf, dv (.int .i64 i), dv (.int .i64 n), slV tp np (k_api_Step false) p], []⟩ _ _
  have hp70 := hp.1
  refine T.seq ?_
  refine tR (s1 := ⟨[dv (strV root), slV tleaf nleaf kU8 leaf, dv (.int .i64 i), dv (.int .i64 n), slV tp np (k_api_Step false) p, aa, aa, aa, aa, aa, dv (.int .i64 0)], []⟩) (bm 11 1055) []
    (oC (oS rfl rfl (r_assign (av := dv (.int .i64 0)) (lt_of rfl) ⟨rfl, trivial⟩)) (oZ rfl))
    (by kernel_rfl) (by kernel_rfl) ?_
  refine nT ?_
  refine T.seq ?_
  refine T.seq ?_
  by_cases hq1 : i < 0
  · refine tR (s1 := ⟨[dv (strV root), slV tleaf nleaf kU8 leaf, dv (.int .i64 i), dv (.int .i64 n), slV tp np (k_api_Step false) p, aa, aa, aa, aa, aa, dv (.int .i64 0), aa, aa, aa, aa, aa, aa, aa, aa, aa, aa, dv (.bool true)], []⟩) (bm 22 2098207) []
      (oC (oS rfl rfl (r_move (av := dv (.int .i64 i)) (lt_of rfl) trivial))
      (oC (oS rfl rfl (r_bin (u1 := .int .i64 i) (u2 := .int .i64 0) (v := .bool (decide (i < 0))) b_lss (lt_of rfl) ⟨rfl, trivial⟩))
      (oC (oS rfl rfl (r_move (av := dv (.bool (decide (i < 0)))) (lt_of rfl) trivial))
      (oC (oN (b := (decide (i < 0))) rfl rfl rfl rfl (lt_of rfl) (decide_eq_true hq1) rfl (lt_of rfl))
      (oC (oN (b := (decide (i < 0))) rfl rfl rfl rfl (lt_of rfl) (decide_eq_true hq1) rfl (lt_of rfl))
      (oC (oN (b := (decide (i < 0))) rfl rfl rfl rfl (lt_of rfl) (decide_eq_true hq1) rfl (lt_of rfl))
      (oC (oS rfl rfl (r_pickT (b := (decide (i < 0))) (av := dv (.bool true)) (lt_of rfl) ⟨rfl, trivial⟩ (decide_eq_true hq1))) (oZ rfl))))))))
      (by kernel_rfl) (by kernel_rfl) ?_
    refine nT ?_
    refine T.condT (b := true) rfl rfl ?_
    refine T.seq ?_
    refine tR (s1 := ⟨[dv (strV root), slV tleaf nleaf kU8 leaf, dv (.int .i64 i), dv (.int .i64 n), slV tp np (k_api_Step false) p, aa, aa, aa, aa, aa, dv (.int .i64 2), aa, aa, aa, aa, aa, aa, aa, aa, aa, aa, dv (.bool true)], []⟩) (bm 22 2098207) []
      (oC (oS rfl rfl (r_assign (av := dv (.int .i64 2)) (lt_of rfl) ⟨rfl, trivial⟩)) (oZ rfl))
      (by kernel_rfl) (by kernel_rfl) ?_
    refine nT ?_
    refine T.ret ?_
    refine rT ?_
    exact tE (.inl rfl) [.t 10 (.one (.d (.val (.int .i64 2))))] ⟨⟨rfl, rfl⟩, trivial⟩ [] (by have e1 : ((checkM root leaf i n p) : Int) = 2 := (by first | rfl | exact chk_range (by omega) | exact chk_len (by omega) (by omega) | exact chk_at (p := p) (k := k) (by omega) (by omega) (by assumption) | exact (chk_range (by omega)).symm | exact (chk_len (by omega) (by omega)).symm | exact (chk_at (p := p) (k := k) (by omega) (by omega) (by assumption)).symm | (rw [chk_end (root := root) (leaf := leaf) (k := k) (by omega) hsl (by omega) hb]; simp [*]; done)); have hE := congrArg (fun (q1 : Int) => (dv (.int .i64 q1) : AV)) e1; exact hE) rfl rfl rfl rfl rfl trivial
  · refine tR (s1 := ⟨[dv (strV root), slV tleaf nleaf kU8 leaf, dv (.int .i64 i), dv (.int .i64 n), slV tp np (k_api_Step false) p, aa, aa, aa, aa, aa, dv (.int .i64 0), aa, aa, aa, aa, aa, aa, aa, aa, aa, aa, dv (.bool (decide (i ≥ n)))], []⟩) (bm 22 2098207) []
      (oC (oS rfl rfl (r_move (av := dv (.int .i64 i)) (lt_of rfl) trivial))
      (oC (oS rfl rfl (r_bin (u1 := .int .i64 i) (u2 := .int .i64 0) (v := .bool (decide (i < 0))) b_lss (lt_of rfl) ⟨rfl, trivial⟩))
      (oC (oS rfl rfl (r_move (av := dv (.bool (decide (i < 0)))) (lt_of rfl) trivial))
      (oC (oY (b := (decide (i < 0))) rfl rfl rfl rfl (lt_of rfl) (decide_eq_false hq1) (r_move (av := dv (.int .i64 i)) (lt_of rfl) trivial))
      (oC (oY (b := (decide (i < 0))) rfl rfl rfl rfl (lt_of rfl) (decide_eq_false hq1) (r_move (av := dv (.int .i64 n)) (lt_of rfl) trivial))
      (oC (oY (b := (decide (i < 0))) rfl rfl rfl rfl (lt_of rfl) (decide_eq_false hq1) (r_bin (u1 := .int .i64 i) (u2 := .int .i64 n) (v := .bool (decide (i ≥ n))) b_geq (lt_of rfl) trivial))
      (oC (oS rfl rfl (r_pickF (b := (decide (i < 0))) (av := dv (.bool (decide (i ≥ n)))) (lt_of rfl) trivial (decide_eq_false hq1))) (oZ rfl))))))))
      (by kernel_rfl) (by kernel_rfl) ?_
    refine nT ?_
    by_cases hq2 : i ≥ n
    · refine T.condT (b := (decide (i ≥ n))) rfl (decide_eq_true hq2) ?_
      refine T.seq ?_
      refine tR (s1 := ⟨[dv (strV root), slV tleaf nleaf kU8 leaf, dv (.int .i64 i), dv (.int .i64 n), slV tp np (k_api_Step false) p, aa, aa, aa, aa, aa, dv (.int .i64 2), aa, aa, aa, aa, aa, aa, aa, aa, aa, aa, dv (.bool (decide (i ≥ n)))], []⟩) (bm 22 2098207) []
        (oC (oS rfl rfl (r_assign (av := dv (.int .i64 2)) (lt_of rfl) ⟨rfl, trivial⟩)) (oZ rfl))
        (by kernel_rfl) (by kernel_rfl) ?_
      refine nT ?_
      refine T.ret ?_
      refine rT ?_
      exact tE (.inl rfl) [.t 10 (.one (.d (.val (.int .i64 2))))] ⟨⟨rfl, rfl⟩, trivial⟩ [] (by have e1 : ((checkM root leaf i n p) : Int) = 2 := (by first | rfl | exact chk_range (by omega) | exact chk_len (by omega) (by omega) | exact chk_at (p := p) (k := k) (by omega) (by omega) (by assumption) | exact (chk_range (by omega)).symm | exact (chk_len (by omega) (by omega)).symm | exact (chk_at (p := p) (k := k) (by omega) (by omega) (by assumption)).symm | (rw [chk_end (root := root) (leaf := leaf) (k := k) (by omega) hsl (by omega) hb]; simp [*]; done)); have hE := congrArg (fun (q1 : Int) => (dv (.int .i64 q1) : AV)) e1; exact hE) rfl rfl rfl rfl rfl trivial
    · refine T.condF (b := (decide (i ≥ n))) rfl (decide_eq_false hq2) ?_
      refine T.skip ?_
      refine nT ?_
      refine T.seq ?_
      refine tR (s1 := ⟨[dv (strV root), slV tleaf nleaf kU8 leaf, dv (.int .i64 i), dv (.int .i64 n), slV tp np (k_api_Step false) p, aa, aa, aa, aa, aa, dv (.int .i64 0), ownV 0 kBool 0 (sidesN i.toNat n.toNat).length, aa, aa, aa, aa, aa, aa, aa, aa, aa, dv (.bool (decide (i ≥ n)))], [.live (arrK 4 kBool (sidesN i.toNat n.toNat))]⟩) (bm 22 2100255) [true]
        (oC (oS rfl rfl (r_move (av := dv (.int .i64 i)) (lt_of rfl) trivial))
        (oC (oS rfl rfl (r_move (av := dv (.int .i64 n)) (lt_of rfl) trivial))
        (oC (oS rfl rfl (r_call (merkle_turns i n (by first | assumption | omega | (unfold maxLen; omega) | (simp [maxLen] <;> omega) | decide) (by first | assumption | omega | (unfold maxLen; omega) | (simp [maxLen] <;> omega) | decide)) Try.func61 rfl (by decide) [0] [] (l := [(.tmp 22, dv (.int .i64 i)), (.tmp 23, dv (.int .i64 n))]) [] rfl 0 1 rfl rfl rfl rfl rfl rfl rfl rfl rfl ⟨.inl ⟨rfl, rfl⟩, ⟨.inl ⟨rfl, rfl⟩, trivial⟩⟩ rfl (fun b hb => by cases hb) (.inl rfl) (lt_of rfl) trivial))
        (oC (oS rfl rfl (r_assign (av := ownV 0 kBool 0 (sidesN i.toNat n.toNat).length) (lt_of rfl) trivial)) (oZ rfl)))))
        (by kernel_rfl) (by kernel_rfl) ?_
      refine nT ?_
      refine T.seq ?_
      refine T.seq ?_
      refine tR (s1 := ⟨[dv (strV root), slV tleaf nleaf kU8 leaf, dv (.int .i64 i), dv (.int .i64 n), slV tp np (k_api_Step false) p, aa, aa, aa, aa, aa, dv (.int .i64 0), ownV 0 kBool 0 (sidesN i.toNat n.toNat).length, aa, aa, aa, aa, aa, aa, aa, aa, aa, dv (.bool (decide (i ≥ n))), aa, aa, aa, aa, aa, aa, aa, dv (.bool (decide ((((sidesN i.toNat n.toNat).length : Nat) : Int) ≠ ((p.length : Nat) : Int))))], [.live (arrK 4 kBool (sidesN i.toNat n.toNat))]⟩) (bm 30 538971167) [true]
        (oC (oS rfl rfl (r_move (av := ownV 0 kBool 0 (sidesN i.toNat n.toNat).length) (lt_of rfl) trivial))
        (oC (oS rfl rfl (r_lenO (l := 0) (sz := kBool.sz) (off := 0) (n := (sidesN i.toNat n.toNat).length) Try.underlying84 (lt_of rfl) trivial))
        (oC (oS rfl rfl (r_move (av := slV tp np (k_api_Step false) p) (lt_of rfl) trivial))
        (oC (oS rfl rfl (q_len tp np (k_api_Step false) p Try.underlying42 (lt_of rfl) trivial))
        (oC (oS rfl rfl (r_bin (u1 := .int .i64 (((sidesN i.toNat n.toNat).length : Nat) : Int)) (u2 := .int .i64 ((p.length : Nat) : Int)) (v := .bool (decide ((((sidesN i.toNat n.toNat).length : Nat) : Int) ≠ ((p.length : Nat) : Int)))) b_neq (lt_of rfl) trivial)) (oZ rfl))))))
        (by kernel_rfl) (by kernel_rfl) ?_
      refine nT ?_
      by_cases hq3 : (((sidesN i.toNat n.toNat).length : Nat) : Int) ≠ ((p.length : Nat) : Int)
      · refine T.condT (b := (decide ((((sidesN i.toNat n.toNat).length : Nat) : Int) ≠ ((p.length : Nat) : Int)))) rfl (decide_eq_true hq3) ?_
        refine T.seq ?_
        refine tR (s1 := ⟨[dv (strV root), slV tleaf nleaf kU8 leaf, dv (.int .i64 i), dv (.int .i64 n), slV tp np (k_api_Step false) p, aa, aa, aa, aa, aa, dv (.int .i64 90), ownV 0 kBool 0 (sidesN i.toNat n.toNat).length, aa, aa, aa, aa, aa, aa, aa, aa, aa, dv (.bool (decide (i ≥ n))), aa, aa, aa, aa, aa, aa, aa, dv (.bool (decide ((((sidesN i.toNat n.toNat).length : Nat) : Int) ≠ ((p.length : Nat) : Int))))], [.live (arrK 4 kBool (sidesN i.toNat n.toNat))]⟩) (bm 30 538971167) [true]
          (oC (oS rfl rfl (r_assign (av := dv (.int .i64 90)) (lt_of rfl) ⟨rfl, trivial⟩)) (oZ rfl))
          (by kernel_rfl) (by kernel_rfl) ?_
        refine nT ?_
        refine T.ret ?_
        refine rT ?_
        exact tE (.inl rfl) [.t 10 (.one (.d (.val (.int .i64 90))))] ⟨⟨rfl, rfl⟩, trivial⟩ [] (by have e1 : ((checkM root leaf i n p) : Int) = 90 := (by first | rfl | exact chk_range (by omega) | exact chk_len (by omega) (by omega) | exact chk_at (p := p) (k := k) (by omega) (by omega) (by assumption) | exact (chk_range (by omega)).symm | exact (chk_len (by omega) (by omega)).symm | exact (chk_at (p := p) (k := k) (by omega) (by omega) (by assumption)).symm | (rw [chk_end (root := root) (leaf := leaf) (k := k) (by omega) hsl (by omega) hb]; simp [*]; done)); have hE := congrArg (fun (q1 : Int) => (dv (.int .i64 q1) : AV)) e1; exact hE) rfl rfl rfl rfl rfl trivial
      · refine T.condF (b := (decide ((((sidesN i.toNat n.toNat).length : Nat) : Int) ≠ ((p.length : Nat) : Int)))) rfl (decide_eq_false hq3) ?_
        refine T.skip ?_
        refine nT ?_
        refine T.seq ?_
        refine tR (s1 := ⟨[dv (strV root), slV tleaf nleaf kU8 leaf, dv (.int .i64 i), dv (.int .i64 n), slV tp np (k_api_Step false) p, aa, aa, aa, aa, aa, dv (.int .i64 0), ownV 0 kBool 0 (sidesN i.toNat n.toNat).length, dv (strV (ofB (2 : UInt8) [leaf])), aa, aa, aa, aa, aa, aa, aa, aa, dv (.bool (decide (i ≥ n))), aa, aa, aa, aa, aa, aa, aa, dv (.bool (decide ((((sidesN i.toNat n.toNat).length : Nat) : Int) ≠ ((p.length : Nat) : Int))))], [.live (arrK 4 kBool (sidesN i.toNat n.toNat))]⟩) (bm 30 538975263) [true]
          (oC (oS rfl rfl (r_move (av := slV tleaf nleaf kU8 leaf) (lt_of rfl) trivial))
          (oC (oS rfl rfl (r_call (term_Leaf (2 : UInt8) tleaf nleaf leaf (by first | assumption | omega | (unfold maxLen; omega) | (simp [maxLen] <;> omega) | decide)) Try.func53 rfl (by decide) [] [] (l := [(.const (.int .u8 2), dv (.int .u8 2)), (.tmp 30, slV tleaf nleaf kU8 leaf)]) [] rfl 0 0 rfl rfl rfl rfl rfl rfl rfl rfl rfl ⟨.inl ⟨rfl, rfl⟩, ⟨.inl ⟨rfl, rfl⟩, trivial⟩⟩ rfl (fun b hb => by cases hb) (.inl rfl) (lt_of rfl) ⟨rfl, trivial⟩))
          (oC (oS rfl rfl (r_assign (av := dv (strV (ofB (2 : UInt8) [leaf]))) (lt_of rfl) trivial)) (oZ rfl))))
          (by kernel_rfl) (by kernel_rfl) ?_
        refine nT ?_
        refine T.seq ?_
        refine T.seq ?_
        refine tR (s1 := ⟨[dv (strV root), slV tleaf nleaf kU8 leaf, dv (.int .i64 i), dv (.int .i64 n), slV tp np (k_api_Step false) p, aa, aa, aa, aa, aa, dv (.int .i64 0), ownV 0 kBool 0 (sidesN i.toNat n.toNat).length, dv (strV (ofB (2 : UInt8) [leaf])), aa, aa, aa, aa, aa, aa, aa, aa, dv (.bool (decide (i ≥ n))), aa, aa, aa, aa, aa, aa, aa, dv (.bool (decide ((((sidesN i.toNat n.toNat).length : Nat) : Int) ≠ ((p.length : Nat) : Int)))), aa, aa, slV tp np (k_api_Step false) p, dv (.int .i64 ((p.length : Nat) : Int)), dv (.int .i64 0)], [.live (arrK 4 kBool (sidesN i.toNat n.toNat))]⟩) (bm 35 30603746335) [true]
          (oC (oS rfl rfl (r_move (av := slV tp np (k_api_Step false) p) (lt_of rfl) trivial))
          (oC (oS rfl rfl (q_len tp np (k_api_Step false) p Try.underlying42 (lt_of rfl) trivial))
          (oC (oS rfl rfl (r_move (av := dv (.int .i64 0)) (lt_of rfl) ⟨rfl, trivial⟩)) (oZ rfl))))
          (by kernel_rfl) (by kernel_rfl) ?_
        refine nT ?_
        refine T.block ?_
        refine T.loop (ι := Nat) (fun (k : Nat) => ⟨[dv (strV root), slV tleaf nleaf kU8 leaf, dv (.int .i64 i), dv (.int .i64 n), slV tp np (k_api_Step false) p, aa, aa, aa, aa, aa, aa, ownV 0 kBool 0 (sidesN i.toNat n.toNat).length, dv (strV (climb (ofB 2 [leaf]) (p.take k))), aa, aa, aa, aa, aa, aa, aa, aa, aa, aa, aa, aa, aa, aa, aa, aa, aa, aa, aa, slV tp np (k_api_Step false) p, dv (.int .i64 ((p.length : Nat) : Int)), dv (.int .i64 ((k : Nat) : Int))], [.live (arrK 4 kBool (sidesN i.toNat n.toNat))]⟩) (fun (k : Nat) => (k ≤ p.length) ∧ ((sidesN i.toNat n.toNat).length = p.length) ∧ (∀ t, t < k → (p.getD t z_api_Step).f_Left = (sidesN i.toNat n.toNat).getD t false)) (fun (k : Nat) => p.length - k) (0) ⟨(Nat.zero_le _), (by omega), (fun j hj => absurd hj (Nat.not_lt_zero _))⟩ (fun _ _ hG => Gs.into2 (s := ⟨[dv (strV root), slV tleaf nleaf kU8 leaf, dv (.int .i64 i), dv (.int .i64 n), slV tp np (k_api_Step false) p, aa, aa, aa, aa, aa, dv (.int .i64 0), ownV 0 kBool 0 (sidesN i.toNat n.toNat).length, dv (strV (ofB (2 : UInt8) [leaf])), aa, aa, aa, aa, aa, aa, aa, aa, dv (.bool (decide (i ≥ n))), aa, aa, aa, aa, aa, aa, aa, dv (.bool (decide ((((sidesN i.toNat n.toNat).length : Nat) : Int) ≠ ((p.length : Nat) : Int)))), aa, aa, slV tp np (k_api_Step false) p, dv (.int .i64 ((p.length : Nat) : Int)), dv (.int .i64 0)], [.live (arrK 4 kBool (sidesN i.toNat n.toNat))]⟩) (s' := ⟨[dv (strV root), slV tleaf nleaf kU8 leaf, dv (.int .i64 i), dv (.int .i64 n), slV tp np (k_api_Step false) p, aa, aa, aa, aa, aa, aa, ownV 0 kBool 0 (sidesN i.toNat n.toNat).length, dv (strV (climb (ofB 2 [leaf]) (p.take 0))), aa, aa, aa, aa, aa, aa, aa, aa, aa, aa, aa, aa, aa, aa, aa, aa, aa, aa, aa, slV tp np (k_api_Step false) p, dv (.int .i64 ((p.length : Nat) : Int)), dv (.int .i64 0)], [.live (arrK 4 kBool (sidesN i.toNat n.toNat))]⟩) [0] (bm 35 30064777247) (t1 := [dv (strV root), slV tleaf nleaf kU8 leaf, dv (.int .i64 i), dv (.int .i64 n), slV tp np (k_api_Step false) p, aa, aa, aa, aa, aa, aa, ownV 0 kBool 0 (sidesN i.toNat n.toNat).length, dv (strV (climb (ofB 2 [leaf]) (p.take 0))), aa, aa, aa, aa, aa, aa, aa, aa, aa, aa, aa, aa, aa, aa, aa, aa, aa, aa, aa, slV tp np (k_api_Step false) p, dv (.int .i64 ((p.length : Nat) : Int)), dv (.int .i64 0)]) (t2 := [dv (strV root), slV tleaf nleaf kU8 leaf, dv (.int .i64 i), dv (.int .i64 n), slV tp np (k_api_Step false) p, aa, aa, aa, aa, aa, aa, ownV 0 kBool 0 (sidesN i.toNat n.toNat).length, dv (strV (ofB (2 : UInt8) [leaf])), aa, aa, aa, aa, aa, aa, aa, aa, aa, aa, aa, aa, aa, aa, aa, aa, aa, aa, aa, slV tp np (k_api_Step false) p, dv (.int .i64 ((p.length : Nat) : Int)), dv (.int .i64 0)]) (h1 := [.live (arrK 4 kBool (sidesN i.toNat n.toNat))]) (h2 := [.live (arrK 4 kBool (sidesN i.toNat n.toNat))]) (by have e1 : ((climb (ofB 2 [leaf]) (p.take 0)) : List UInt8) = (ofB (2 : UInt8) [leaf]) := (by rfl); have hE := congrArg (fun (q1 : List UInt8) => ([dv (strV root), slV tleaf nleaf kU8 leaf, dv (.int .i64 i), dv (.int .i64 n), slV tp np (k_api_Step false) p, aa, aa, aa, aa, aa, aa, ownV 0 kBool 0 (sidesN i.toNat n.toNat).length, dv (strV q1), aa, aa, aa, aa, aa, aa, aa, aa, aa, aa, aa, aa, aa, aa, aa, aa, aa, aa, aa, slV tp np (k_api_Step false) p, dv (.int .i64 ((p.length : Nat) : Int)), dv (.int .i64 0)] : List AV)) e1; exact hE) rfl (by kernel_rfl) (by kernel_rfl) (by kernel_rfl) (by kernel_rfl) (by kernel_rfl) (by kernel_rfl) (by kernel_rfl) (by kernel_rfl) (by kernel_rfl) (by kernel_rfl) (by kernel_rfl) hG) ?_
        rintro k ⟨hk, hsl, hb⟩
        show T _ _ ⟨[dv (strV root), slV tleaf nleaf kU8 leaf, dv (.int .i64 i), dv (.int .i64 n), slV tp np (k_api_Step false) p, aa, aa, aa, aa, aa, aa, ownV 0 kBool 0 (sidesN i.toNat n.toNat).length, dv (strV (climb (ofB 2 [leaf]) (p.take k))), aa, aa, aa, aa, aa, aa, aa, aa, aa, aa, aa, aa, aa, aa, aa, aa, aa, aa, aa, slV tp np (k_api_Step false) p, dv (.int .i64 ((p.length : Nat) : Int)), dv (.int .i64 ((k : Nat) : Int))], [.live (arrK 4 kBool (sidesN i.toNat n.toNat))]⟩ _ _
        replace hk : k ≤ p.length := hk
        replace hsl : (sidesN i.toNat n.toNat).length = p.length := hsl
        replace hb : ∀ t, t < k → (p.getD t z_api_Step).f_Left = (sidesN i.toNat n.toNat).getD t false := hb
        have hk70 : (p.take k).length ≤ 70 := by rw [List.length_take]; have := hp.1; omega
        have hcl := climb_len (p := p.take k) (m := 30000) (fun s hs => hp.2 s (List.mem_of_mem_take hs)) (ofB 2 [leaf])
        have hlf := leaf_len 2 leaf
        have hgd : ((p.getD k z_api_Step).f_Digest).length ≤ 30000 := fewG_get (sz := szS) hp (by decide) k
        refine T.seq ?_
        refine tR (s1 := ⟨[dv (strV root), slV tleaf nleaf kU8 leaf, dv (.int .i64 i), dv (.int .i64 n), slV tp np (k_api_Step false) p, aa, aa, aa, aa, aa, aa, ownV 0 kBool 0 (sidesN i.toNat n.toNat).length, dv (strV (climb (ofB 2 [leaf]) (p.take k))), aa, aa, aa, aa, aa, aa, aa, aa, aa, aa, aa, aa, aa, aa, aa, aa, aa, aa, aa, slV tp np (k_api_Step false) p, dv (.int .i64 ((p.length : Nat) : Int)), dv (.int .i64 ((k : Nat) : Int)), dv (.bool (decide (((k : Nat) : Int) < ((p.length : Nat) : Int))))], [.live (arrK 4 kBool (sidesN i.toNat n.toNat))]⟩) (bm 36 64424515615) [true]
          (oC (oS rfl rfl (r_bin (u1 := .int .i64 ((k : Nat) : Int)) (u2 := .int .i64 ((p.length : Nat) : Int)) (v := .bool (decide (((k : Nat) : Int) < ((p.length : Nat) : Int)))) b_lss (lt_of rfl) trivial)) (oZ rfl))
          (by kernel_rfl) (by kernel_rfl) ?_
        refine nT ?_
        refine T.seq ?_
        by_cases hq4 : ((k : Nat) : Int) < ((p.length : Nat) : Int)
        · refine T.condT (b := (decide (((k : Nat) : Int) < ((p.length : Nat) : Int)))) rfl (decide_eq_true hq4) ?_
          refine T.skip ?_
          refine nT ?_
          refine T.seq ?_
          refine T.block ?_
          refine T.seq ?_
          refine tR (s1 := ⟨[dv (strV root), slV tleaf nleaf kU8 leaf, dv (.int .i64 i), dv (.int .i64 n), slV tp np (k_api_Step false) p, aa, aa, aa, aa, aa, aa, ownV 0 kBool 0 (sidesN i.toNat n.toNat).length, dv (strV (climb (ofB 2 [leaf]) (p.take k))), dv (.int .i64 ((k : Nat) : Int)), pv 1 0, aa, aa, aa, aa, aa, aa, aa, aa, aa, aa, aa, aa, aa, aa, aa, aa, aa, slV tp np (k_api_Step false) p, dv (.int .i64 ((p.length : Nat) : Int)), dv (.int .i64 ((k : Nat) : Int)), dv (.bool (decide (((k : Nat) : Int) < ((p.length : Nat) : Int))))], [.live (arrK 4 kBool (sidesN i.toNat n.toNat)), .live (.box 67 [.d (.val (.bool (p.getD k z_api_Step).f_Left)), .d (.val (strV (p.getD k z_api_Step).f_Digest))])]⟩) (bm 36 64424540191) [true, true]
            (oC (oS rfl rfl (r_move (av := dv (.int .i64 ((k : Nat) : Int))) (lt_of rfl) trivial))
            (oC (oS rfl rfl (q_index tp np (k_api_Step false) p k (k := .i64) (i := ((k : Nat) : Int)) Try.underlying42 iat_67 rfl rfl (by first | assumption | omega | (unfold maxLen; omega) | (simp [maxLen] <;> omega) | decide) (lt_of rfl) trivial))
            (oC (oS rfl rfl (r_loadEs (tag := tp) (n := 2) (m := 2) (el := (k_api_Step false).cell (p.getD k (k_api_Step false).z)) (ds := [.d (.val (.bool (p.getD k z_api_Step).f_Left)), .d (.val (strV (p.getD k z_api_Step).f_Digest))]) wide_67 (by decide) rfl (lt_of rfl) trivial))
            (oC (oS rfl rfl (r_alloc (l := 1) zero_67 (lt_of rfl)))
            (oC (oS rfl rfl (r_assign (av := dv (.int .i64 ((k : Nat) : Int))) (lt_of rfl) trivial))
            (oC (oS rfl rfl (r_store (l := 1) (off := 0) (n := 2) (T := 67) (cs := [.d (.val (.bool false)), .d (.val (strV []))]) (cs' := [.d (.val (.bool (p.getD k z_api_Step).f_Left)), .d (.val (strV (p.getD k z_api_Step).f_Digest))]) (tv := .agg [.d (.val (.bool (p.getD k z_api_Step).f_Left)), .d (.val (strV (p.getD k z_api_Step).f_Digest))]) cells_67 rfl (Nat.le_of_ble_eq_true rfl) rfl rfl trivial)) (oZ rfl)))))))
            (by kernel_rfl) (by kernel_rfl) ?_
          refine nT ?_
          refine T.block ?_
          refine T.seq ?_
          refine tD (s1 := ⟨[dv (strV root), slV tleaf nleaf kU8 leaf, dv (.int .i64 i), dv (.int .i64 n), slV tp np (k_api_Step false) p, aa, aa, aa, aa, aa, aa, ownV 0 kBool 0 (sidesN i.toNat n.toNat).length, dv (strV (climb (ofB 2 [leaf]) (p.take k))), dv (.int .i64 ((k : Nat) : Int)), pv 1 0, aa, aa, aa, aa, aa, aa, aa, aa, aa, aa, aa, aa, aa, aa, aa, aa, aa, slV tp np (k_api_Step false) p, dv (.int .i64 ((p.length : Nat) : Int)), dv (.int .i64 ((k : Nat) : Int)), dv (.bool (decide (((k : Nat) : Int) < ((p.length : Nat) : Int)))), aa, aa, aa, aa, aa, aa, aa, dv (.bool (decide ((p.getD k z_api_Step).f_Left ≠ ((sidesN i.toNat n.toNat).getD k false))))], [.live (arrK 4 kBool (sidesN i.toNat n.toNat)), .live (.box 67 [.d (.val (.bool (p.getD k z_api_Step).f_Left)), .d (.val (strV (p.getD k z_api_Step).f_Digest))])]⟩) (by kernel_rfl) [[], [0], [], [], [2, 3], [2, 3, 4], [0, 1, 2, 3, 4, 5], [0, 1, 2, 3, 4, 5, 6]] (bm 44 8860517562399) [true, true]
            (oC (oS rfl rfl (r_fieldAddr (l := 1) (off := 0) fld_67_0 (lt_of rfl) trivial))
            (oC (oS rfl rfl (r_loadB (l := 1) (off := 0) (T := 67) (cs := [.d (.val (.bool (p.getD k z_api_Step).f_Left)), .d (.val (strV (p.getD k z_api_Step).f_Digest))]) (c := .d (.val (.bool (p.getD k z_api_Step).f_Left))) wide_4 rfl (lt_of rfl) trivial))
            (oC (oS rfl rfl (r_move (av := ownV 0 kBool 0 (sidesN i.toNat n.toNat).length) (lt_of rfl) trivial))
            (oC (oS rfl rfl (r_move (av := dv (.int .i64 ((k : Nat) : Int))) (lt_of rfl) trivial))
            (oC (oS rfl rfl (r_indexO (k := .i64) (l := 0) (sz := kBool.sz) (off := 0) (n := (sidesN i.toNat n.toNat).length) (i := ((k : Nat) : Int)) (m := k) (o' := k * kBool.sz + 0) Try.underlying84 iat_4 rfl rfl (by first | assumption | omega | (unfold maxLen; omega) | (simp [maxLen] <;> omega) | decide) (by first | rfl | simp) (lt_of rfl) trivial))
            (oC (oS rfl rfl (r_loadA (l := 0) (off := k * kBool.sz + 0) (i := k) (j := 0) (T := 4) (sz := kBool.sz) (n := (sidesN i.toNat n.toNat).length) (el := elOf kBool (sidesN i.toNat n.toNat)) (c := .val (.bool ((sidesN i.toNat n.toNat).getD k false))) wide_4 rfl (by first | assumption | omega | (unfold maxLen; omega) | (simp [maxLen] <;> omega) | decide) (by decide) rfl (lt_of rfl) trivial))
            (oC (oS rfl rfl (r_bin (u1 := .bool (p.getD k z_api_Step).f_Left) (u2 := .bool ((sidesN i.toNat n.toNat).getD k false)) (v := .bool (decide ((p.getD k z_api_Step).f_Left ≠ ((sidesN i.toNat n.toNat).getD k false)))) (b_neqB Try.underlying4) (lt_of rfl) trivial))
            (oC (oS rfl rfl (r_assign (av := dv (.bool (decide ((p.getD k z_api_Step).f_Left ≠ ((sidesN i.toNat n.toNat).getD k false))))) (lt_of rfl) trivial)) (oZ rfl)))))))))
            (by kernel_rfl) (by kernel_rfl) (by kernel_rfl) (by kernel_rfl) (by kernel_rfl) ?_
          refine nT ?_
          by_cases hq5 : (p.getD k z_api_Step).f_Left ≠ ((sidesN i.toNat n.toNat).getD k false)
          · refine T.condT (b := (decide ((p.getD k z_api_Step).f_Left ≠ ((sidesN i.toNat n.toNat).getD k false)))) rfl (decide_eq_true hq5) ?_
            refine T.seq ?_
            refine tR (s1 := ⟨[dv (strV root), slV tleaf nleaf kU8 leaf, dv (.int .i64 i), dv (.int .i64 n), slV tp np (k_api_Step false) p, aa, aa, aa, aa, aa, dv (.int .i64 90), ownV 0 kBool 0 (sidesN i.toNat n.toNat).length, dv (strV (climb (ofB 2 [leaf]) (p.take k))), dv (.int .i64 ((k : Nat) : Int)), pv 1 0, aa, aa, aa, aa, aa, aa, aa, aa, aa, aa, aa, aa, aa, aa, aa, aa, aa, slV tp np (k_api_Step false) p, dv (.int .i64 ((p.length : Nat) : Int)), dv (.int .i64 ((k : Nat) : Int)), dv (.bool (decide (((k : Nat) : Int) < ((p.length : Nat) : Int)))), aa, aa, aa, aa, aa, aa, aa, dv (.bool (decide ((p.getD k z_api_Step).f_Left ≠ ((sidesN i.toNat n.toNat).getD k false))))], [.live (arrK 4 kBool (sidesN i.toNat n.toNat)), .live (.box 67 [.d (.val (.bool (p.getD k z_api_Step).f_Left)), .d (.val (strV (p.getD k z_api_Step).f_Digest))])]⟩) (bm 44 8860517563423) [true, true]
              (oC (oS rfl rfl (r_assign (av := dv (.int .i64 90)) (lt_of rfl) ⟨rfl, trivial⟩)) (oZ rfl))
              (by kernel_rfl) (by kernel_rfl) ?_
            refine nT ?_
            refine T.ret ?_
            refine rB ?_
            refine rB ?_
            refine rT ?_
            refine rT ?_
            refine rB ?_
            refine rT ?_
            exact tE (.inl rfl) [.t 10 (.one (.d (.val (.int .i64 90))))] ⟨⟨rfl, rfl⟩, trivial⟩ [] (by have e1 : ((checkM root leaf i n p) : Int) = 90 := (by first | rfl | exact chk_range (by omega) | exact chk_len (by omega) (by omega) | exact chk_at (p := p) (k := k) (by omega) (by omega) (by assumption) | exact (chk_range (by omega)).symm | exact (chk_len (by omega) (by omega)).symm | exact (chk_at (p := p) (k := k) (by omega) (by omega) (by assumption)).symm | (rw [chk_end (root := root) (leaf := leaf) (k := k) (by omega) hsl (by omega) hb]; simp [*]; done)); have hE := congrArg (fun (q1 : Int) => (dv (.int .i64 q1) : AV)) e1; exact hE) rfl rfl rfl rfl rfl trivial
          · refine T.condF (b := (decide ((p.getD k z_api_Step).f_Left ≠ ((sidesN i.toNat n.toNat).getD k false)))) rfl (decide_eq_false hq5) ?_
            refine T.seq ?_
            refine tR (s1 := ⟨[dv (strV root), slV tleaf nleaf kU8 leaf, dv (.int .i64 i), dv (.int .i64 n), slV tp np (k_api_Step false) p, aa, aa, aa, aa, aa, aa, ownV 0 kBool 0 (sidesN i.toNat n.toNat).length, dv (strV (climb (ofB 2 [leaf]) (p.take k))), dv (.int .i64 ((k : Nat) : Int)), pv 1 0, aa, aa, aa, aa, aa, aa, aa, aa, aa, aa, aa, aa, aa, aa, aa, aa, aa, slV tp np (k_api_Step false) p, dv (.int .i64 ((p.length : Nat) : Int)), dv (.int .i64 ((k : Nat) : Int)), dv (.bool (decide (((k : Nat) : Int) < ((p.length : Nat) : Int)))), aa, aa, aa, aa, aa, aa, aa, dv (.bool (decide ((p.getD k z_api_Step).f_Left ≠ ((sidesN i.toNat n.toNat).getD k false)))), aa, aa, aa, aa, aa, aa, aa, dv (.bool (p.getD k z_api_Step).f_Left)], [.live (arrK 4 kBool (sidesN i.toNat n.toNat)), .live (.box 67 [.d (.val (.bool (p.getD k z_api_Step).f_Left)), .d (.val (strV (p.getD k z_api_Step).f_Digest))])]⟩) (bm 52 2260660331247647) [true, true]
              (oC (oS rfl rfl (r_fieldAddr (l := 1) (off := 0) fld_67_0 (lt_of rfl) trivial))
              (oC (oS rfl rfl (r_loadB (l := 1) (off := 0) (T := 67) (cs := [.d (.val (.bool (p.getD k z_api_Step).f_Left)), .d (.val (strV (p.getD k z_api_Step).f_Digest))]) (c := .d (.val (.bool (p.getD k z_api_Step).f_Left))) wide_4 rfl (lt_of rfl) trivial))
              (oC (oS rfl rfl (r_assign (av := dv (.bool (p.getD k z_api_Step).f_Left)) (lt_of rfl) trivial)) (oZ rfl))))
              (by kernel_rfl) (by kernel_rfl) ?_
            refine nT ?_
            by_cases hq6 : (p.getD k z_api_Step).f_Left = true
            · refine T.condT (b := (p.getD k z_api_Step).f_Left) rfl hq6 ?_
              refine tR (s1 := ⟨[dv (strV root), slV tleaf nleaf kU8 leaf, dv (.int .i64 i), dv (.int .i64 n), slV tp np (k_api_Step false) p, aa, aa, aa, aa, aa, aa, ownV 0 kBool 0 (sidesN i.toNat n.toNat).length, dv (strV (ofB (3 : UInt8) [(p.getD k z_api_Step).f_Digest, (climb (ofB 2 [leaf]) (p.take k))])), dv (.int .i64 ((k : Nat) : Int)), pv 1 0, aa, aa, aa, aa, aa, aa, aa, aa, aa, aa, aa, aa, aa, aa, aa, aa, aa, slV tp np (k_api_Step false) p, dv (.int .i64 ((p.length : Nat) : Int)), dv (.int .i64 ((k : Nat) : Int)), dv (.bool (decide (((k : Nat) : Int) < ((p.length : Nat) : Int)))), aa, aa, aa, aa, aa, aa, aa, dv (.bool (decide ((p.getD k z_api_Step).f_Left ≠ ((sidesN i.toNat n.toNat).getD k false)))), aa, aa, aa, aa, aa, aa, aa, dv (.bool (p.getD k z_api_Step).f_Left)], [.live (arrK 4 kBool (sidesN i.toNat n.toNat)), .live (.box 67 [.d (.val (.bool (p.getD k z_api_Step).f_Left)), .d (.val (strV (p.getD k z_api_Step).f_Digest))])]⟩) (bm 52 2260660331247647) [true, true]
                (oC (oS rfl rfl (r_fieldAddr (l := 1) (off := 0) fld_67_1 (lt_of rfl) trivial))
                (oC (oS rfl rfl (r_loadB (l := 1) (off := 1) (T := 67) (cs := [.d (.val (.bool (p.getD k z_api_Step).f_Left)), .d (.val (strV (p.getD k z_api_Step).f_Digest))]) (c := .d (.val (strV (p.getD k z_api_Step).f_Digest))) wide_22 rfl (lt_of rfl) trivial))
                (oC (oS rfl rfl (r_move (av := dv (strV (climb (ofB 2 [leaf]) (p.take k)))) (lt_of rfl) trivial))
                (oC (oS rfl rfl (r_call (term_Pair (3 : UInt8) (p.getD k z_api_Step).f_Digest (climb (ofB 2 [leaf]) (p.take k)) (by first | assumption | omega | (unfold maxLen; omega) | (simp [maxLen] <;> omega) | decide)) Try.func55 rfl (by decide) [] [] (l := [(.const (.int .u8 3), dv (.int .u8 3)), (.tmp 55, dv (strV (p.getD k z_api_Step).f_Digest)), (.tmp 56, dv (strV (climb (ofB 2 [leaf]) (p.take k))))]) [] rfl 0 0 rfl rfl rfl rfl rfl rfl rfl rfl rfl ⟨.inl ⟨rfl, rfl⟩, ⟨.inl ⟨rfl, rfl⟩, ⟨.inl ⟨rfl, rfl⟩, trivial⟩⟩⟩ rfl (fun b hb => by cases hb) (.inl rfl) (lt_of rfl) ⟨rfl, trivial⟩))
                (oC (oS rfl rfl (r_assign (av := dv (strV (ofB (3 : UInt8) [(p.getD k z_api_Step).f_Digest, (climb (ofB 2 [leaf]) (p.take k))]))) (lt_of rfl) trivial)) (oZ rfl))))))
                (by kernel_rfl) (by kernel_rfl) ?_
              refine nB ?_
              refine nB ?_
              refine nT ?_
              refine tR (s1 := ⟨[dv (strV root), slV tleaf nleaf kU8 leaf, dv (.int .i64 i), dv (.int .i64 n), slV tp np (k_api_Step false) p, aa, aa, aa, aa, aa, aa, ownV 0 kBool 0 (sidesN i.toNat n.toNat).length, dv (strV (ofB (3 : UInt8) [(p.getD k z_api_Step).f_Digest, (climb (ofB 2 [leaf]) (p.take k))])), dv (.int .i64 ((k : Nat) : Int)), pv 1 0, aa, aa, aa, aa, aa, aa, aa, aa, aa, aa, aa, aa, aa, aa, aa, aa, aa, slV tp np (k_api_Step false) p, dv (.int .i64 ((p.length : Nat) : Int)), dv (.int .i64 ((k + 1 : Nat) : Int)), dv (.bool (decide (((k : Nat) : Int) < ((p.length : Nat) : Int)))), aa, aa, aa, aa, aa, aa, aa, dv (.bool (decide ((p.getD k z_api_Step).f_Left ≠ ((sidesN i.toNat n.toNat).getD k false)))), aa, aa, aa, aa, aa, aa, aa, dv (.bool (p.getD k z_api_Step).f_Left)], [.live (arrK 4 kBool (sidesN i.toNat n.toNat)), .live (.box 67 [.d (.val (.bool (p.getD k z_api_Step).f_Left)), .d (.val (strV (p.getD k z_api_Step).f_Digest))])]⟩) (bm 52 2260660331247647) [true, true]
                (oC (oS rfl rfl (r_bin (u1 := .int .i64 ((k : Nat) : Int)) (u2 := .int .i64 1) (v := .int .i64 ((k + 1 : Nat) : Int)) (b_add (by rw [IntKind.wrap_i64]; omega)) (lt_of rfl) ⟨rfl, trivial⟩))
                (oC (oS rfl rfl (r_move (av := dv (.int .i64 ((k + 1 : Nat) : Int))) (lt_of rfl) trivial)) (oZ rfl)))
                (by kernel_rfl) (by kernel_rfl) ?_
              refine nL (k + 1) ⟨(show (k + 1) ≤ p.length from (by omega)), (show (sidesN i.toNat n.toNat).length = p.length from hsl), (show ∀ t, t < (k + 1) → (p.getD t z_api_Step).f_Left = (sidesN i.toNat n.toNat).getD t false from (all_succ hb (by first | assumption | exact Classical.not_not.1 (by assumption) | simp [*])))⟩ (show (p.length - (k + 1) : Nat) < p.length - k from (by omega)) (fun _ _ hG => Gs.into2 (s := ⟨[dv (strV root), slV tleaf nleaf kU8 leaf, dv (.int .i64 i), dv (.int .i64 n), slV tp np (k_api_Step false) p, aa, aa, aa, aa, aa, aa, ownV 0 kBool 0 (sidesN i.toNat n.toNat).length, dv (strV (ofB (3 : UInt8) [(p.getD k z_api_Step).f_Digest, (climb (ofB 2 [leaf]) (p.take k))])), dv (.int .i64 ((k : Nat) : Int)), pv 1 0, aa, aa, aa, aa, aa, aa, aa, aa, aa, aa, aa, aa, aa, aa, aa, aa, aa, slV tp np (k_api_Step false) p, dv (.int .i64 ((p.length : Nat) : Int)), dv (.int .i64 ((k + 1 : Nat) : Int)), dv (.bool (decide (((k : Nat) : Int) < ((p.length : Nat) : Int)))), aa, aa, aa, aa, aa, aa, aa, dv (.bool (decide ((p.getD k z_api_Step).f_Left ≠ ((sidesN i.toNat n.toNat).getD k false)))), aa, aa, aa, aa, aa, aa, aa, dv (.bool (p.getD k z_api_Step).f_Left)], [.live (arrK 4 kBool (sidesN i.toNat n.toNat)), .live (.box 67 [.d (.val (.bool (p.getD k z_api_Step).f_Left)), .d (.val (strV (p.getD k z_api_Step).f_Digest))])]⟩) (s' := ⟨[dv (strV root), slV tleaf nleaf kU8 leaf, dv (.int .i64 i), dv (.int .i64 n), slV tp np (k_api_Step false) p, aa, aa, aa, aa, aa, aa, ownV 0 kBool 0 (sidesN i.toNat n.toNat).length, dv (strV (climb (ofB 2 [leaf]) (p.take (k + 1)))), aa, aa, aa, aa, aa, aa, aa, aa, aa, aa, aa, aa, aa, aa, aa, aa, aa, aa, aa, slV tp np (k_api_Step false) p, dv (.int .i64 ((p.length : Nat) : Int)), dv (.int .i64 ((k + 1 : Nat) : Int))], [.live (arrK 4 kBool (sidesN i.toNat n.toNat))]⟩) [0] (bm 35 30064777247) (t1 := [dv (strV root), slV tleaf nleaf kU8 leaf, dv (.int .i64 i), dv (.int .i64 n), slV tp np (k_api_Step false) p, aa, aa, aa, aa, aa, aa, ownV 0 kBool 0 (sidesN i.toNat n.toNat).length, dv (strV (climb (ofB 2 [leaf]) (p.take (k + 1)))), aa, aa, aa, aa, aa, aa, aa, aa, aa, aa, aa, aa, aa, aa, aa, aa, aa, aa, aa, slV tp np (k_api_Step false) p, dv (.int .i64 ((p.length : Nat) : Int)), dv (.int .i64 ((k + 1 : Nat) : Int))]) (t2 := [dv (strV root), slV tleaf nleaf kU8 leaf, dv (.int .i64 i), dv (.int .i64 n), slV tp np (k_api_Step false) p, aa, aa, aa, aa, aa, aa, ownV 0 kBool 0 (sidesN i.toNat n.toNat).length, dv (strV (ofB (3 : UInt8) [(p.getD k z_api_Step).f_Digest, (climb (ofB 2 [leaf]) (p.take k))])), aa, aa, aa, aa, aa, aa, aa, aa, aa, aa, aa, aa, aa, aa, aa, aa, aa, aa, aa, slV tp np (k_api_Step false) p, dv (.int .i64 ((p.length : Nat) : Int)), dv (.int .i64 ((k + 1 : Nat) : Int))]) (h1 := [.live (arrK 4 kBool (sidesN i.toNat n.toNat))]) (h2 := [.live (arrK 4 kBool (sidesN i.toNat n.toNat))]) (by have e1 : ((climb (ofB 2 [leaf]) (p.take (k + 1))) : List UInt8) = (ofB (3 : UInt8) [(p.getD k z_api_Step).f_Digest, (climb (ofB 2 [leaf]) (p.take k))]) := (by (have h8 : (p.getD k z_api_Step).f_Left = (sidesN i.toNat n.toNat).getD k false := Classical.not_not.1 (by assumption); rw [climb_take (p := p) (k := k) _ (by omega), climb1]; first | (have h7 : (p.getD k z_api_Step).f_Left = true := (by first | assumption | exact h8.trans (by assumption)); rw [if_pos h7]) | (have h7 : (p.getD k z_api_Step).f_Left = false := (by first | assumption | exact h8.trans (by assumption)); rw [if_neg (by rw [h7]; decide)]))); have hE := congrArg (fun (q1 : List UInt8) => ([dv (strV root), slV tleaf nleaf kU8 leaf, dv (.int .i64 i), dv (.int .i64 n), slV tp np (k_api_Step false) p, aa, aa, aa, aa, aa, aa, ownV 0 kBool 0 (sidesN i.toNat n.toNat).length, dv (strV q1), aa, aa, aa, aa, aa, aa, aa, aa, aa, aa, aa, aa, aa, aa, aa, aa, aa, aa, aa, slV tp np (k_api_Step false) p, dv (.int .i64 ((p.length : Nat) : Int)), dv (.int .i64 ((k + 1 : Nat) : Int))] : List AV)) e1; exact hE) rfl (by kernel_rfl) (by kernel_rfl) (by kernel_rfl) (by kernel_rfl) (by kernel_rfl) (by kernel_rfl) (by kernel_rfl) (by kernel_rfl) (by kernel_rfl) (by kernel_rfl) (by kernel_rfl) hG)
            · replace hq6 := Bool.eq_false_iff.2 hq6
              refine T.condF (b := (p.getD k z_api_Step).f_Left) rfl hq6 ?_
              refine tR (s1 := ⟨[dv (strV root), slV tleaf nleaf kU8 leaf, dv (.int .i64 i), dv (.int .i64 n), slV tp np (k_api_Step false) p, aa, aa, aa, aa, aa, aa, ownV 0 kBool 0 (sidesN i.toNat n.toNat).length, dv (strV (ofB (3 : UInt8) [(climb (ofB 2 [leaf]) (p.take k)), (p.getD k z_api_Step).f_Digest])), dv (.int .i64 ((k : Nat) : Int)), pv 1 0, aa, aa, aa, aa, aa, aa, aa, aa, aa, aa, aa, aa, aa, aa, aa, aa, aa, slV tp np (k_api_Step false) p, dv (.int .i64 ((p.length : Nat) : Int)), dv (.int .i64 ((k : Nat) : Int)), dv (.bool (decide (((k : Nat) : Int) < ((p.length : Nat) : Int)))), aa, aa, aa, aa, aa, aa, aa, dv (.bool (decide ((p.getD k z_api_Step).f_Left ≠ ((sidesN i.toNat n.toNat).getD k false)))), aa, aa, aa, aa, aa, aa, aa, dv (.bool (p.getD k z_api_Step).f_Left)], [.live (arrK 4 kBool (sidesN i.toNat n.toNat)), .live (.box 67 [.d (.val (.bool (p.getD k z_api_Step).f_Left)), .d (.val (strV (p.getD k z_api_Step).f_Digest))])]⟩) (bm 52 2260660331247647) [true, true]
                (oC (oS rfl rfl (r_move (av := dv (strV (climb (ofB 2 [leaf]) (p.take k)))) (lt_of rfl) trivial))
                (oC (oS rfl rfl (r_fieldAddr (l := 1) (off := 0) fld_67_1 (lt_of rfl) trivial))
                (oC (oS rfl rfl (r_loadB (l := 1) (off := 1) (T := 67) (cs := [.d (.val (.bool (p.getD k z_api_Step).f_Left)), .d (.val (strV (p.getD k z_api_Step).f_Digest))]) (c := .d (.val (strV (p.getD k z_api_Step).f_Digest))) wide_22 rfl (lt_of rfl) trivial))
                (oC (oS rfl rfl (r_call (term_Pair (3 : UInt8) (climb (ofB 2 [leaf]) (p.take k)) (p.getD k z_api_Step).f_Digest (by first | assumption | omega | (unfold maxLen; omega) | (simp [maxLen] <;> omega) | decide)) Try.func55 rfl (by decide) [] [] (l := [(.const (.int .u8 3), dv (.int .u8 3)), (.tmp 39, dv (strV (climb (ofB 2 [leaf]) (p.take k)))), (.tmp 41, dv (strV (p.getD k z_api_Step).f_Digest))]) [] rfl 0 0 rfl rfl rfl rfl rfl rfl rfl rfl rfl ⟨.inl ⟨rfl, rfl⟩, ⟨.inl ⟨rfl, rfl⟩, ⟨.inl ⟨rfl, rfl⟩, trivial⟩⟩⟩ rfl (fun b hb => by cases hb) (.inl rfl) (lt_of rfl) ⟨rfl, trivial⟩))
                (oC (oS rfl rfl (r_assign (av := dv (strV (ofB (3 : UInt8) [(climb (ofB 2 [leaf]) (p.take k)), (p.getD k z_api_Step).f_Digest]))) (lt_of rfl) trivial)) (oZ rfl))))))
                (by kernel_rfl) (by kernel_rfl) ?_
              refine nB ?_
              refine nB ?_
              refine nT ?_
              refine tR (s1 := ⟨[dv (strV root), slV tleaf nleaf kU8 leaf, dv (.int .i64 i), dv (.int .i64 n), slV tp np (k_api_Step false) p, aa, aa, aa, aa, aa, aa, ownV 0 kBool 0 (sidesN i.toNat n.toNat).length, dv (strV (ofB (3 : UInt8) [(climb (ofB 2 [leaf]) (p.take k)), (p.getD k z_api_Step).f_Digest])), dv (.int .i64 ((k : Nat) : Int)), pv 1 0, aa, aa, aa, aa, aa, aa, aa, aa, aa, aa, aa, aa, aa, aa, aa, aa, aa, slV tp np (k_api_Step false) p, dv (.int .i64 ((p.length : Nat) : Int)), dv (.int .i64 ((k + 1 : Nat) : Int)), dv (.bool (decide (((k : Nat) : Int) < ((p.length : Nat) : Int)))), aa, aa, aa, aa, aa, aa, aa, dv (.bool (decide ((p.getD k z_api_Step).f_Left ≠ ((sidesN i.toNat n.toNat).getD k false)))), aa, aa, aa, aa, aa, aa, aa, dv (.bool (p.getD k z_api_Step).f_Left)], [.live (arrK 4 kBool (sidesN i.toNat n.toNat)), .live (.box 67 [.d (.val (.bool (p.getD k z_api_Step).f_Left)), .d (.val (strV (p.getD k z_api_Step).f_Digest))])]⟩) (bm 52 2260660331247647) [true, true]
                (oC (oS rfl rfl (r_bin (u1 := .int .i64 ((k : Nat) : Int)) (u2 := .int .i64 1) (v := .int .i64 ((k + 1 : Nat) : Int)) (b_add (by rw [IntKind.wrap_i64]; omega)) (lt_of rfl) ⟨rfl, trivial⟩))
                (oC (oS rfl rfl (r_move (av := dv (.int .i64 ((k + 1 : Nat) : Int))) (lt_of rfl) trivial)) (oZ rfl)))
                (by kernel_rfl) (by kernel_rfl) ?_
              refine nL (k + 1) ⟨(show (k + 1) ≤ p.length from (by omega)), (show (sidesN i.toNat n.toNat).length = p.length from hsl), (show ∀ t, t < (k + 1) → (p.getD t z_api_Step).f_Left = (sidesN i.toNat n.toNat).getD t false from (all_succ hb (by first | assumption | exact Classical.not_not.1 (by assumption) | simp [*])))⟩ (show (p.length - (k + 1) : Nat) < p.length - k from (by omega)) (fun _ _ hG => Gs.into2 (s := ⟨[dv (strV root), slV tleaf nleaf kU8 leaf, dv (.int .i64 i), dv (.int .i64 n), slV tp np (k_api_Step false) p, aa, aa, aa, aa, aa, aa, ownV 0 kBool 0 (sidesN i.toNat n.toNat).length, dv (strV (ofB (3 : UInt8) [(climb (ofB 2 [leaf]) (p.take k)), (p.getD k z_api_Step).f_Digest])), dv (.int .i64 ((k : Nat) : Int)), pv 1 0, aa, aa, aa, aa, aa, aa, aa, aa, aa, aa, aa, aa, aa, aa, aa, aa, aa, slV tp np (k_api_Step false) p, dv (.int .i64 ((p.length : Nat) : Int)), dv (.int .i64 ((k + 1 : Nat) : Int)), dv (.bool (decide (((k : Nat) : Int) < ((p.length : Nat) : Int)))), aa, aa, aa, aa, aa, aa, aa, dv (.bool (decide ((p.getD k z_api_Step).f_Left ≠ ((sidesN i.toNat n.toNat).getD k false)))), aa, aa, aa, aa, aa, aa, aa, dv (.bool (p.getD k z_api_Step).f_Left)], [.live (arrK 4 kBool (sidesN i.toNat n.toNat)), .live (.box 67 [.d (.val (.bool (p.getD k z_api_Step).f_Left)), .d (.val (strV (p.getD k z_api_Step).f_Digest))])]⟩) (s' := ⟨[dv (strV root), slV tleaf nleaf kU8 leaf, dv (.int .i64 i), dv (.int .i64 n), slV tp np (k_api_Step false) p, aa, aa, aa, aa, aa, aa, ownV 0 kBool 0 (sidesN i.toNat n.toNat).length, dv (strV (climb (ofB 2 [leaf]) (p.take (k + 1)))), aa, aa, aa, aa, aa, aa, aa, aa, aa, aa, aa, aa, aa, aa, aa, aa, aa, aa, aa, slV tp np (k_api_Step false) p, dv (.int .i64 ((p.length : Nat) : Int)), dv (.int .i64 ((k + 1 : Nat) : Int))], [.live (arrK 4 kBool (sidesN i.toNat n.toNat))]⟩) [0] (bm 35 30064777247) (t1 := [dv (strV root), slV tleaf nleaf kU8 leaf, dv (.int .i64 i), dv (.int .i64 n), slV tp np (k_api_Step false) p, aa, aa, aa, aa, aa, aa, ownV 0 kBool 0 (sidesN i.toNat n.toNat).length, dv (strV (climb (ofB 2 [leaf]) (p.take (k + 1)))), aa, aa, aa, aa, aa, aa, aa, aa, aa, aa, aa, aa, aa, aa, aa, aa, aa, aa, aa, slV tp np (k_api_Step false) p, dv (.int .i64 ((p.length : Nat) : Int)), dv (.int .i64 ((k + 1 : Nat) : Int))]) (t2 := [dv (strV root), slV tleaf nleaf kU8 leaf, dv (.int .i64 i), dv (.int .i64 n), slV tp np (k_api_Step false) p, aa, aa, aa, aa, aa, aa, ownV 0 kBool 0 (sidesN i.toNat n.toNat).length, dv (strV (ofB (3 : UInt8) [(climb (ofB 2 [leaf]) (p.take k)), (p.getD k z_api_Step).f_Digest])), aa, aa, aa, aa, aa, aa, aa, aa, aa, aa, aa, aa, aa, aa, aa, aa, aa, aa, aa, slV tp np (k_api_Step false) p, dv (.int .i64 ((p.length : Nat) : Int)), dv (.int .i64 ((k + 1 : Nat) : Int))]) (h1 := [.live (arrK 4 kBool (sidesN i.toNat n.toNat))]) (h2 := [.live (arrK 4 kBool (sidesN i.toNat n.toNat))]) (by have e1 : ((climb (ofB 2 [leaf]) (p.take (k + 1))) : List UInt8) = (ofB (3 : UInt8) [(climb (ofB 2 [leaf]) (p.take k)), (p.getD k z_api_Step).f_Digest]) := (by (have h8 : (p.getD k z_api_Step).f_Left = (sidesN i.toNat n.toNat).getD k false := Classical.not_not.1 (by assumption); rw [climb_take (p := p) (k := k) _ (by omega), climb1]; first | (have h7 : (p.getD k z_api_Step).f_Left = true := (by first | assumption | exact h8.trans (by assumption)); rw [if_pos h7]) | (have h7 : (p.getD k z_api_Step).f_Left = false := (by first | assumption | exact h8.trans (by assumption)); rw [if_neg (by rw [h7]; decide)]))); have hE := congrArg (fun (q1 : List UInt8) => ([dv (strV root), slV tleaf nleaf kU8 leaf, dv (.int .i64 i), dv (.int .i64 n), slV tp np (k_api_Step false) p, aa, aa, aa, aa, aa, aa, ownV 0 kBool 0 (sidesN i.toNat n.toNat).length, dv (strV q1), aa, aa, aa, aa, aa, aa, aa, aa, aa, aa, aa, aa, aa, aa, aa, aa, aa, aa, aa, slV tp np (k_api_Step false) p, dv (.int .i64 ((p.length : Nat) : Int)), dv (.int .i64 ((k + 1 : Nat) : Int))] : List AV)) e1; exact hE) rfl (by kernel_rfl) (by kernel_rfl) (by kernel_rfl) (by kernel_rfl) (by kernel_rfl) (by kernel_rfl) (by kernel_rfl) (by kernel_rfl) (by kernel_rfl) (by kernel_rfl) (by kernel_rfl) hG)
        · refine T.condF (b := (decide (((k : Nat) : Int) < ((p.length : Nat) : Int)))) rfl (decide_eq_false hq4) ?_
          refine T.exit ?_
          refine xT ?_
          refine xT ?_
          refine xH ?_
          refine nT ?_
          refine T.seq ?_
          refine T.seq ?_
          refine tR (s1 := ⟨[dv (strV root), slV tleaf nleaf kU8 leaf, dv (.int .i64 i), dv (.int .i64 n), slV tp np (k_api_Step false) p, aa, aa, aa, aa, aa, aa, ownV 0 kBool 0 (sidesN i.toNat n.toNat).length, dv (strV (climb (ofB 2 [leaf]) (p.take k))), aa, aa, aa, aa, aa, aa, aa, aa, aa, aa, aa, aa, aa, aa, aa, aa, aa, aa, aa, slV tp np (k_api_Step false) p, dv (.int .i64 ((p.length : Nat) : Int)), dv (.int .i64 ((k : Nat) : Int)), dv (.bool (decide (((k : Nat) : Int) < ((p.length : Nat) : Int)))), aa, aa, aa, aa, aa, aa, aa, aa, aa, aa, aa, aa, aa, aa, aa, aa, aa, aa, aa, aa, aa, aa, aa, aa, aa, dv (.bool (decide ((climb (ofB 2 [leaf]) (p.take k)) ≠ root)))], [.live (arrK 4 kBool (sidesN i.toNat n.toNat))]⟩) (bm 62 2305843073638209567) [true]
            (oC (oS rfl rfl (r_move (av := dv (strV (climb (ofB 2 [leaf]) (p.take k)))) (lt_of rfl) trivial))
            (oC (oS rfl rfl (r_move (av := dv (strV root)) (lt_of rfl) trivial))
            (oC (oS rfl rfl (r_bin (u1 := strV (climb (ofB 2 [leaf]) (p.take k))) (u2 := strV root) (v := .bool (decide ((climb (ofB 2 [leaf]) (p.take k)) ≠ root))) b_neqS (lt_of rfl) trivial)) (oZ rfl))))
            (by kernel_rfl) (by kernel_rfl) ?_
          refine nT ?_
          by_cases hq7 : (climb (ofB 2 [leaf]) (p.take k)) ≠ root
          · refine T.condT (b := (decide ((climb (ofB 2 [leaf]) (p.take k)) ≠ root))) rfl (decide_eq_true hq7) ?_
            refine T.seq ?_
            refine tR (s1 := ⟨[dv (strV root), slV tleaf nleaf kU8 leaf, dv (.int .i64 i), dv (.int .i64 n), slV tp np (k_api_Step false) p, aa, aa, aa, aa, aa, dv (.int .i64 90), ownV 0 kBool 0 (sidesN i.toNat n.toNat).length, dv (strV (climb (ofB 2 [leaf]) (p.take k))), aa, aa, aa, aa, aa, aa, aa, aa, aa, aa, aa, aa, aa, aa, aa, aa, aa, aa, aa, slV tp np (k_api_Step false) p, dv (.int .i64 ((p.length : Nat) : Int)), dv (.int .i64 ((k : Nat) : Int)), dv (.bool (decide (((k : Nat) : Int) < ((p.length : Nat) : Int)))), aa, aa, aa, aa, aa, aa, aa, aa, aa, aa, aa, aa, aa, aa, aa, aa, aa, aa, aa, aa, aa, aa, aa, aa, aa, dv (.bool (decide ((climb (ofB 2 [leaf]) (p.take k)) ≠ root)))], [.live (arrK 4 kBool (sidesN i.toNat n.toNat))]⟩) (bm 62 2305843073638210591) [true]
              (oC (oS rfl rfl (r_assign (av := dv (.int .i64 90)) (lt_of rfl) ⟨rfl, trivial⟩)) (oZ rfl))
              (by kernel_rfl) (by kernel_rfl) ?_
            refine nT ?_
            refine T.ret ?_
            refine rT ?_
            exact tE (.inl rfl) [.t 10 (.one (.d (.val (.int .i64 90))))] ⟨⟨rfl, rfl⟩, trivial⟩ [] (by have e1 : ((checkM root leaf i n p) : Int) = 90 := (by first | rfl | exact chk_range (by omega) | exact chk_len (by omega) (by omega) | exact chk_at (p := p) (k := k) (by omega) (by omega) (by assumption) | exact (chk_range (by omega)).symm | exact (chk_len (by omega) (by omega)).symm | exact (chk_at (p := p) (k := k) (by omega) (by omega) (by assumption)).symm | (rw [chk_end (root := root) (leaf := leaf) (k := k) (by omega) hsl (by omega) hb]; simp [*]; done)); have hE := congrArg (fun (q1 : Int) => (dv (.int .i64 q1) : AV)) e1; exact hE) rfl rfl rfl rfl rfl trivial
          · refine T.condF (b := (decide ((climb (ofB 2 [leaf]) (p.take k)) ≠ root))) rfl (decide_eq_false hq7) ?_
            refine T.skip ?_
            refine nT ?_
            refine T.seq ?_
            refine tR (s1 := ⟨[dv (strV root), slV tleaf nleaf kU8 leaf, dv (.int .i64 i), dv (.int .i64 n), slV tp np (k_api_Step false) p, aa, aa, aa, aa, aa, dv (.int .i64 0), ownV 0 kBool 0 (sidesN i.toNat n.toNat).length, dv (strV (climb (ofB 2 [leaf]) (p.take k))), aa, aa, aa, aa, aa, aa, aa, aa, aa, aa, aa, aa, aa, aa, aa, aa, aa, aa, aa, slV tp np (k_api_Step false) p, dv (.int .i64 ((p.length : Nat) : Int)), dv (.int .i64 ((k : Nat) : Int)), dv (.bool (decide (((k : Nat) : Int) < ((p.length : Nat) : Int)))), aa, aa, aa, aa, aa, aa, aa, aa, aa, aa, aa, aa, aa, aa, aa, aa, aa, aa, aa, aa, aa, aa, aa, aa, aa, dv (.bool (decide ((climb (ofB 2 [leaf]) (p.take k)) ≠ root)))], [.live (arrK 4 kBool (sidesN i.toNat n.toNat))]⟩) (bm 62 2305843073638210591) [true]
              (oC (oS rfl rfl (r_assign (av := dv (.int .i64 0)) (lt_of rfl) ⟨rfl, trivial⟩)) (oZ rfl))
              (by kernel_rfl) (by kernel_rfl) ?_
            refine nT ?_
            refine T.ret ?_
            exact tE (.inl rfl) [.t 10 (.one (.d (.val (.int .i64 0))))] ⟨⟨rfl, rfl⟩, trivial⟩ [] (by have e1 : ((checkM root leaf i n p) : Int) = 0 := (by first | rfl | exact chk_range (by omega) | exact chk_len (by omega) (by omega) | exact chk_at (p := p) (k := k) (by omega) (by omega) (by assumption) | exact (chk_range (by omega)).symm | exact (chk_len (by omega) (by omega)).symm | exact (chk_at (p := p) (k := k) (by omega) (by omega) (by assumption)).symm | (rw [chk_end (root := root) (leaf := leaf) (k := k) (by omega) hsl (by omega) hb]; simp [*]; done)); have hE := congrArg (fun (q1 : Int) => (dv (.int .i64 q1) : AV)) e1; exact hE) rfl rfl rfl rfl rfl trivial

-- quaestor/quaestorref09.Check
theorem ref09_Check (root : List UInt8) (tleaf : Bool) (nleaf : Bool) (leaf : List UInt8) (i : Int) (n : Int) (tp : Bool) (np : Bool) (p : List api_Step) (hp : fewG szS 70 30000 p) (hl : leaf.length ≤ 600) (hn : n ≤ 9223372036854775807) : Holds Try.prog 41 ⟨[dv (strV root), slV tleaf nleaf kU8 leaf, dv (.int .i64 i), dv (.int .i64 n), slV tp np (k_api_Step false) p], [], dv (.int .i64 (checkM root leaf i n p)), []⟩ := by
  refine Holds.of Try.func41 rfl (N := 68) Try.ntmps41 rfl fun w0 B0 S0 U0 => ?_
  show T _ (mkBase 68 0 w0 S0 U0 B0) ⟨[dv (strV root), slV tleaf nleaf kU8 leaf, dv (.int .i64 i), dv (.int .i64 n), slV tp np (k_api_Step false) p], []⟩ _ _
  have hp70 := hp.1
  refine T.seq ?_
  refine tR (s1 := ⟨[dv (strV root), slV tleaf nleaf kU8 leaf, dv (.int .i64 i), dv (.int .i64 n), slV tp np (k_api_Step false) p, aa, aa, aa, aa, aa, dv (.int .i64 0)], []⟩) (bm 11 1055) []
    (oC (oS rfl rfl (r_assign (av := dv (.int .i64 0)) (lt_of rfl) ⟨rfl, trivial⟩)) (oZ rfl))
    (by kernel_rfl) (by kernel_rfl) ?_
  refine nT ?_
  refine T.seq ?_
  refine T.seq ?_
  by_cases hq1 : i < 0
  · refine tR (s1 := ⟨[dv (strV root), slV tleaf nleaf kU8 leaf, dv (.int .i64 i), dv (.int .i64 n), slV tp np (k_api_Step false) p, aa, aa, aa, aa, aa, dv (.int .i64 0), aa, aa, aa, aa, aa, aa, aa, aa, aa, dv (.bool true)], []⟩) (bm 21 1049631) []
      (oC (oS rfl rfl (r_move (av := dv (.int .i64 i)) (lt_of rfl) trivial))
      (oC (oS rfl rfl (r_bin (u1 := .int .i64 i) (u2 := .int .i64 0) (v := .bool (decide (i < 0))) b_lss (lt_of rfl) ⟨rfl, trivial⟩))
      (oC (oS rfl rfl (r_move (av := dv (.bool (decide (i < 0)))) (lt_of rfl) trivial))
      (oC (oN (b := (decide (i < 0))) rfl rfl rfl rfl (lt_of rfl) (decide_eq_true hq1) rfl (lt_of rfl))
      (oC (oN (b := (decide (i < 0))) rfl rfl rfl rfl (lt_of rfl) (decide_eq_true hq1) rfl (lt_of rfl))
      (oC (oN (b := (decide (i < 0))) rfl rfl rfl rfl (lt_of rfl) (decide_eq_true hq1) rfl (lt_of rfl))
      (oC (oS rfl rfl (r_pickT (b := (decide (i < 0))) (av := dv (.bool true)) (lt_of rfl) ⟨rfl, trivial⟩ (decide_eq_true hq1))) (oZ rfl))))))))
      (by kernel_rfl) (by kernel_rfl) ?_
    refine nT ?_
    refine T.condT (b := true) rfl rfl ?_
    refine T.seq ?_
    refine tR (s1 := ⟨[dv (strV root), slV tleaf nleaf kU8 leaf, dv (.int .i64 i), dv (.int .i64 n), slV tp np (k_api_Step false) p, aa, aa, aa, aa, aa, dv (.int .i64 2), aa, aa, aa, aa, aa, aa, aa, aa, aa, dv (.bool true)], []⟩) (bm 21 1049631) []
      (oC (oS rfl rfl (r_assign (av := dv (.int .i64 2)) (lt_of rfl) ⟨rfl, trivial⟩)) (oZ rfl))
      (by kernel_rfl) (by kernel_rfl) ?_
    refine nT ?_
    refine T.ret ?_
    refine rT ?_
    exact tE (.inl rfl) [.t 10 (.one (.d (.val (.int .i64 2))))] ⟨⟨rfl, rfl⟩, trivial⟩ [] (by have e1 : ((checkM root leaf i n p) : Int) = 2 := (by first | rfl | exact chk_range (by omega) | exact chk_len (by omega) (by omega) | exact chk_at (p := p) (k := k) (by omega) (by omega) (by assumption) | exact (chk_range (by omega)).symm | exact (chk_len (by omega) (by omega)).symm | exact (chk_at (p := p) (k := k) (by omega) (by omega) (by assumption)).symm | (rw [chk_end (root := root) (leaf := leaf) (k := k) (by omega) hsl (by omega) hb]; simp [*]; done)); have hE := congrArg (fun (q1 : Int) => (dv (.int .i64 q1) : AV)) e1; exact hE) rfl rfl rfl rfl rfl trivial
  · refine tR (s1 := ⟨[dv (strV root), slV tleaf nleaf kU8 leaf, dv (.int .i64 i), dv (.int .i64 n), slV tp np (k_api_Step false) p, aa, aa, aa, aa, aa, dv (.int .i64 0), aa, aa, aa, aa, aa, aa, aa, aa, aa, dv (.bool (decide (i ≥ n)))], []⟩) (bm 21 1049631) []
      (oC (oS rfl rfl (r_move (av := dv (.int .i64 i)) (lt_of rfl) trivial))
      (oC (oS rfl rfl (r_bin (u1 := .int .i64 i) (u2 := .int .i64 0) (v := .bool (decide (i < 0))) b_lss (lt_of rfl) ⟨rfl, trivial⟩))
      (oC (oS rfl rfl (r_move (av := dv (.bool (decide (i < 0)))) (lt_of rfl) trivial))
      (oC (oY (b := (decide (i < 0))) rfl rfl rfl rfl (lt_of rfl) (decide_eq_false hq1) (r_move (av := dv (.int .i64 i)) (lt_of rfl) trivial))
      (oC (oY (b := (decide (i < 0))) rfl rfl rfl rfl (lt_of rfl) (decide_eq_false hq1) (r_move (av := dv (.int .i64 n)) (lt_of rfl) trivial))
      (oC (oY (b := (decide (i < 0))) rfl rfl rfl rfl (lt_of rfl) (decide_eq_false hq1) (r_bin (u1 := .int .i64 i) (u2 := .int .i64 n) (v := .bool (decide (i ≥ n))) b_geq (lt_of rfl) trivial))
      (oC (oS rfl rfl (r_pickF (b := (decide (i < 0))) (av := dv (.bool (decide (i ≥ n)))) (lt_of rfl) trivial (decide_eq_false hq1))) (oZ rfl))))))))
      (by kernel_rfl) (by kernel_rfl) ?_
    refine nT ?_
    by_cases hq2 : i ≥ n
    · refine T.condT (b := (decide (i ≥ n))) rfl (decide_eq_true hq2) ?_
      refine T.seq ?_
      refine tR (s1 := ⟨[dv (strV root), slV tleaf nleaf kU8 leaf, dv (.int .i64 i), dv (.int .i64 n), slV tp np (k_api_Step false) p, aa, aa, aa, aa, aa, dv (.int .i64 2), aa, aa, aa, aa, aa, aa, aa, aa, aa, dv (.bool (decide (i ≥ n)))], []⟩) (bm 21 1049631) []
        (oC (oS rfl rfl (r_assign (av := dv (.int .i64 2)) (lt_of rfl) ⟨rfl, trivial⟩)) (oZ rfl))
        (by kernel_rfl) (by kernel_rfl) ?_
      refine nT ?_
      refine T.ret ?_
      refine rT ?_
      exact tE (.inl rfl) [.t 10 (.one (.d (.val (.int .i64 2))))] ⟨⟨rfl, rfl⟩, trivial⟩ [] (by have e1 : ((checkM root leaf i n p) : Int) = 2 := (by first | rfl | exact chk_range (by omega) | exact chk_len (by omega) (by omega) | exact chk_at (p := p) (k := k) (by omega) (by omega) (by assumption) | exact (chk_range (by omega)).symm | exact (chk_len (by omega) (by omega)).symm | exact (chk_at (p := p) (k := k) (by omega) (by omega) (by assumption)).symm | (rw [chk_end (root := root) (leaf := leaf) (k := k) (by omega) hsl (by omega) hb]; simp [*]; done)); have hE := congrArg (fun (q1 : Int) => (dv (.int .i64 q1) : AV)) e1; exact hE) rfl rfl rfl rfl rfl trivial
    · refine T.condF (b := (decide (i ≥ n))) rfl (decide_eq_false hq2) ?_
      refine T.skip ?_
      refine nT ?_
      refine T.seq ?_
      refine T.turn (s' := ⟨[dv (strV root), slV tleaf nleaf kU8 leaf, dv (.int .i64 ((i.toNat : Nat) : Int)), dv (.int .i64 ((n.toNat : Nat) : Int)), slV tp np (k_api_Step false) p, aa, aa, aa, aa, aa, dv (.int .i64 0), aa, aa, aa, aa, aa, aa, aa, aa, aa, dv (.bool (decide (i ≥ n)))], []⟩) (fun _ _ hG => Gs.into2 (s := ⟨[dv (strV root), slV tleaf nleaf kU8 leaf, dv (.int .i64 i), dv (.int .i64 n), slV tp np (k_api_Step false) p, aa, aa, aa, aa, aa, dv (.int .i64 0), aa, aa, aa, aa, aa, aa, aa, aa, aa, dv (.bool (decide (i ≥ n)))], []⟩) (s' := ⟨[dv (strV root), slV tleaf nleaf kU8 leaf, dv (.int .i64 ((i.toNat : Nat) : Int)), dv (.int .i64 ((n.toNat : Nat) : Int)), slV tp np (k_api_Step false) p, aa, aa, aa, aa, aa, dv (.int .i64 0), aa, aa, aa, aa, aa, aa, aa, aa, aa, dv (.bool (decide (i ≥ n)))], []⟩) [] (bm 21 1049631) (t1 := [dv (strV root), slV tleaf nleaf kU8 leaf, dv (.int .i64 ((i.toNat : Nat) : Int)), dv (.int .i64 ((n.toNat : Nat) : Int)), slV tp np (k_api_Step false) p, aa, aa, aa, aa, aa, dv (.int .i64 0), aa, aa, aa, aa, aa, aa, aa, aa, aa, dv (.bool (decide (i ≥ n)))]) (t2 := [dv (strV root), slV tleaf nleaf kU8 leaf, dv (.int .i64 i), dv (.int .i64 n), slV tp np (k_api_Step false) p, aa, aa, aa, aa, aa, dv (.int .i64 0), aa, aa, aa, aa, aa, aa, aa, aa, aa, dv (.bool (decide (i ≥ n)))]) (h1 := []) (h2 := []) (by have e1 : (((i.toNat : Nat) : Int) : Int) = i := (by omega); have e2 : (((n.toNat : Nat) : Int) : Int) = n := (by omega); have hE := congr (congrArg (fun (q1 : Int) (q2 : Int) => ([dv (strV root), slV tleaf nleaf kU8 leaf, dv (.int .i64 q1), dv (.int .i64 q2), slV tp np (k_api_Step false) p, aa, aa, aa, aa, aa, dv (.int .i64 0), aa, aa, aa, aa, aa, aa, aa, aa, aa, dv (.bool (decide (i ≥ n)))] : List AV)) e1) e2; exact hE) rfl (by kernel_rfl) (by kernel_rfl) (by kernel_rfl) (by kernel_rfl) (by kernel_rfl) (by kernel_rfl) (by kernel_rfl) (by kernel_rfl) (by kernel_rfl) (by kernel_rfl) (by kernel_rfl) hG) ?_
      refine tR (s1 := ⟨[dv (strV root), slV tleaf nleaf kU8 leaf, dv (.int .i64 ((i.toNat : Nat) : Int)), dv (.int .i64 ((n.toNat : Nat) : Int)), slV tp np (k_api_Step false) p, aa, aa, aa, aa, aa, dv (.int .i64 0), ownV 0 kBool 0 (sidesN i.toNat n.toNat).length, aa, aa, aa, aa, aa, aa, aa, aa, dv (.bool (decide (i ≥ n)))], [.live (arrK 4 kBool (sidesN i.toNat n.toNat))]⟩) (bm 21 1051679) [true]
        (oC (oS rfl rfl (r_move (av := dv (.int .i64 ((i.toNat : Nat) : Int))) (lt_of rfl) trivial))
        (oC (oS rfl rfl (r_move (av := dv (.int .i64 ((n.toNat : Nat) : Int))) (lt_of rfl) trivial))
        (oC (oS rfl rfl (r_call (ref09_sides i.toNat n.toNat (by first | assumption | omega | (unfold maxLen; omega) | (simp [maxLen] <;> omega) | decide) (by first | assumption | omega | (unfold maxLen; omega) | (simp [maxLen] <;> omega) | decide)) Try.func62 rfl (by decide) [0] [] (l := [(.tmp 21, dv (.int .i64 ((i.toNat : Nat) : Int))), (.tmp 22, dv (.int .i64 ((n.toNat : Nat) : Int)))]) [] rfl 0 1 rfl rfl rfl rfl rfl rfl rfl rfl rfl ⟨.inl ⟨rfl, rfl⟩, ⟨.inl ⟨rfl, rfl⟩, trivial⟩⟩ rfl (fun b hb => by cases hb) (.inl rfl) (lt_of rfl) trivial))
        (oC (oS rfl rfl (r_assign (av := ownV 0 kBool 0 (sidesN i.toNat n.toNat).length) (lt_of rfl) trivial)) (oZ rfl)))))
        (by kernel_rfl) (by kernel_rfl) ?_
      refine nT ?_
      refine T.seq ?_
      refine T.seq ?_
      refine tR (s1 := ⟨[dv (strV root), slV tleaf nleaf kU8 leaf, dv (.int .i64 ((i.toNat : Nat) : Int)), dv (.int .i64 ((n.toNat : Nat) : Int)), slV tp np (k_api_Step false) p, aa, aa, aa, aa, aa, dv (.int .i64 0), ownV 0 kBool 0 (sidesN i.toNat n.toNat).length, aa, aa, aa, aa, aa, aa, aa, aa, dv (.bool (decide (i ≥ n))), aa, aa, aa, aa, aa, aa, aa, dv (.bool (decide ((((sidesN i.toNat n.toNat).length : Nat) : Int) ≠ ((p.length : Nat) : Int))))], [.live (arrK 4 kBool (sidesN i.toNat n.toNat))]⟩) (bm 29 269487135) [true]
        (oC (oS rfl rfl (r_move (av := ownV 0 kBool 0 (sidesN i.toNat n.toNat).length) (lt_of rfl) trivial))
        (oC (oS rfl rfl (r_lenO (l := 0) (sz := kBool.sz) (off := 0) (n := (sidesN i.toNat n.toNat).length) Try.underlying84 (lt_of rfl) trivial))
        (oC (oS rfl rfl (r_move (av := slV tp np (k_api_Step false) p) (lt_of rfl) trivial))
        (oC (oS rfl rfl (q_len tp np (k_api_Step false) p Try.underlying42 (lt_of rfl) trivial))
        (oC (oS rfl rfl (r_bin (u1 := .int .i64 (((sidesN i.toNat n.toNat).length : Nat) : Int)) (u2 := .int .i64 ((p.length : Nat) : Int)) (v := .bool (decide ((((sidesN i.toNat n.toNat).length : Nat) : Int) ≠ ((p.length : Nat) : Int)))) b_neq (lt_of rfl) trivial)) (oZ rfl))))))
        (by kernel_rfl) (by kernel_rfl) ?_
      refine nT ?_
      by_cases hq3 : (((sidesN i.toNat n.toNat).length : Nat) : Int) ≠ ((p.length : Nat) : Int)
      · refine T.condT (b := (decide ((((sidesN i.toNat n.toNat).length : Nat) : Int) ≠ ((p.length : Nat) : Int)))) rfl (decide_eq_true hq3) ?_
        refine T.seq ?_
        refine tR (s1 := ⟨[dv (strV root), slV tleaf nleaf kU8 leaf, dv (.int .i64 ((i.toNat : Nat) : Int)), dv (.int .i64 ((n.toNat : Nat) : Int)), slV tp np (k_api_Step false) p, aa, aa, aa, aa, aa, dv (.int .i64 90), ownV 0 kBool 0 (sidesN i.toNat n.toNat).length, aa, aa, aa, aa, aa, aa, aa, aa, dv (.bool (decide (i ≥ n))), aa, aa, aa, aa, aa, aa, aa, dv (.bool (decide ((((sidesN i.toNat n.toNat).length : Nat) : Int) ≠ ((p.length : Nat) : Int))))], [.live (arrK 4 kBool (sidesN i.toNat n.toNat))]⟩) (bm 29 269487135) [true]
          (oC (oS rfl rfl (r_assign (av := dv (.int .i64 90)) (lt_of rfl) ⟨rfl, trivial⟩)) (oZ rfl))
          (by kernel_rfl) (by kernel_rfl) ?_
        refine nT ?_
        refine T.ret ?_
        refine rT ?_
        exact tE (.inl rfl) [.t 10 (.one (.d (.val (.int .i64 90))))] ⟨⟨rfl, rfl⟩, trivial⟩ [] (by have e1 : ((checkM root leaf i n p) : Int) = 90 := (by first | rfl | exact chk_range (by omega) | exact chk_len (by omega) (by omega) | exact chk_at (p := p) (k := k) (by omega) (by omega) (by assumption) | exact (chk_range (by omega)).symm | exact (chk_len (by omega) (by omega)).symm | exact (chk_at (p := p) (k := k) (by omega) (by omega) (by assumption)).symm | (rw [chk_end (root := root) (leaf := leaf) (k := k) (by omega) hsl (by omega) hb]; simp [*]; done)); have hE := congrArg (fun (q1 : Int) => (dv (.int .i64 q1) : AV)) e1; exact hE) rfl rfl rfl rfl rfl trivial
      · refine T.condF (b := (decide ((((sidesN i.toNat n.toNat).length : Nat) : Int) ≠ ((p.length : Nat) : Int)))) rfl (decide_eq_false hq3) ?_
        refine T.skip ?_
        refine nT ?_
        refine T.seq ?_
        refine tR (s1 := ⟨[dv (strV root), slV tleaf nleaf kU8 leaf, dv (.int .i64 ((i.toNat : Nat) : Int)), dv (.int .i64 ((n.toNat : Nat) : Int)), slV tp np (k_api_Step false) p, aa, aa, aa, aa, aa, dv (.int .i64 0), ownV 0 kBool 0 (sidesN i.toNat n.toNat).length, dv (strV (ofB (2 : UInt8) [leaf])), aa, aa, aa, aa, aa, aa, aa, dv (.bool (decide (i ≥ n))), aa, aa, aa, aa, aa, aa, aa, dv (.bool (decide ((((sidesN i.toNat n.toNat).length : Nat) : Int) ≠ ((p.length : Nat) : Int))))], [.live (arrK 4 kBool (sidesN i.toNat n.toNat))]⟩) (bm 29 269491231) [true]
          (oC (oS rfl rfl (r_move (av := slV tleaf nleaf kU8 leaf) (lt_of rfl) trivial))
          (oC (oS rfl rfl (r_call (ref02_Leaf (2 : UInt8) tleaf nleaf leaf (by first | assumption | omega | (unfold maxLen; omega) | (simp [maxLen] <;> omega) | decide)) Try.func56 rfl (by decide) [] [] (l := [(.const (.int .u8 2), dv (.int .u8 2)), (.tmp 29, slV tleaf nleaf kU8 leaf)]) [] rfl 0 0 rfl rfl rfl rfl rfl rfl rfl rfl rfl ⟨.inl ⟨rfl, rfl⟩, ⟨.inl ⟨rfl, rfl⟩, trivial⟩⟩ rfl (fun b hb => by cases hb) (.inl rfl) (lt_of rfl) ⟨rfl, trivial⟩))
          (oC (oS rfl rfl (r_assign (av := dv (strV (ofB (2 : UInt8) [leaf]))) (lt_of rfl) trivial)) (oZ rfl))))
          (by kernel_rfl) (by kernel_rfl) ?_
        refine nT ?_
        refine T.seq ?_
        refine T.seq ?_
        refine tR (s1 := ⟨[dv (strV root), slV tleaf nleaf kU8 leaf, dv (.int .i64 ((i.toNat : Nat) : Int)), dv (.int .i64 ((n.toNat : Nat) : Int)), slV tp np (k_api_Step false) p, aa, aa, aa, aa, aa, dv (.int .i64 0), ownV 0 kBool 0 (sidesN i.toNat n.toNat).length, dv (strV (ofB (2 : UInt8) [leaf])), dv (.int .i64 0), aa, aa, aa, aa, aa, aa, dv (.bool (decide (i ≥ n))), aa, aa, aa, aa, aa, aa, aa, dv (.bool (decide ((((sidesN i.toNat n.toNat).length : Nat) : Int) ≠ ((p.length : Nat) : Int))))], [.live (arrK 4 kBool (sidesN i.toNat n.toNat))]⟩) (bm 29 269499423) [true]
          (oC (oS rfl rfl (r_assign (av := dv (.int .i64 0)) (lt_of rfl) ⟨rfl, trivial⟩)) (oZ rfl))
          (by kernel_rfl) (by kernel_rfl) ?_
        refine nT ?_
        refine T.block ?_
        refine T.loop (ι := Nat) (fun (k : Nat) => ⟨[dv (strV root), slV tleaf nleaf kU8 leaf, dv (.int .i64 ((i.toNat : Nat) : Int)), dv (.int .i64 ((n.toNat : Nat) : Int)), slV tp np (k_api_Step false) p, aa, aa, aa, aa, aa, aa, ownV 0 kBool 0 (sidesN i.toNat n.toNat).length, dv (strV (climb (ofB 2 [leaf]) (p.take k))), dv (.int .i64 ((k : Nat) : Int))], [.live (arrK 4 kBool (sidesN i.toNat n.toNat))]⟩) (fun (k : Nat) => (k ≤ p.length) ∧ ((sidesN i.toNat n.toNat).length = p.length) ∧ (∀ t, t < k → (p.getD t z_api_Step).f_Left = (sidesN i.toNat n.toNat).getD t false)) (fun (k : Nat) => p.length - k) (0) ⟨(Nat.zero_le _), (by omega), (fun j hj => absurd hj (Nat.not_lt_zero _))⟩ (fun _ _ hG => Gs.into2 (s := ⟨[dv (strV root), slV tleaf nleaf kU8 leaf, dv (.int .i64 ((i.toNat : Nat) : Int)), dv (.int .i64 ((n.toNat : Nat) : Int)), slV tp np (k_api_Step false) p, aa, aa, aa, aa, aa, dv (.int .i64 0), ownV 0 kBool 0 (sidesN i.toNat n.toNat).length, dv (strV (ofB (2 : UInt8) [leaf])), dv (.int .i64 0), aa, aa, aa, aa, aa, aa, dv (.bool (decide (i ≥ n))), aa, aa, aa, aa, aa, aa, aa, dv (.bool (decide ((((sidesN i.toNat n.toNat).length : Nat) : Int) ≠ ((p.length : Nat) : Int))))], [.live (arrK 4 kBool (sidesN i.toNat n.toNat))]⟩) (s' := ⟨[dv (strV root), slV tleaf nleaf kU8 leaf, dv (.int .i64 ((i.toNat : Nat) : Int)), dv (.int .i64 ((n.toNat : Nat) : Int)), slV tp np (k_api_Step false) p, aa, aa, aa, aa, aa, aa, ownV 0 kBool 0 (sidesN i.toNat n.toNat).length, dv (strV (climb (ofB 2 [leaf]) (p.take 0))), dv (.int .i64 0)], [.live (arrK 4 kBool (sidesN i.toNat n.toNat))]⟩) [0] (bm 14 14367) (t1 := [dv (strV root), slV tleaf nleaf kU8 leaf, dv (.int .i64 ((i.toNat : Nat) : Int)), dv (.int .i64 ((n.toNat : Nat) : Int)), slV tp np (k_api_Step false) p, aa, aa, aa, aa, aa, aa, ownV 0 kBool 0 (sidesN i.toNat n.toNat).length, dv (strV (climb (ofB 2 [leaf]) (p.take 0))), dv (.int .i64 0)]) (t2 := [dv (strV root), slV tleaf nleaf kU8 leaf, dv (.int .i64 ((i.toNat : Nat) : Int)), dv (.int .i64 ((n.toNat : Nat) : Int)), slV tp np (k_api_Step false) p, aa, aa, aa, aa, aa, aa, ownV 0 kBool 0 (sidesN i.toNat n.toNat).length, dv (strV (ofB (2 : UInt8) [leaf])), dv (.int .i64 0)]) (h1 := [.live (arrK 4 kBool (sidesN i.toNat n.toNat))]) (h2 := [.live (arrK 4 kBool (sidesN i.toNat n.toNat))]) (by have e1 : ((climb (ofB 2 [leaf]) (p.take 0)) : List UInt8) = (ofB (2 : UInt8) [leaf]) := (by rfl); have hE := congrArg (fun (q1 : List UInt8) => ([dv (strV root), slV tleaf nleaf kU8 leaf, dv (.int .i64 ((i.toNat : Nat) : Int)), dv (.int .i64 ((n.toNat : Nat) : Int)), slV tp np (k_api_Step false) p, aa, aa, aa, aa, aa, aa, ownV 0 kBool 0 (sidesN i.toNat n.toNat).length, dv (strV q1), dv (.int .i64 0)] : List AV)) e1; exact hE) rfl (by kernel_rfl) (by kernel_rfl) (by kernel_rfl) (by kernel_rfl) (by kernel_rfl) (by kernel_rfl) (by kernel_rfl) (by kernel_rfl) (by kernel_rfl) (by kernel_rfl) (by kernel_rfl) hG) ?_
        rintro k ⟨hk, hsl, hb⟩
        show T _ _ ⟨[dv (strV root), slV tleaf nleaf kU8 leaf, dv (.int .i64 ((i.toNat : Nat) : Int)), dv (.int .i64 ((n.toNat : Nat) : Int)), slV tp np (k_api_Step false) p, aa, aa, aa, aa, aa, aa, ownV 0 kBool 0 (sidesN i.toNat n.toNat).length, dv (strV (climb (ofB 2 [leaf]) (p.take k))), dv (.int .i64 ((k : Nat) : Int))], [.live (arrK 4 kBool (sidesN i.toNat n.toNat))]⟩ _ _
        replace hk : k ≤ p.length := hk
        replace hsl : (sidesN i.toNat n.toNat).length = p.length := hsl
        replace hb : ∀ t, t < k → (p.getD t z_api_Step).f_Left = (sidesN i.toNat n.toNat).getD t false := hb
        have hk70 : (p.take k).length ≤ 70 := by rw [List.length_take]; have := hp.1; omega
        have hcl := climb_len (p := p.take k) (m := 30000) (fun s hs => hp.2 s (List.mem_of_mem_take hs)) (ofB 2 [leaf])
        have hlf := leaf_len 2 leaf
        have hgd : ((p.getD k z_api_Step).f_Digest).length ≤ 30000 := fewG_get (sz := szS) hp (by decide) k
        refine T.seq ?_
        refine T.seq ?_
        refine tR (s1 := ⟨[dv (strV root), slV tleaf nleaf kU8 leaf, dv (.int .i64 ((i.toNat : Nat) : Int)), dv (.int .i64 ((n.toNat : Nat) : Int)), slV tp np (k_api_Step false) p, aa, aa, aa, aa, aa, aa, ownV 0 kBool 0 (sidesN i.toNat n.toNat).length, dv (strV (climb (ofB 2 [leaf]) (p.take k))), dv (.int .i64 ((k : Nat) : Int)), aa, aa, aa, aa, aa, aa, aa, aa, aa, aa, aa, aa, aa, aa, aa, aa, aa, aa, aa, aa, dv (.bool (decide (((k : Nat) : Int) < ((p.length : Nat) : Int))))], [.live (arrK 4 kBool (sidesN i.toNat n.toNat))]⟩) (bm 35 17179883551) [true]
          (oC (oS rfl rfl (r_move (av := dv (.int .i64 ((k : Nat) : Int))) (lt_of rfl) trivial))
          (oC (oS rfl rfl (r_move (av := slV tp np (k_api_Step false) p) (lt_of rfl) trivial))
          (oC (oS rfl rfl (q_len tp np (k_api_Step false) p Try.underlying42 (lt_of rfl) trivial))
          (oC (oS rfl rfl (r_bin (u1 := .int .i64 ((k : Nat) : Int)) (u2 := .int .i64 ((p.length : Nat) : Int)) (v := .bool (decide (((k : Nat) : Int) < ((p.length : Nat) : Int)))) b_lss (lt_of rfl) trivial)) (oZ rfl)))))
          (by kernel_rfl) (by kernel_rfl) ?_
        refine nT ?_
        by_cases hq4 : ((k : Nat) : Int) < ((p.length : Nat) : Int)
        · refine T.condT (b := (decide (((k : Nat) : Int) < ((p.length : Nat) : Int)))) rfl (decide_eq_true hq4) ?_
          refine T.skip ?_
          refine nT ?_
          refine T.seq ?_
          refine T.block ?_
          refine T.seq ?_
          refine T.seq ?_
          refine tD (s1 := ⟨[dv (strV root), slV tleaf nleaf kU8 leaf, dv (.int .i64 ((i.toNat : Nat) : Int)), dv (.int .i64 ((n.toNat : Nat) : Int)), slV tp np (k_api_Step false) p, aa, aa, aa, aa, aa, aa, ownV 0 kBool 0 (sidesN i.toNat n.toNat).length, dv (strV (climb (ofB 2 [leaf]) (p.take k))), dv (.int .i64 ((k : Nat) : Int)), aa, aa, aa, aa, aa, aa, aa, aa, aa, aa, aa, aa, aa, aa, aa, aa, aa, aa, aa, aa, dv (.bool (decide (((k : Nat) : Int) < ((p.length : Nat) : Int)))), aa, aa, aa, aa, aa, aa, aa, aa, aa, aa, aa, dv (.bool (decide ((p.getD k z_api_Step).f_Left ≠ ((sidesN i.toNat n.toNat).getD k false))))], [.live (arrK 4 kBool (sidesN i.toNat n.toNat))]⟩) (by kernel_rfl) [[], [], [0, 1], [0, 1, 2], [0, 1, 2, 3], [], [], [5, 6], [5, 6, 7], [0, 1, 2, 3, 4, 5, 6, 7, 8]] (bm 47 70385924061215) [true]
            (oC (oS rfl rfl (r_move (av := slV tp np (k_api_Step false) p) (lt_of rfl) trivial))
            (oC (oS rfl rfl (r_move (av := dv (.int .i64 ((k : Nat) : Int))) (lt_of rfl) trivial))
            (oC (oS rfl rfl (q_index tp np (k_api_Step false) p k (k := .i64) (i := ((k : Nat) : Int)) Try.underlying42 iat_67 rfl rfl (by first | assumption | omega | (unfold maxLen; omega) | (simp [maxLen] <;> omega) | decide) (lt_of rfl) trivial))
            (oC (oS rfl rfl (r_fieldAddrE (tag := tp) (n := 2) (m := 1) (el := (k_api_Step false).cell (p.getD k (k_api_Step false).z)) fld_67_0 (by decide) (lt_of rfl) trivial))
            (oC (oS rfl rfl (r_loadE (tag := tp) (n := 1) (el := fun j_ => ((k_api_Step false).cell (p.getD k (k_api_Step false).z)) (0 + j_)) (e0 := .val (.bool (p.getD k z_api_Step).f_Left)) wide_4 (by decide) rfl (lt_of rfl) trivial))
            (oC (oS rfl rfl (r_move (av := ownV 0 kBool 0 (sidesN i.toNat n.toNat).length) (lt_of rfl) trivial))
            (oC (oS rfl rfl (r_move (av := dv (.int .i64 ((k : Nat) : Int))) (lt_of rfl) trivial))
            (oC (oS rfl rfl (r_indexO (k := .i64) (l := 0) (sz := kBool.sz) (off := 0) (n := (sidesN i.toNat n.toNat).length) (i := ((k : Nat) : Int)) (m := k) (o' := k * kBool.sz + 0) Try.underlying84 iat_4 rfl rfl (by first | assumption | omega | (unfold maxLen; omega) | (simp [maxLen] <;> omega) | decide) (by first | rfl | simp) (lt_of rfl) trivial))
            (oC (oS rfl rfl (r_loadA (l := 0) (off := k * kBool.sz + 0) (i := k) (j := 0) (T := 4) (sz := kBool.sz) (n := (sidesN i.toNat n.toNat).length) (el := elOf kBool (sidesN i.toNat n.toNat)) (c := .val (.bool ((sidesN i.toNat n.toNat).getD k false))) wide_4 rfl (by first | assumption | omega | (unfold maxLen; omega) | (simp [maxLen] <;> omega) | decide) (by decide) rfl (lt_of rfl) trivial))
            (oC (oS rfl rfl (r_bin (u1 := .bool (p.getD k z_api_Step).f_Left) (u2 := .bool ((sidesN i.toNat n.toNat).getD k false)) (v := .bool (decide ((p.getD k z_api_Step).f_Left ≠ ((sidesN i.toNat n.toNat).getD k false)))) (b_neqB Try.underlying4) (lt_of rfl) trivial)) (oZ rfl)))))))))))
            (by kernel_rfl) (by kernel_rfl) (by kernel_rfl) (by kernel_rfl) (by kernel_rfl) ?_
          refine nT ?_
          by_cases hq5 : (p.getD k z_api_Step).f_Left ≠ ((sidesN i.toNat n.toNat).getD k false)
          · refine T.condT (b := (decide ((p.getD k z_api_Step).f_Left ≠ ((sidesN i.toNat n.toNat).getD k false)))) rfl (decide_eq_true hq5) ?_
            refine T.seq ?_
            refine tR (s1 := ⟨[dv (strV root), slV tleaf nleaf kU8 leaf, dv (.int .i64 ((i.toNat : Nat) : Int)), dv (.int .i64 ((n.toNat : Nat) : Int)), slV tp np (k_api_Step false) p, aa, aa, aa, aa, aa, dv (.int .i64 90), ownV 0 kBool 0 (sidesN i.toNat n.toNat).length, dv (strV (climb (ofB 2 [leaf]) (p.take k))), dv (.int .i64 ((k : Nat) : Int)), aa, aa, aa, aa, aa, aa, aa, aa, aa, aa, aa, aa, aa, aa, aa, aa, aa, aa, aa, aa, dv (.bool (decide (((k : Nat) : Int) < ((p.length : Nat) : Int)))), aa, aa, aa, aa, aa, aa, aa, aa, aa, aa, aa, dv (.bool (decide ((p.getD k z_api_Step).f_Left ≠ ((sidesN i.toNat n.toNat).getD k false))))], [.live (arrK 4 kBool (sidesN i.toNat n.toNat))]⟩) (bm 47 70385924062239) [true]
              (oC (oS rfl rfl (r_assign (av := dv (.int .i64 90)) (lt_of rfl) ⟨rfl, trivial⟩)) (oZ rfl))
              (by kernel_rfl) (by kernel_rfl) ?_
            refine nT ?_
            refine T.ret ?_
            refine rT ?_
            refine rB ?_
            refine rT ?_
            refine rT ?_
            refine rB ?_
            refine rT ?_
            exact tE (.inl rfl) [.t 10 (.one (.d (.val (.int .i64 90))))] ⟨⟨rfl, rfl⟩, trivial⟩ [] (by have e1 : ((checkM root leaf i n p) : Int) = 90 := (by first | rfl | exact chk_range (by omega) | exact chk_len (by omega) (by omega) | exact chk_at (p := p) (k := k) (by omega) (by omega) (by assumption) | exact (chk_range (by omega)).symm | exact (chk_len (by omega) (by omega)).symm | exact (chk_at (p := p) (k := k) (by omega) (by omega) (by assumption)).symm | (rw [chk_end (root := root) (leaf := leaf) (k := k) (by omega) hsl (by omega) hb]; simp [*]; done)); have hE := congrArg (fun (q1 : Int) => (dv (.int .i64 q1) : AV)) e1; exact hE) rfl rfl rfl rfl rfl trivial
          · refine T.condF (b := (decide ((p.getD k z_api_Step).f_Left ≠ ((sidesN i.toNat n.toNat).getD k false)))) rfl (decide_eq_false hq5) ?_
            refine T.skip ?_
            refine nT ?_
            refine T.seq ?_
            refine tR (s1 := ⟨[dv (strV root), slV tleaf nleaf kU8 leaf, dv (.int .i64 ((i.toNat : Nat) : Int)), dv (.int .i64 ((n.toNat : Nat) : Int)), slV tp np (k_api_Step false) p, aa, aa, aa, aa, aa, aa, ownV 0 kBool 0 (sidesN i.toNat n.toNat).length, dv (strV (climb (ofB 2 [leaf]) (p.take k))), dv (.int .i64 ((k : Nat) : Int)), aa, aa, aa, aa, aa, aa, aa, aa, aa, aa, aa, aa, aa, aa, aa, aa, aa, aa, aa, aa, dv (.bool (decide (((k : Nat) : Int) < ((p.length : Nat) : Int)))), aa, aa, aa, aa, aa, aa, aa, aa, aa, aa, aa, dv (.bool (decide ((p.getD k z_api_Step).f_Left ≠ ((sidesN i.toNat n.toNat).getD k false)))), aa, aa, aa, dv (.bool ((sidesN i.toNat n.toNat).getD k false))], [.live (arrK 4 kBool (sidesN i.toNat n.toNat))]⟩) (bm 51 1196285830903839) [true]
              (oC (oS rfl rfl (r_move (av := ownV 0 kBool 0 (sidesN i.toNat n.toNat).length) (lt_of rfl) trivial))
              (oC (oS rfl rfl (r_move (av := dv (.int .i64 ((k : Nat) : Int))) (lt_of rfl) trivial))
              (oC (oS rfl rfl (r_indexO (k := .i64) (l := 0) (sz := kBool.sz) (off := 0) (n := (sidesN i.toNat n.toNat).length) (i := ((k : Nat) : Int)) (m := k) (o' := k * kBool.sz + 0) Try.underlying84 iat_4 rfl rfl (by first | assumption | omega | (unfold maxLen; omega) | (simp [maxLen] <;> omega) | decide) (by first | rfl | simp) (lt_of rfl) trivial))
              (oC (oS rfl rfl (r_loadA (l := 0) (off := k * kBool.sz + 0) (i := k) (j := 0) (T := 4) (sz := kBool.sz) (n := (sidesN i.toNat n.toNat).length) (el := elOf kBool (sidesN i.toNat n.toNat)) (c := .val (.bool ((sidesN i.toNat n.toNat).getD k false))) wide_4 rfl (by first | assumption | omega | (unfold maxLen; omega) | (simp [maxLen] <;> omega) | decide) (by decide) rfl (lt_of rfl) trivial)) (oZ rfl)))))
              (by kernel_rfl) (by kernel_rfl) ?_
            refine nT ?_
            by_cases hq6 : ((sidesN i.toNat n.toNat).getD k false) = true
            · refine T.condT (b := ((sidesN i.toNat n.toNat).getD k false)) rfl hq6 ?_
              refine tR (s1 := ⟨[dv (strV root), slV tleaf nleaf kU8 leaf, dv (.int .i64 ((i.toNat : Nat) : Int)), dv (.int .i64 ((n.toNat : Nat) : Int)), slV tp np (k_api_Step false) p, aa, aa, aa, aa, aa, aa, ownV 0 kBool 0 (sidesN i.toNat n.toNat).length, dv (strV (ofB (3 : UInt8) [(p.getD k z_api_Step).f_Digest, (climb (ofB 2 [leaf]) (p.take k))])), dv (.int .i64 ((k : Nat) : Int)), aa, aa, aa, aa, aa, aa, aa, aa, aa, aa, aa, aa, aa, aa, aa, aa, aa, aa, aa, aa, dv (.bool (decide (((k : Nat) : Int) < ((p.length : Nat) : Int)))), aa, aa, aa, aa, aa, aa, aa, aa, aa, aa, aa, dv (.bool (decide ((p.getD k z_api_Step).f_Left ≠ ((sidesN i.toNat n.toNat).getD k false)))), aa, aa, aa, dv (.bool ((sidesN i.toNat n.toNat).getD k false))], [.live (arrK 4 kBool (sidesN i.toNat n.toNat))]⟩) (bm 51 1196285830903839) [true]
                (oC (oS rfl rfl (r_move (av := slV tp np (k_api_Step false) p) (lt_of rfl) trivial))
                (oC (oS rfl rfl (r_move (av := dv (.int .i64 ((k : Nat) : Int))) (lt_of rfl) trivial))
                (oC (oS rfl rfl (q_index tp np (k_api_Step false) p k (k := .i64) (i := ((k : Nat) : Int)) Try.underlying42 iat_67 rfl rfl (by first | assumption | omega | (unfold maxLen; omega) | (simp [maxLen] <;> omega) | decide) (lt_of rfl) trivial))
                (oC (oS rfl rfl (r_fieldAddrE (tag := tp) (n := 2) (m := 1) (el := (k_api_Step false).cell (p.getD k (k_api_Step false).z)) fld_67_1 (by decide) (lt_of rfl) trivial))
                (oC (oS rfl rfl (r_loadE (tag := tp) (n := 1) (el := fun j_ => ((k_api_Step false).cell (p.getD k (k_api_Step false).z)) (1 + j_)) (e0 := .val (strV (p.getD k z_api_Step).f_Digest)) wide_22 (by decide) rfl (lt_of rfl) trivial))
                (oC (oS rfl rfl (r_move (av := dv (strV (climb (ofB 2 [leaf]) (p.take k)))) (lt_of rfl) trivial))
                (oC (oS rfl rfl (r_call (ref02_Pair (3 : UInt8) (p.getD k z_api_Step).f_Digest (climb (ofB 2 [leaf]) (p.take k)) (by first | assumption | omega | (unfold maxLen; omega) | (simp [maxLen] <;> omega) | decide)) Try.func58 rfl (by decide) [] [] (l := [(.const (.int .u8 3), dv (.int .u8 3)), (.tmp 55, dv (strV (p.getD k z_api_Step).f_Digest)), (.tmp 56, dv (strV (climb (ofB 2 [leaf]) (p.take k))))]) [] rfl 0 0 rfl rfl rfl rfl rfl rfl rfl rfl rfl ⟨.inl ⟨rfl, rfl⟩, ⟨.inl ⟨rfl, rfl⟩, ⟨.inl ⟨rfl, rfl⟩, trivial⟩⟩⟩ rfl (fun b hb => by cases hb) (.inl rfl) (lt_of rfl) ⟨rfl, trivial⟩))
                (oC (oS rfl rfl (r_assign (av := dv (strV (ofB (3 : UInt8) [(p.getD k z_api_Step).f_Digest, (climb (ofB 2 [leaf]) (p.take k))]))) (lt_of rfl) trivial)) (oZ rfl)))))))))
                (by kernel_rfl) (by kernel_rfl) ?_
              refine nB ?_
              refine nT ?_
              refine tR (s1 := ⟨[dv (strV root), slV tleaf nleaf kU8 leaf, dv (.int .i64 ((i.toNat : Nat) : Int)), dv (.int .i64 ((n.toNat : Nat) : Int)), slV tp np (k_api_Step false) p, aa, aa, aa, aa, aa, aa, ownV 0 kBool 0 (sidesN i.toNat n.toNat).length, dv (strV (ofB (3 : UInt8) [(p.getD k z_api_Step).f_Digest, (climb (ofB 2 [leaf]) (p.take k))])), dv (.int .i64 ((k + 1 : Nat) : Int)), aa, aa, aa, aa, aa, aa, aa, aa, aa, aa, aa, aa, aa, aa, aa, aa, aa, aa, aa, aa, dv (.bool (decide (((k : Nat) : Int) < ((p.length : Nat) : Int)))), aa, aa, aa, aa, aa, aa, aa, aa, aa, aa, aa, dv (.bool (decide ((p.getD k z_api_Step).f_Left ≠ ((sidesN i.toNat n.toNat).getD k false)))), aa, aa, aa, dv (.bool ((sidesN i.toNat n.toNat).getD k false))], [.live (arrK 4 kBool (sidesN i.toNat n.toNat))]⟩) (bm 51 1196285830903839) [true]
                (oC (oS rfl rfl (r_move (av := dv (.int .i64 ((k : Nat) : Int))) (lt_of rfl) trivial))
                (oC (oS rfl rfl (r_bin (u1 := .int .i64 ((k : Nat) : Int)) (u2 := .int .i64 1) (v := .int .i64 ((k + 1 : Nat) : Int)) (b_add (by rw [IntKind.wrap_i64]; omega)) (lt_of rfl) ⟨rfl, trivial⟩))
                (oC (oS rfl rfl (r_assign (av := dv (.int .i64 ((k + 1 : Nat) : Int))) (lt_of rfl) trivial)) (oZ rfl))))
                (by kernel_rfl) (by kernel_rfl) ?_
              refine nL (k + 1) ⟨(show (k + 1) ≤ p.length from (by omega)), (show (sidesN i.toNat n.toNat).length = p.length from hsl), (show ∀ t, t < (k + 1) → (p.getD t z_api_Step).f_Left = (sidesN i.toNat n.toNat).getD t false from (all_succ hb (by first | assumption | exact Classical.not_not.1 (by assumption) | simp [*])))⟩ (show (p.length - (k + 1) : Nat) < p.length - k from (by omega)) (fun _ _ hG => Gs.into2 (s := ⟨[dv (strV root), slV tleaf nleaf kU8 leaf, dv (.int .i64 ((i.toNat : Nat) : Int)), dv (.int .i64 ((n.toNat : Nat) : Int)), slV tp np (k_api_Step false) p, aa, aa, aa, aa, aa, aa, ownV 0 kBool 0 (sidesN i.toNat n.toNat).length, dv (strV (ofB (3 : UInt8) [(p.getD k z_api_Step).f_Digest, (climb (ofB 2 [leaf]) (p.take k))])), dv (.int .i64 ((k + 1 : Nat) : Int)), aa, aa, aa, aa, aa, aa, aa, aa, aa, aa, aa, aa, aa, aa, aa, aa, aa, aa, aa, aa, dv (.bool (decide (((k : Nat) : Int) < ((p.length : Nat) : Int)))), aa, aa, aa, aa, aa, aa, aa, aa, aa, aa, aa, dv (.bool (decide ((p.getD k z_api_Step).f_Left ≠ ((sidesN i.toNat n.toNat).getD k false)))), aa, aa, aa, dv (.bool ((sidesN i.toNat n.toNat).getD k false))], [.live (arrK 4 kBool (sidesN i.toNat n.toNat))]⟩) (s' := ⟨[dv (strV root), slV tleaf nleaf kU8 leaf, dv (.int .i64 ((i.toNat : Nat) : Int)), dv (.int .i64 ((n.toNat : Nat) : Int)), slV tp np (k_api_Step false) p, aa, aa, aa, aa, aa, aa, ownV 0 kBool 0 (sidesN i.toNat n.toNat).length, dv (strV (climb (ofB 2 [leaf]) (p.take (k + 1)))), dv (.int .i64 ((k + 1 : Nat) : Int))], [.live (arrK 4 kBool (sidesN i.toNat n.toNat))]⟩) [0] (bm 14 14367) (t1 := [dv (strV root), slV tleaf nleaf kU8 leaf, dv (.int .i64 ((i.toNat : Nat) : Int)), dv (.int .i64 ((n.toNat : Nat) : Int)), slV tp np (k_api_Step false) p, aa, aa, aa, aa, aa, aa, ownV 0 kBool 0 (sidesN i.toNat n.toNat).length, dv (strV (climb (ofB 2 [leaf]) (p.take (k + 1)))), dv (.int .i64 ((k + 1 : Nat) : Int))]) (t2 := [dv (strV root), slV tleaf nleaf kU8 leaf, dv (.int .i64 ((i.toNat : Nat) : Int)), dv (.int .i64 ((n.toNat : Nat) : Int)), slV tp np (k_api_Step false) p, aa, aa, aa, aa, aa, aa, ownV 0 kBool 0 (sidesN i.toNat n.toNat).length, dv (strV (ofB (3 : UInt8) [(p.getD k z_api_Step).f_Digest, (climb (ofB 2 [leaf]) (p.take k))])), dv (.int .i64 ((k + 1 : Nat) : Int))]) (h1 := [.live (arrK 4 kBool (sidesN i.toNat n.toNat))]) (h2 := [.live (arrK 4 kBool (sidesN i.toNat n.toNat))]) (by have e1 : ((climb (ofB 2 [leaf]) (p.take (k + 1))) : List UInt8) = (ofB (3 : UInt8) [(p.getD k z_api_Step).f_Digest, (climb (ofB 2 [leaf]) (p.take k))]) := (by (have h8 : (p.getD k z_api_Step).f_Left = (sidesN i.toNat n.toNat).getD k false := Classical.not_not.1 (by assumption); rw [climb_take (p := p) (k := k) _ (by omega), climb1]; first | (have h7 : (p.getD k z_api_Step).f_Left = true := (by first | assumption | exact h8.trans (by assumption)); rw [if_pos h7]) | (have h7 : (p.getD k z_api_Step).f_Left = false := (by first | assumption | exact h8.trans (by assumption)); rw [if_neg (by rw [h7]; decide)]))); have hE := congrArg (fun (q1 : List UInt8) => ([dv (strV root), slV tleaf nleaf kU8 leaf, dv (.int .i64 ((i.toNat : Nat) : Int)), dv (.int .i64 ((n.toNat : Nat) : Int)), slV tp np (k_api_Step false) p, aa, aa, aa, aa, aa, aa, ownV 0 kBool 0 (sidesN i.toNat n.toNat).length, dv (strV q1), dv (.int .i64 ((k + 1 : Nat) : Int))] : List AV)) e1; exact hE) rfl (by kernel_rfl) (by kernel_rfl) (by kernel_rfl) (by kernel_rfl) (by kernel_rfl) (by kernel_rfl) (by kernel_rfl) (by kernel_rfl) (by kernel_rfl) (by kernel_rfl) (by kernel_rfl) hG)
            · replace hq6 := Bool.eq_false_iff.2 hq6
              refine T.condF (b := ((sidesN i.toNat n.toNat).getD k false)) rfl hq6 ?_
              refine tR (s1 := ⟨[dv (strV root), slV tleaf nleaf kU8 leaf, dv (.int .i64 ((i.toNat : Nat) : Int)), dv (.int .i64 ((n.toNat : Nat) : Int)), slV tp np (k_api_Step false) p, aa, aa, aa, aa, aa, aa, ownV 0 kBool 0 (sidesN i.toNat n.toNat).length, dv (strV (ofB (3 : UInt8) [(climb (ofB 2 [leaf]) (p.take k)), (p.getD k z_api_Step).f_Digest])), dv (.int .i64 ((k : Nat) : Int)), aa, aa, aa, aa, aa, aa, aa, aa, aa, aa, aa, aa, aa, aa, aa, aa, aa, aa, aa, aa, dv (.bool (decide (((k : Nat) : Int) < ((p.length : Nat) : Int)))), aa, aa, aa, aa, aa, aa, aa, aa, aa, aa, aa, dv (.bool (decide ((p.getD k z_api_Step).f_Left ≠ ((sidesN i.toNat n.toNat).getD k false)))), aa, aa, aa, dv (.bool ((sidesN i.toNat n.toNat).getD k false))], [.live (arrK 4 kBool (sidesN i.toNat n.toNat))]⟩) (bm 51 1196285830903839) [true]
                (oC (oS rfl rfl (r_move (av := dv (strV (climb (ofB 2 [leaf]) (p.take k)))) (lt_of rfl) trivial))
                (oC (oS rfl rfl (r_move (av := slV tp np (k_api_Step false) p) (lt_of rfl) trivial))
                (oC (oS rfl rfl (r_move (av := dv (.int .i64 ((k : Nat) : Int))) (lt_of rfl) trivial))
                (oC (oS rfl rfl (q_index tp np (k_api_Step false) p k (k := .i64) (i := ((k : Nat) : Int)) Try.underlying42 iat_67 rfl rfl (by first | assumption | omega | (unfold maxLen; omega) | (simp [maxLen] <;> omega) | decide) (lt_of rfl) trivial))
                (oC (oS rfl rfl (r_fieldAddrE (tag := tp) (n := 2) (m := 1) (el := (k_api_Step false).cell (p.getD k (k_api_Step false).z)) fld_67_1 (by decide) (lt_of rfl) trivial))
                (oC (oS rfl rfl (r_loadE (tag := tp) (n := 1) (el := fun j_ => ((k_api_Step false).cell (p.getD k (k_api_Step false).z)) (1 + j_)) (e0 := .val (strV (p.getD k z_api_Step).f_Digest)) wide_22 (by decide) rfl (lt_of rfl) trivial))
                (oC (oS rfl rfl (r_call (ref02_Pair (3 : UInt8) (climb (ofB 2 [leaf]) (p.take k)) (p.getD k z_api_Step).f_Digest (by first | assumption | omega | (unfold maxLen; omega) | (simp [maxLen] <;> omega) | decide)) Try.func58 rfl (by decide) [] [] (l := [(.const (.int .u8 3), dv (.int .u8 3)), (.tmp 58, dv (strV (climb (ofB 2 [leaf]) (p.take k)))), (.tmp 63, dv (strV (p.getD k z_api_Step).f_Digest))]) [] rfl 0 0 rfl rfl rfl rfl rfl rfl rfl rfl rfl ⟨.inl ⟨rfl, rfl⟩, ⟨.inl ⟨rfl, rfl⟩, ⟨.inl ⟨rfl, rfl⟩, trivial⟩⟩⟩ rfl (fun b hb => by cases hb) (.inl rfl) (lt_of rfl) ⟨rfl, trivial⟩))
                (oC (oS rfl rfl (r_assign (av := dv (strV (ofB (3 : UInt8) [(climb (ofB 2 [leaf]) (p.take k)), (p.getD k z_api_Step).f_Digest]))) (lt_of rfl) trivial)) (oZ rfl)))))))))
                (by kernel_rfl) (by kernel_rfl) ?_
              refine nB ?_
              refine nT ?_
              refine tR (s1 := ⟨[dv (strV root), slV tleaf nleaf kU8 leaf, dv (.int .i64 ((i.toNat : Nat) : Int)), dv (.int .i64 ((n.toNat : Nat) : Int)), slV tp np (k_api_Step false) p, aa, aa, aa, aa, aa, aa, ownV 0 kBool 0 (sidesN i.toNat n.toNat).length, dv (strV (ofB (3 : UInt8) [(climb (ofB 2 [leaf]) (p.take k)), (p.getD k z_api_Step).f_Digest])), dv (.int .i64 ((k + 1 : Nat) : Int)), aa, aa, aa, aa, aa, aa, aa, aa, aa, aa, aa, aa, aa, aa, aa, aa, aa, aa, aa, aa, dv (.bool (decide (((k : Nat) : Int) < ((p.length : Nat) : Int)))), aa, aa, aa, aa, aa, aa, aa, aa, aa, aa, aa, dv (.bool (decide ((p.getD k z_api_Step).f_Left ≠ ((sidesN i.toNat n.toNat).getD k false)))), aa, aa, aa, dv (.bool ((sidesN i.toNat n.toNat).getD k false))], [.live (arrK 4 kBool (sidesN i.toNat n.toNat))]⟩) (bm 51 1196285830903839) [true]
                (oC (oS rfl rfl (r_move (av := dv (.int .i64 ((k : Nat) : Int))) (lt_of rfl) trivial))
                (oC (oS rfl rfl (r_bin (u1 := .int .i64 ((k : Nat) : Int)) (u2 := .int .i64 1) (v := .int .i64 ((k + 1 : Nat) : Int)) (b_add (by rw [IntKind.wrap_i64]; omega)) (lt_of rfl) ⟨rfl, trivial⟩))
                (oC (oS rfl rfl (r_assign (av := dv (.int .i64 ((k + 1 : Nat) : Int))) (lt_of rfl) trivial)) (oZ rfl))))
                (by kernel_rfl) (by kernel_rfl) ?_
              refine nL (k + 1) ⟨(show (k + 1) ≤ p.length from (by omega)), (show (sidesN i.toNat n.toNat).length = p.length from hsl), (show ∀ t, t < (k + 1) → (p.getD t z_api_Step).f_Left = (sidesN i.toNat n.toNat).getD t false from (all_succ hb (by first | assumption | exact Classical.not_not.1 (by assumption) | simp [*])))⟩ (show (p.length - (k + 1) : Nat) < p.length - k from (by omega)) (fun _ _ hG => Gs.into2 (s := ⟨[dv (strV root), slV tleaf nleaf kU8 leaf, dv (.int .i64 ((i.toNat : Nat) : Int)), dv (.int .i64 ((n.toNat : Nat) : Int)), slV tp np (k_api_Step false) p, aa, aa, aa, aa, aa, aa, ownV 0 kBool 0 (sidesN i.toNat n.toNat).length, dv (strV (ofB (3 : UInt8) [(climb (ofB 2 [leaf]) (p.take k)), (p.getD k z_api_Step).f_Digest])), dv (.int .i64 ((k + 1 : Nat) : Int)), aa, aa, aa, aa, aa, aa, aa, aa, aa, aa, aa, aa, aa, aa, aa, aa, aa, aa, aa, aa, dv (.bool (decide (((k : Nat) : Int) < ((p.length : Nat) : Int)))), aa, aa, aa, aa, aa, aa, aa, aa, aa, aa, aa, dv (.bool (decide ((p.getD k z_api_Step).f_Left ≠ ((sidesN i.toNat n.toNat).getD k false)))), aa, aa, aa, dv (.bool ((sidesN i.toNat n.toNat).getD k false))], [.live (arrK 4 kBool (sidesN i.toNat n.toNat))]⟩) (s' := ⟨[dv (strV root), slV tleaf nleaf kU8 leaf, dv (.int .i64 ((i.toNat : Nat) : Int)), dv (.int .i64 ((n.toNat : Nat) : Int)), slV tp np (k_api_Step false) p, aa, aa, aa, aa, aa, aa, ownV 0 kBool 0 (sidesN i.toNat n.toNat).length, dv (strV (climb (ofB 2 [leaf]) (p.take (k + 1)))), dv (.int .i64 ((k + 1 : Nat) : Int))], [.live (arrK 4 kBool (sidesN i.toNat n.toNat))]⟩) [0] (bm 14 14367) (t1 := [dv (strV root), slV tleaf nleaf kU8 leaf, dv (.int .i64 ((i.toNat : Nat) : Int)), dv (.int .i64 ((n.toNat : Nat) : Int)), slV tp np (k_api_Step false) p, aa, aa, aa, aa, aa, aa, ownV 0 kBool 0 (sidesN i.toNat n.toNat).length, dv (strV (climb (ofB 2 [leaf]) (p.take (k + 1)))), dv (.int .i64 ((k + 1 : Nat) : Int))]) (t2 := [dv (strV root), slV tleaf nleaf kU8 leaf, dv (.int .i64 ((i.toNat : Nat) : Int)), dv (.int .i64 ((n.toNat : Nat) : Int)), slV tp np (k_api_Step false) p, aa, aa, aa, aa, aa, aa, ownV 0 kBool 0 (sidesN i.toNat n.toNat).length, dv (strV (ofB (3 : UInt8) [(climb (ofB 2 [leaf]) (p.take k)), (p.getD k z_api_Step).f_Digest])), dv (.int .i64 ((k + 1 : Nat) : Int))]) (h1 := [.live (arrK 4 kBool (sidesN i.toNat n.toNat))]) (h2 := [.live (arrK 4 kBool (sidesN i.toNat n.toNat))]) (by have e1 : ((climb (ofB 2 [leaf]) (p.take (k + 1))) : List UInt8) = (ofB (3 : UInt8) [(climb (ofB 2 [leaf]) (p.take k)), (p.getD k z_api_Step).f_Digest]) := (by (have h8 : (p.getD k z_api_Step).f_Left = (sidesN i.toNat n.toNat).getD k false := Classical.not_not.1 (by assumption); rw [climb_take (p := p) (k := k) _ (by omega), climb1]; first | (have h7 : (p.getD k z_api_Step).f_Left = true := (by first | assumption | exact h8.trans (by assumption)); rw [if_pos h7]) | (have h7 : (p.getD k z_api_Step).f_Left = false := (by first | assumption | exact h8.trans (by assumption)); rw [if_neg (by rw [h7]; decide)]))); have hE := congrArg (fun (q1 : List UInt8) => ([dv (strV root), slV tleaf nleaf kU8 leaf, dv (.int .i64 ((i.toNat : Nat) : Int)), dv (.int .i64 ((n.toNat : Nat) : Int)), slV tp np (k_api_Step false) p, aa, aa, aa, aa, aa, aa, ownV 0 kBool 0 (sidesN i.toNat n.toNat).length, dv (strV q1), dv (.int .i64 ((k + 1 : Nat) : Int))] : List AV)) e1; exact hE) rfl (by kernel_rfl) (by kernel_rfl) (by kernel_rfl) (by kernel_rfl) (by kernel_rfl) (by kernel_rfl) (by kernel_rfl) (by kernel_rfl) (by kernel_rfl) (by kernel_rfl) (by kernel_rfl) hG)
        · refine T.condF (b := (decide (((k : Nat) : Int) < ((p.length : Nat) : Int)))) rfl (decide_eq_false hq4) ?_
          refine T.exit ?_
          refine xT ?_
          refine xT ?_
          refine xH ?_
          refine nT ?_
          refine T.seq ?_
          refine T.seq ?_
          refine tR (s1 := ⟨[dv (strV root), slV tleaf nleaf kU8 leaf, dv (.int .i64 ((i.toNat : Nat) : Int)), dv (.int .i64 ((n.toNat : Nat) : Int)), slV tp np (k_api_Step false) p, aa, aa, aa, aa, aa, aa, ownV 0 kBool 0 (sidesN i.toNat n.toNat).length, dv (strV (climb (ofB 2 [leaf]) (p.take k))), dv (.int .i64 ((k : Nat) : Int)), aa, aa, aa, aa, aa, aa, aa, aa, aa, aa, aa, aa, aa, aa, aa, aa, aa, aa, aa, aa, dv (.bool (decide (((k : Nat) : Int) < ((p.length : Nat) : Int)))), aa, aa, aa, aa, aa, aa, aa, aa, aa, aa, aa, aa, aa, aa, aa, aa, aa, aa, aa, aa, aa, aa, aa, aa, aa, aa, aa, aa, aa, aa, aa, aa, dv (.bool (decide ((climb (ofB 2 [leaf]) (p.take k)) ≠ root)))], [.live (arrK 4 kBool (sidesN i.toNat n.toNat))]⟩) (bm 68 147573952606856296479) [true]
            (oC (oS rfl rfl (r_move (av := dv (strV (climb (ofB 2 [leaf]) (p.take k)))) (lt_of rfl) trivial))
            (oC (oS rfl rfl (r_move (av := dv (strV root)) (lt_of rfl) trivial))
            (oC (oS rfl rfl (r_bin (u1 := strV (climb (ofB 2 [leaf]) (p.take k))) (u2 := strV root) (v := .bool (decide ((climb (ofB 2 [leaf]) (p.take k)) ≠ root))) b_neqS (lt_of rfl) trivial)) (oZ rfl))))
            (by kernel_rfl) (by kernel_rfl) ?_
          refine nT ?_
          by_cases hq7 : (climb (ofB 2 [leaf]) (p.take k)) ≠ root
          · refine T.condT (b := (decide ((climb (ofB 2 [leaf]) (p.take k)) ≠ root))) rfl (decide_eq_true hq7) ?_
            refine T.seq ?_
            refine tR (s1 := ⟨[dv (strV root), slV tleaf nleaf kU8 leaf, dv (.int .i64 ((i.toNat : Nat) : Int)), dv (.int .i64 ((n.toNat : Nat) : Int)), slV tp np (k_api_Step false) p, aa, aa, aa, aa, aa, dv (.int .i64 90), ownV 0 kBool 0 (sidesN i.toNat n.toNat).length, dv (strV (climb (ofB 2 [leaf]) (p.take k))), dv (.int .i64 ((k : Nat) : Int)), aa, aa, aa, aa, aa, aa, aa, aa, aa, aa, aa, aa, aa, aa, aa, aa, aa, aa, aa, aa, dv (.bool (decide (((k : Nat) : Int) < ((p.length : Nat) : Int)))), aa, aa, aa, aa, aa, aa, aa, aa, aa, aa, aa, aa, aa, aa, aa, aa, aa, aa, aa, aa, aa, aa, aa, aa, aa, aa, aa, aa, aa, aa, aa, aa, dv (.bool (decide ((climb (ofB 2 [leaf]) (p.take k)) ≠ root)))], [.live (arrK 4 kBool (sidesN i.toNat n.toNat))]⟩) (bm 68 147573952606856297503) [true]
              (oC (oS rfl rfl (r_assign (av := dv (.int .i64 90)) (lt_of rfl) ⟨rfl, trivial⟩)) (oZ rfl))
              (by kernel_rfl) (by kernel_rfl) ?_
            refine nT ?_
            refine T.ret ?_
            refine rT ?_
            exact tE (.inl rfl) [.t 10 (.one (.d (.val (.int .i64 90))))] ⟨⟨rfl, rfl⟩, trivial⟩ [] (by have e1 : ((checkM root leaf i n p) : Int) = 90 := (by first | rfl | exact chk_range (by omega) | exact chk_len (by omega) (by omega) | exact chk_at (p := p) (k := k) (by omega) (by omega) (by assumption) | exact (chk_range (by omega)).symm | exact (chk_len (by omega) (by omega)).symm | exact (chk_at (p := p) (k := k) (by omega) (by omega) (by assumption)).symm | (rw [chk_end (root := root) (leaf := leaf) (k := k) (by omega) hsl (by omega) hb]; simp [*]; done)); have hE := congrArg (fun (q1 : Int) => (dv (.int .i64 q1) : AV)) e1; exact hE) rfl rfl rfl rfl rfl trivial
          · refine T.condF (b := (decide ((climb (ofB 2 [leaf]) (p.take k)) ≠ root))) rfl (decide_eq_false hq7) ?_
            refine T.skip ?_
            refine nT ?_
            refine T.seq ?_
            refine tR (s1 := ⟨[dv (strV root), slV tleaf nleaf kU8 leaf, dv (.int .i64 ((i.toNat : Nat) : Int)), dv (.int .i64 ((n.toNat : Nat) : Int)), slV tp np (k_api_Step false) p, aa, aa, aa, aa, aa, dv (.int .i64 0), ownV 0 kBool 0 (sidesN i.toNat n.toNat).length, dv (strV (climb (ofB 2 [leaf]) (p.take k))), dv (.int .i64 ((k : Nat) : Int)), aa, aa, aa, aa, aa, aa, aa, aa, aa, aa, aa, aa, aa, aa, aa, aa, aa, aa, aa, aa, dv (.bool (decide (((k : Nat) : Int) < ((p.length : Nat) : Int)))), aa, aa, aa, aa, aa, aa, aa, aa, aa, aa, aa, aa, aa, aa, aa, aa, aa, aa, aa, aa, aa, aa, aa, aa, aa, aa, aa, aa, aa, aa, aa, aa, dv (.bool (decide ((climb (ofB 2 [leaf]) (p.take k)) ≠ root)))], [.live (arrK 4 kBool (sidesN i.toNat n.toNat))]⟩) (bm 68 147573952606856297503) [true]
              (oC (oS rfl rfl (r_assign (av := dv (.int .i64 0)) (lt_of rfl) ⟨rfl, trivial⟩)) (oZ rfl))
              (by kernel_rfl) (by kernel_rfl) ?_
            refine nT ?_
            refine T.ret ?_
            exact tE (.inl rfl) [.t 10 (.one (.d (.val (.int .i64 0))))] ⟨⟨rfl, rfl⟩, trivial⟩ [] (by have e1 : ((checkM root leaf i n p) : Int) = 0 := (by first | rfl | exact chk_range (by omega) | exact chk_len (by omega) (by omega) | exact chk_at (p := p) (k := k) (by omega) (by omega) (by assumption) | exact (chk_range (by omega)).symm | exact (chk_len (by omega) (by omega)).symm | exact (chk_at (p := p) (k := k) (by omega) (by omega) (by assumption)).symm | (rw [chk_end (root := root) (leaf := leaf) (k := k) (by omega) hsl (by omega) hb]; simp [*]; done)); have hE := congrArg (fun (q1 : Int) => (dv (.int .i64 q1) : AV)) e1; exact hE) rfl rfl rfl rfl rfl trivial
end Go.Proofs.Ytacikihlgpnjhaa.Q
