import Derived.Test.YtcpdbbabbnbghaaC09n6
namespace Go.Proofs.Ytcpdbbabbnbghaa.Q
open Go Go.RowKit
set_option linter.unusedVariables false
set_option linter.unusedSimpArgs false
set_option maxRecDepth 100000
set_option maxHeartbeats 4000000
-- quaestor/quaestorref09.Check
theorem ref09_Check (root : List UInt8) (tleaf : Bool) (nleaf : Bool) (leaf : List UInt8) (i : Int) (n : Int) (tp : Bool) (np : Bool) (p : List api_Step) (hp : fewG szS 70 10000 p) (hl : leaf.length ≤ 200) (hn : n ≤ 9223372036854775807) : Holds Try.prog 19 ⟨[dv (strV root), slV tleaf nleaf kU8 leaf, dv (.int .i64 i), dv (.int .i64 n), slV tp np (k_api_Step false) p], [], dv (.int .i64 (checkM root leaf i n p)), []⟩ := by
  refine Holds.of Try.func19 rfl (N := 68) Try.ntmps19 rfl fun w0 B0 S0 U0 => ?_
  show T _ (mkBase 68 0 w0 S0 U0 B0) ⟨[dv (strV root), slV tleaf nleaf kU8 leaf, dv (.int .i64 i), dv (.int .i64 n), slV tp np (k_api_Step false) p], []⟩ _ _
  have hp70 := hp.1
  refine T.seq ?_
  refine tR (s1 := ⟨[dv (strV root), slV tleaf nleaf kU8 leaf, dv (.int .i64 i), dv (.int .i64 n), slV tp np (k_api_Step false) p, AV.any, AV.any, AV.any, AV.any, AV.any, dv (.int .i64 0)], []⟩) [true, true, true, true, true, false, false, false, false, false, true] []
    (oC (oS rfl rfl (r_assign (av := dv (.int .i64 0)) (lt_of rfl) ⟨rfl, trivial⟩)) (oZ rfl))
    (by kernel_rfl) (by kernel_rfl) ?_
  refine nT ?_
  refine T.seq ?_
  refine T.seq ?_
  by_cases hq1 : i < 0
  · refine tR (s1 := ⟨[dv (strV root), slV tleaf nleaf kU8 leaf, dv (.int .i64 i), dv (.int .i64 n), slV tp np (k_api_Step false) p, AV.any, AV.any, AV.any, AV.any, AV.any, dv (.int .i64 0), AV.any, AV.any, AV.any, AV.any, AV.any, AV.any, AV.any, AV.any, AV.any, dv (.bool true)], []⟩) [true, true, true, true, true, false, false, false, false, false, true, false, false, false, false, false, false, false, false, false, true] []
      (oC (oS rfl rfl (r_move (av := dv (.int .i64 i)) (lt_of rfl) trivial))
      (oC (oS rfl rfl (r_bin (u1 := .int .i64 i) (u2 := .int .i64 0) (v := .bool (decide (i < 0))) b_lss (lt_of rfl) ⟨rfl, trivial⟩))
      (oC (oS rfl rfl (r_move (av := dv (.bool (decide (i < 0)))) (lt_of rfl) trivial))
      (oC (oN (b := (decide (i < 0))) rfl rfl rfl rfl (lt_of rfl) (decide_eq_true hq1) rfl (lt_of rfl))
      (oC (oN (b := (decide (i < 0))) rfl rfl rfl rfl (lt_of rfl) (decide_eq_true hq1) rfl (lt_of rfl))
      (oC (oN (b := (decide (i < 0))) rfl rfl rfl rfl (lt_of rfl) (decide_eq_true hq1) rfl (lt_of rfl))
      (oC (oS rfl rfl (r_pickT (b := (decide (i < 0))) (av := dv (.bool true)) (lt_of rfl) ⟨rfl, trivial⟩ (decide_eq_true hq1))) (oZ rfl))))))))
      (by kernel_rfl) (by kernel_rfl) ?_
    refine nT ?_
    refine T.condT (b := true) rfl rfl ?_
    refine T.seq ?_
    refine tR (s1 := ⟨[dv (strV root), slV tleaf nleaf kU8 leaf, dv (.int .i64 i), dv (.int .i64 n), slV tp np (k_api_Step false) p, AV.any, AV.any, AV.any, AV.any, AV.any, dv (.int .i64 2), AV.any, AV.any, AV.any, AV.any, AV.any, AV.any, AV.any, AV.any, AV.any, dv (.bool true)], []⟩) [true, true, true, true, true, false, false, false, false, false, true, false, false, false, false, false, false, false, false, false, true] []
      (oC (oS rfl rfl (r_assign (av := dv (.int .i64 2)) (lt_of rfl) ⟨rfl, trivial⟩)) (oZ rfl))
      (by kernel_rfl) (by kernel_rfl) ?_
    refine nT ?_
    refine T.ret ?_
    refine rT ?_
    exact tE (.inl rfl) [.t 10 (.one (.d (.val (.int .i64 2))))] ⟨⟨rfl, rfl⟩, trivial⟩ [] (by have e1 : ((checkM root leaf i n p) : Int) = 2 := (by first | rfl | exact chk_range (by omega) | exact chk_len (by omega) (by omega) | exact chk_at (p := p) (k := k) (by omega) (by omega) (by assumption) | exact (chk_range (by omega)).symm | exact (chk_len (by omega) (by omega)).symm | exact (chk_at (p := p) (k := k) (by omega) (by omega) (by assumption)).symm | (rw [chk_end (root := root) (leaf := leaf) (k := k) (by omega) hsl (by omega) hb]; simp [*]; done)); have hE := congrArg (fun (q1 : Int) => (dv (.int .i64 q1) : AV)) e1; exact hE) rfl rfl rfl rfl rfl trivial
  · refine tR (s1 := ⟨[dv (strV root), slV tleaf nleaf kU8 leaf, dv (.int .i64 i), dv (.int .i64 n), slV tp np (k_api_Step false) p, AV.any, AV.any, AV.any, AV.any, AV.any, dv (.int .i64 0), AV.any, AV.any, AV.any, AV.any, AV.any, AV.any, AV.any, AV.any, AV.any, dv (.bool (decide (i ≥ n)))], []⟩) [true, true, true, true, true, false, false, false, false, false, true, false, false, false, false, false, false, false, false, false, true] []
      (oC (oS rfl rfl (r_move (av := dv (.int .i64 i)) (lt_of rfl) trivial))
      (oC (oS rfl rfl (r_bin (u1 := .int .i64 i) (u2 := .int .i64 0) (v := .bool (decide (i < 0))) b_lss (lt_of rfl) ⟨rfl, trivial⟩))
      (oC (oS rfl rfl (r_move (av := dv (.bool (decide (i < 0)))) (lt_of rfl) trivial))
      (oC (oY (b := (decide (i < 0))) rfl rfl rfl rfl (lt_of rfl) (decide_eq_false hq1) (r_move (av := dv (.int .i64 i)) (lt_of rfl) trivial))
      (oC (oY (b := (decide (i < 0))) rfl rfl rfl rfl (lt_of rfl) (decide_eq_false hq1) (r_move (av := dv (.int .i64 n)) (lt_of rfl) trivial))
      (oC (oY (b := (decide (i < 0))) rfl rfl rfl rfl (lt_of rfl) (decide_eq_false hq1) (r_bin (u1 := .int .i64 i) (u2 := .int .i64 n) (v := .bool (decide (i ≥ n))) b_geq (lt_of rfl) trivial))
      (oC (oS rfl rfl (r_pickF (b := (decide (i < 0))) (av := dv (.bool (decide (i ≥ n)))) (lt_of rfl) trivial (decide_eq_false hq1))) (oZ rfl))))))))
      (by kernel_rfl) (by kernel_rfl) ?_
    refine nT ?_
    by_cases hq2 : i ≥ n
    · refine T.condT (b := (decide (i ≥ n))) rfl (decide_eq_true hq2) ?_
      refine T.seq ?_
      refine tR (s1 := ⟨[dv (strV root), slV tleaf nleaf kU8 leaf, dv (.int .i64 i), dv (.int .i64 n), slV tp np (k_api_Step false) p, AV.any, AV.any, AV.any, AV.any, AV.any, dv (.int .i64 2), AV.any, AV.any, AV.any, AV.any, AV.any, AV.any, AV.any, AV.any, AV.any, dv (.bool (decide (i ≥ n)))], []⟩) [true, true, true, true, true, false, false, false, false, false, true, false, false, false, false, false, false, false, false, false, true] []
        (oC (oS rfl rfl (r_assign (av := dv (.int .i64 2)) (lt_of rfl) ⟨rfl, trivial⟩)) (oZ rfl))
        (by kernel_rfl) (by kernel_rfl) ?_
      refine nT ?_
      refine T.ret ?_
      refine rT ?_
      exact tE (.inl rfl) [.t 10 (.one (.d (.val (.int .i64 2))))] ⟨⟨rfl, rfl⟩, trivial⟩ [] (by have e1 : ((checkM root leaf i n p) : Int) = 2 := (by first | rfl | exact chk_range (by omega) | exact chk_len (by omega) (by omega) | exact chk_at (p := p) (k := k) (by omega) (by omega) (by assumption) | exact (chk_range (by omega)).symm | exact (chk_len (by omega) (by omega)).symm | exact (chk_at (p := p) (k := k) (by omega) (by omega) (by assumption)).symm | (rw [chk_end (root := root) (leaf := leaf) (k := k) (by omega) hsl (by omega) hb]; simp [*]; done)); have hE := congrArg (fun (q1 : Int) => (dv (.int .i64 q1) : AV)) e1; exact hE) rfl rfl rfl rfl rfl trivial
    · refine T.condF (b := (decide (i ≥ n))) rfl (decide_eq_false hq2) ?_
      refine T.skip ?_
      refine nT ?_
      refine T.seq ?_
      refine T.turn (s' := ⟨[dv (strV root), slV tleaf nleaf kU8 leaf, dv (.int .i64 ((i.toNat : Nat) : Int)), dv (.int .i64 ((n.toNat : Nat) : Int)), slV tp np (k_api_Step false) p, AV.any, AV.any, AV.any, AV.any, AV.any, dv (.int .i64 0), AV.any, AV.any, AV.any, AV.any, AV.any, AV.any, AV.any, AV.any, AV.any, dv (.bool (decide (i ≥ n)))], []⟩) (fun _ _ hG => Gs.into2 (s := ⟨[dv (strV root), slV tleaf nleaf kU8 leaf, dv (.int .i64 i), dv (.int .i64 n), slV tp np (k_api_Step false) p, AV.any, AV.any, AV.any, AV.any, AV.any, dv (.int .i64 0), AV.any, AV.any, AV.any, AV.any, AV.any, AV.any, AV.any, AV.any, AV.any, dv (.bool (decide (i ≥ n)))], []⟩) (s' := ⟨[dv (strV root), slV tleaf nleaf kU8 leaf, dv (.int .i64 ((i.toNat : Nat) : Int)), dv (.int .i64 ((n.toNat : Nat) : Int)), slV tp np (k_api_Step false) p, AV.any, AV.any, AV.any, AV.any, AV.any, dv (.int .i64 0), AV.any, AV.any, AV.any, AV.any, AV.any, AV.any, AV.any, AV.any, AV.any, dv (.bool (decide (i ≥ n)))], []⟩) [] [true, true, true, true, true, false, false, false, false, false, true, false, false, false, false, false, false, false, false, false, true] (t1 := [dv (strV root), slV tleaf nleaf kU8 leaf, dv (.int .i64 ((i.toNat : Nat) : Int)), dv (.int .i64 ((n.toNat : Nat) : Int)), slV tp np (k_api_Step false) p, AV.any, AV.any, AV.any, AV.any, AV.any, dv (.int .i64 0), AV.any, AV.any, AV.any, AV.any, AV.any, AV.any, AV.any, AV.any, AV.any, dv (.bool (decide (i ≥ n)))]) (t2 := [dv (strV root), slV tleaf nleaf kU8 leaf, dv (.int .i64 i), dv (.int .i64 n), slV tp np (k_api_Step false) p, AV.any, AV.any, AV.any, AV.any, AV.any, dv (.int .i64 0), AV.any, AV.any, AV.any, AV.any, AV.any, AV.any, AV.any, AV.any, AV.any, dv (.bool (decide (i ≥ n)))]) (h1 := []) (h2 := []) (by have e1 : (((i.toNat : Nat) : Int) : Int) = i := (by omega); have e2 : (((n.toNat : Nat) : Int) : Int) = n := (by omega); have hE := congr (congrArg (fun (q1 : Int) (q2 : Int) => ([dv (strV root), slV tleaf nleaf kU8 leaf, dv (.int .i64 q1), dv (.int .i64 q2), slV tp np (k_api_Step false) p, AV.any, AV.any, AV.any, AV.any, AV.any, dv (.int .i64 0), AV.any, AV.any, AV.any, AV.any, AV.any, AV.any, AV.any, AV.any, AV.any, dv (.bool (decide (i ≥ n)))] : List AV)) e1) e2; exact hE) rfl (by kernel_rfl) (by kernel_rfl) (by kernel_rfl) (by kernel_rfl) (by kernel_rfl) (by kernel_rfl) (by kernel_rfl) (by kernel_rfl) (by kernel_rfl) (by kernel_rfl) (by kernel_rfl) hG) ?_
      refine tR (s1 := ⟨[dv (strV root), slV tleaf nleaf kU8 leaf, dv (.int .i64 ((i.toNat : Nat) : Int)), dv (.int .i64 ((n.toNat : Nat) : Int)), slV tp np (k_api_Step false) p, AV.any, AV.any, AV.any, AV.any, AV.any, dv (.int .i64 0), ownV 0 kBool 0 (sidesN i.toNat n.toNat).length, AV.any, AV.any, AV.any, AV.any, AV.any, AV.any, AV.any, AV.any, dv (.bool (decide (i ≥ n)))], [.live (arrK 4 kBool (sidesN i.toNat n.toNat))]⟩) [true, true, true, true, true, false, false, false, false, false, true, true, false, false, false, false, false, false, false, false, true] [true]
        (oC (oS rfl rfl (r_move (av := dv (.int .i64 ((i.toNat : Nat) : Int))) (lt_of rfl) trivial))
        (oC (oS rfl rfl (r_move (av := dv (.int .i64 ((n.toNat : Nat) : Int))) (lt_of rfl) trivial))
        (oC (oS rfl rfl (r_call (ref09_sides i.toNat n.toNat (by first | assumption | omega | (simp only [maxLen, kU8_sz, kSl_sz, k_api_Step_sz, k_quaestorlaw09_Claim_sz]; omega) | (simp only [maxLen, kU8_sz, kSl_sz, k_api_Step_sz, k_quaestorlaw09_Claim_sz, List.length_append, List.length_cons, List.length_nil, List.length_take, List.length_drop, List.length_set]; omega) | decide) (by first | assumption | omega | (simp only [maxLen, kU8_sz, kSl_sz, k_api_Step_sz, k_quaestorlaw09_Claim_sz]; omega) | (simp only [maxLen, kU8_sz, kSl_sz, k_api_Step_sz, k_quaestorlaw09_Claim_sz, List.length_append, List.length_cons, List.length_nil, List.length_take, List.length_drop, List.length_set]; omega) | decide)) Try.func32 rfl (by decide) [0] [] (l := [(.tmp 21, dv (.int .i64 ((i.toNat : Nat) : Int))), (.tmp 22, dv (.int .i64 ((n.toNat : Nat) : Int)))]) [] rfl 0 1 rfl rfl rfl rfl rfl rfl rfl rfl rfl ⟨.inl ⟨rfl, rfl⟩, ⟨.inl ⟨rfl, rfl⟩, trivial⟩⟩ rfl (fun b hb => by cases hb) (.inl rfl) (lt_of rfl) trivial))
        (oC (oS rfl rfl (r_assign (av := ownV 0 kBool 0 (sidesN i.toNat n.toNat).length) (lt_of rfl) trivial)) (oZ rfl)))))
        (by kernel_rfl) (by kernel_rfl) ?_
      refine nT ?_
      refine T.seq ?_
      refine T.seq ?_
      refine tR (s1 := ⟨[dv (strV root), slV tleaf nleaf kU8 leaf, dv (.int .i64 ((i.toNat : Nat) : Int)), dv (.int .i64 ((n.toNat : Nat) : Int)), slV tp np (k_api_Step false) p, AV.any, AV.any, AV.any, AV.any, AV.any, dv (.int .i64 0), ownV 0 kBool 0 (sidesN i.toNat n.toNat).length, AV.any, AV.any, AV.any, AV.any, AV.any, AV.any, AV.any, AV.any, dv (.bool (decide (i ≥ n))), AV.any, AV.any, AV.any, AV.any, AV.any, AV.any, AV.any, dv (.bool (decide ((((sidesN i.toNat n.toNat).length : Nat) : Int) ≠ ((p.length : Nat) : Int))))], [.live (arrK 4 kBool (sidesN i.toNat n.toNat))]⟩) [true, true, true, true, true, false, false, false, false, false, true, true, false, false, false, false, false, false, false, false, true, false, false, false, false, false, false, false, true] [true]
        (oC (oS rfl rfl (r_move (av := ownV 0 kBool 0 (sidesN i.toNat n.toNat).length) (lt_of rfl) trivial))
        (oC (oS rfl rfl (r_lenO (l := 0) (sz := kBool.sz) (off := 0) (n := (sidesN i.toNat n.toNat).length) Try.underlying50 (lt_of rfl) trivial))
        (oC (oS rfl rfl (r_move (av := slV tp np (k_api_Step false) p) (lt_of rfl) trivial))
        (oC (oS rfl rfl (q_len tp np (k_api_Step false) p Try.underlying27 (lt_of rfl) trivial))
        (oC (oS rfl rfl (r_bin (u1 := .int .i64 (((sidesN i.toNat n.toNat).length : Nat) : Int)) (u2 := .int .i64 ((p.length : Nat) : Int)) (v := .bool (decide ((((sidesN i.toNat n.toNat).length : Nat) : Int) ≠ ((p.length : Nat) : Int)))) b_neq (lt_of rfl) trivial)) (oZ rfl))))))
        (by kernel_rfl) (by kernel_rfl) ?_
      refine nT ?_
      by_cases hq3 : (((sidesN i.toNat n.toNat).length : Nat) : Int) ≠ ((p.length : Nat) : Int)
      · refine T.condT (b := (decide ((((sidesN i.toNat n.toNat).length : Nat) : Int) ≠ ((p.length : Nat) : Int)))) rfl (decide_eq_true hq3) ?_
        refine T.seq ?_
        refine tR (s1 := ⟨[dv (strV root), slV tleaf nleaf kU8 leaf, dv (.int .i64 ((i.toNat : Nat) : Int)), dv (.int .i64 ((n.toNat : Nat) : Int)), slV tp np (k_api_Step false) p, AV.any, AV.any, AV.any, AV.any, AV.any, dv (.int .i64 90), ownV 0 kBool 0 (sidesN i.toNat n.toNat).length, AV.any, AV.any, AV.any, AV.any, AV.any, AV.any, AV.any, AV.any, dv (.bool (decide (i ≥ n))), AV.any, AV.any, AV.any, AV.any, AV.any, AV.any, AV.any, dv (.bool (decide ((((sidesN i.toNat n.toNat).length : Nat) : Int) ≠ ((p.length : Nat) : Int))))], [.live (arrK 4 kBool (sidesN i.toNat n.toNat))]⟩) [true, true, true, true, true, false, false, false, false, false, true, true, false, false, false, false, false, false, false, false, true, false, false, false, false, false, false, false, true] [true]
          (oC (oS rfl rfl (r_assign (av := dv (.int .i64 90)) (lt_of rfl) ⟨rfl, trivial⟩)) (oZ rfl))
          (by kernel_rfl) (by kernel_rfl) ?_
        refine nT ?_
        refine T.ret ?_
        refine rT ?_
        exact tE (.inl rfl) [.t 10 (.one (.d (.val (.int .i64 90))))] ⟨⟨rfl, rfl⟩, trivial⟩ [] (by have e1 : ((checkM root leaf i n p) : Int) = 90 := (by first | rfl | exact chk_range (by omega) | exact chk_len (by omega) (by omega) | exact chk_at (p := p) (k := k) (by omega) (by omega) (by assumption) | exact (chk_range (by omega)).symm | exact (chk_len (by omega) (by omega)).symm | exact (chk_at (p := p) (k := k) (by omega) (by omega) (by assumption)).symm | (rw [chk_end (root := root) (leaf := leaf) (k := k) (by omega) hsl (by omega) hb]; simp [*]; done)); have hE := congrArg (fun (q1 : Int) => (dv (.int .i64 q1) : AV)) e1; exact hE) rfl rfl rfl rfl rfl trivial
      · refine T.condF (b := (decide ((((sidesN i.toNat n.toNat).length : Nat) : Int) ≠ ((p.length : Nat) : Int)))) rfl (decide_eq_false hq3) ?_
        refine T.skip ?_
        refine nT ?_
        refine T.seq ?_
        refine tR (s1 := ⟨[dv (strV root), slV tleaf nleaf kU8 leaf, dv (.int .i64 ((i.toNat : Nat) : Int)), dv (.int .i64 ((n.toNat : Nat) : Int)), slV tp np (k_api_Step false) p, AV.any, AV.any, AV.any, AV.any, AV.any, dv (.int .i64 0), ownV 0 kBool 0 (sidesN i.toNat n.toNat).length, dv (strV (ofB (2 : UInt8) [leaf])), AV.any, AV.any, AV.any, AV.any, AV.any, AV.any, AV.any, dv (.bool (decide (i ≥ n))), AV.any, AV.any, AV.any, AV.any, AV.any, AV.any, AV.any, dv (.bool (decide ((((sidesN i.toNat n.toNat).length : Nat) : Int) ≠ ((p.length : Nat) : Int))))], [.live (arrK 4 kBool (sidesN i.toNat n.toNat))]⟩) [true, true, true, true, true, false, false, false, false, false, true, true, true, false, false, false, false, false, false, false, true, false, false, false, false, false, false, false, true] [true]
          (oC (oS rfl rfl (r_move (av := slV tleaf nleaf kU8 leaf) (lt_of rfl) trivial))
          (oC (oS rfl rfl (r_call (ref02_Leaf (2 : UInt8) tleaf nleaf leaf (by first | assumption | omega | (simp only [maxLen, kU8_sz, kSl_sz, k_api_Step_sz, k_quaestorlaw09_Claim_sz]; omega) | (simp only [maxLen, kU8_sz, kSl_sz, k_api_Step_sz, k_quaestorlaw09_Claim_sz, List.length_append, List.length_cons, List.length_nil, List.length_take, List.length_drop, List.length_set]; omega) | decide)) Try.func26 rfl (by decide) [] [] (l := [(.const (.int .u8 2), dv (.int .u8 2)), (.tmp 29, slV tleaf nleaf kU8 leaf)]) [] rfl 0 0 rfl rfl rfl rfl rfl rfl rfl rfl rfl ⟨.inl ⟨rfl, rfl⟩, ⟨.inl ⟨rfl, rfl⟩, trivial⟩⟩ rfl (fun b hb => by cases hb) (.inl rfl) (lt_of rfl) ⟨rfl, trivial⟩))
          (oC (oS rfl rfl (r_assign (av := dv (strV (ofB (2 : UInt8) [leaf]))) (lt_of rfl) trivial)) (oZ rfl))))
          (by kernel_rfl) (by kernel_rfl) ?_
        refine nT ?_
        refine T.seq ?_
        refine T.seq ?_
        refine tR (s1 := ⟨[dv (strV root), slV tleaf nleaf kU8 leaf, dv (.int .i64 ((i.toNat : Nat) : Int)), dv (.int .i64 ((n.toNat : Nat) : Int)), slV tp np (k_api_Step false) p, AV.any, AV.any, AV.any, AV.any, AV.any, dv (.int .i64 0), ownV 0 kBool 0 (sidesN i.toNat n.toNat).length, dv (strV (ofB (2 : UInt8) [leaf])), dv (.int .i64 0), AV.any, AV.any, AV.any, AV.any, AV.any, AV.any, dv (.bool (decide (i ≥ n))), AV.any, AV.any, AV.any, AV.any, AV.any, AV.any, AV.any, dv (.bool (decide ((((sidesN i.toNat n.toNat).length : Nat) : Int) ≠ ((p.length : Nat) : Int))))], [.live (arrK 4 kBool (sidesN i.toNat n.toNat))]⟩) [true, true, true, true, true, false, false, false, false, false, true, true, true, true, false, false, false, false, false, false, true, false, false, false, false, false, false, false, true] [true]
          (oC (oS rfl rfl (r_assign (av := dv (.int .i64 0)) (lt_of rfl) ⟨rfl, trivial⟩)) (oZ rfl))
          (by kernel_rfl) (by kernel_rfl) ?_
        refine nT ?_
        refine T.block ?_
        refine T.loop (ι := Nat) (fun (k : Nat) => ⟨[dv (strV root), slV tleaf nleaf kU8 leaf, dv (.int .i64 ((i.toNat : Nat) : Int)), dv (.int .i64 ((n.toNat : Nat) : Int)), slV tp np (k_api_Step false) p, AV.any, AV.any, AV.any, AV.any, AV.any, AV.any, ownV 0 kBool 0 (sidesN i.toNat n.toNat).length, dv (strV (climb (ofB 2 [leaf]) (p.take k))), dv (.int .i64 ((k : Nat) : Int))], [.live (arrK 4 kBool (sidesN i.toNat n.toNat))]⟩) (fun (k : Nat) => (k ≤ p.length) ∧ ((sidesN i.toNat n.toNat).length = p.length) ∧ (∀ t, t < k → (p.getD t z_api_Step).f_Left = (sidesN i.toNat n.toNat).getD t false)) (fun (k : Nat) => p.length - k) (0) ⟨(Nat.zero_le _), (by omega), (fun j hj => absurd hj (Nat.not_lt_zero _))⟩ (fun _ _ hG => Gs.into2 (s := ⟨[dv (strV root), slV tleaf nleaf kU8 leaf, dv (.int .i64 ((i.toNat : Nat) : Int)), dv (.int .i64 ((n.toNat : Nat) : Int)), slV tp np (k_api_Step false) p, AV.any, AV.any, AV.any, AV.any, AV.any, dv (.int .i64 0), ownV 0 kBool 0 (sidesN i.toNat n.toNat).length, dv (strV (ofB (2 : UInt8) [leaf])), dv (.int .i64 0), AV.any, AV.any, AV.any, AV.any, AV.any, AV.any, dv (.bool (decide (i ≥ n))), AV.any, AV.any, AV.any, AV.any, AV.any, AV.any, AV.any, dv (.bool (decide ((((sidesN i.toNat n.toNat).length : Nat) : Int) ≠ ((p.length : Nat) : Int))))], [.live (arrK 4 kBool (sidesN i.toNat n.toNat))]⟩) (s' := ⟨[dv (strV root), slV tleaf nleaf kU8 leaf, dv (.int .i64 ((i.toNat : Nat) : Int)), dv (.int .i64 ((n.toNat : Nat) : Int)), slV tp np (k_api_Step false) p, AV.any, AV.any, AV.any, AV.any, AV.any, AV.any, ownV 0 kBool 0 (sidesN i.toNat n.toNat).length, dv (strV (climb (ofB 2 [leaf]) (p.take 0))), dv (.int .i64 0)], [.live (arrK 4 kBool (sidesN i.toNat n.toNat))]⟩) [0] [true, true, true, true, true, false, false, false, false, false, false, true, true, true] (t1 := [dv (strV root), slV tleaf nleaf kU8 leaf, dv (.int .i64 ((i.toNat : Nat) : Int)), dv (.int .i64 ((n.toNat : Nat) : Int)), slV tp np (k_api_Step false) p, AV.any, AV.any, AV.any, AV.any, AV.any, AV.any, ownV 0 kBool 0 (sidesN i.toNat n.toNat).length, dv (strV (climb (ofB 2 [leaf]) (p.take 0))), dv (.int .i64 0)]) (t2 := [dv (strV root), slV tleaf nleaf kU8 leaf, dv (.int .i64 ((i.toNat : Nat) : Int)), dv (.int .i64 ((n.toNat : Nat) : Int)), slV tp np (k_api_Step false) p, AV.any, AV.any, AV.any, AV.any, AV.any, AV.any, ownV 0 kBool 0 (sidesN i.toNat n.toNat).length, dv (strV (ofB (2 : UInt8) [leaf])), dv (.int .i64 0)]) (h1 := [.live (arrK 4 kBool (sidesN i.toNat n.toNat))]) (h2 := [.live (arrK 4 kBool (sidesN i.toNat n.toNat))]) (by have e1 : ((climb (ofB 2 [leaf]) (p.take 0)) : List UInt8) = (ofB (2 : UInt8) [leaf]) := (by rfl); have hE := congrArg (fun (q1 : List UInt8) => ([dv (strV root), slV tleaf nleaf kU8 leaf, dv (.int .i64 ((i.toNat : Nat) : Int)), dv (.int .i64 ((n.toNat : Nat) : Int)), slV tp np (k_api_Step false) p, AV.any, AV.any, AV.any, AV.any, AV.any, AV.any, ownV 0 kBool 0 (sidesN i.toNat n.toNat).length, dv (strV q1), dv (.int .i64 0)] : List AV)) e1; exact hE) rfl (by kernel_rfl) (by kernel_rfl) (by kernel_rfl) (by kernel_rfl) (by kernel_rfl) (by kernel_rfl) (by kernel_rfl) (by kernel_rfl) (by kernel_rfl) (by kernel_rfl) (by kernel_rfl) hG) ?_
        rintro k ⟨hk, hsl, hb⟩
        show T _ _ ⟨[dv (strV root), slV tleaf nleaf kU8 leaf, dv (.int .i64 ((i.toNat : Nat) : Int)), dv (.int .i64 ((n.toNat : Nat) : Int)), slV tp np (k_api_Step false) p, AV.any, AV.any, AV.any, AV.any, AV.any, AV.any, ownV 0 kBool 0 (sidesN i.toNat n.toNat).length, dv (strV (climb (ofB 2 [leaf]) (p.take k))), dv (.int .i64 ((k : Nat) : Int))], [.live (arrK 4 kBool (sidesN i.toNat n.toNat))]⟩ _ _
        replace hk : k ≤ p.length := hk
        replace hsl : (sidesN i.toNat n.toNat).length = p.length := hsl
        replace hb : ∀ t, t < k → (p.getD t z_api_Step).f_Left = (sidesN i.toNat n.toNat).getD t false := hb
        have hk70 : (p.take k).length ≤ 70 := by rw [List.length_take]; have := hp.1; omega
        have hcl := climb_len (p := p.take k) (m := 10000) (fun s hs => hp.2 s (List.mem_of_mem_take hs)) (ofB 2 [leaf])
        have hlf := leaf_len 2 leaf
        have hgd : ((p.getD k z_api_Step).f_Digest).length ≤ 10000 := fewG_get (sz := szS) hp (by decide) k
        refine T.seq ?_
        refine T.seq ?_
        refine tR (s1 := ⟨[dv (strV root), slV tleaf nleaf kU8 leaf, dv (.int .i64 ((i.toNat : Nat) : Int)), dv (.int .i64 ((n.toNat : Nat) : Int)), slV tp np (k_api_Step false) p, AV.any, AV.any, AV.any, AV.any, AV.any, AV.any, ownV 0 kBool 0 (sidesN i.toNat n.toNat).length, dv (strV (climb (ofB 2 [leaf]) (p.take k))), dv (.int .i64 ((k : Nat) : Int)), AV.any, AV.any, AV.any, AV.any, AV.any, AV.any, AV.any, AV.any, AV.any, AV.any, AV.any, AV.any, AV.any, AV.any, AV.any, AV.any, AV.any, AV.any, AV.any, AV.any, dv (.bool (decide (((k : Nat) : Int) < ((p.length : Nat) : Int))))], [.live (arrK 4 kBool (sidesN i.toNat n.toNat))]⟩) [true, true, true, true, true, false, false, false, false, false, false, true, true, true, false, false, false, false, false, false, false, false, false, false, false, false, false, false, false, false, false, false, false, false, true] [true]
          (oC (oS rfl rfl (r_move (av := dv (.int .i64 ((k : Nat) : Int))) (lt_of rfl) trivial))
          (oC (oS rfl rfl (r_move (av := slV tp np (k_api_Step false) p) (lt_of rfl) trivial))
          (oC (oS rfl rfl (q_len tp np (k_api_Step false) p Try.underlying27 (lt_of rfl) trivial))
          (oC (oS rfl rfl (r_bin (u1 := .int .i64 ((k : Nat) : Int)) (u2 := .int .i64 ((p.length : Nat) : Int)) (v := .bool (decide (((k : Nat) : Int) < ((p.length : Nat) : Int)))) b_lss (lt_of rfl) trivial)) (oZ rfl)))))
          (by kernel_rfl) (by kernel_rfl) ?_
        refine nT ?_
        by_cases hq4 : ((k : Nat) : Int) < ((p.length : Nat) : Int)
        · refine T.condT (b := (decide (((k : Nat) : Int) < ((p.length : Nat) : Int)))) rfl (decide_eq_true hq4) ?_
          refine T.skip ?_
          refine nT ?_
          refine T.seq ?_
          refine T.block ?_
          refine T.seq ?_
          refine T.seq ?_
          refine tD (s1 := ⟨[dv (strV root), slV tleaf nleaf kU8 leaf, dv (.int .i64 ((i.toNat : Nat) : Int)), dv (.int .i64 ((n.toNat : Nat) : Int)), slV tp np (k_api_Step false) p, AV.any, AV.any, AV.any, AV.any, AV.any, AV.any, ownV 0 kBool 0 (sidesN i.toNat n.toNat).length, dv (strV (climb (ofB 2 [leaf]) (p.take k))), dv (.int .i64 ((k : Nat) : Int)), AV.any, AV.any, AV.any, AV.any, AV.any, AV.any, AV.any, AV.any, AV.any, AV.any, AV.any, AV.any, AV.any, AV.any, AV.any, AV.any, AV.any, AV.any, AV.any, AV.any, dv (.bool (decide (((k : Nat) : Int) < ((p.length : Nat) : Int)))), AV.any, AV.any, AV.any, AV.any, AV.any, AV.any, AV.any, AV.any, AV.any, AV.any, AV.any, dv (.bool (decide ((p.getD k z_api_Step).f_Left ≠ ((sidesN i.toNat n.toNat).getD k false))))], [.live (arrK 4 kBool (sidesN i.toNat n.toNat))]⟩) (by kernel_rfl) [[], [], [0, 1], [0, 1, 2], [0, 1, 2, 3], [], [], [5, 6], [5, 6, 7], [0, 1, 2, 3, 4, 5, 6, 7, 8]] [true, true, true, true, true, false, false, false, false, false, false, true, true, true, false, false, false, false, false, false, false, false, false, false, false, false, false, false, false, false, false, false, false, false, true, false, false, false, false, false, false, false, false, false, false, false, true] [true]
            (oC (oS rfl rfl (r_move (av := slV tp np (k_api_Step false) p) (lt_of rfl) trivial))
            (oC (oS rfl rfl (r_move (av := dv (.int .i64 ((k : Nat) : Int))) (lt_of rfl) trivial))
            (oC (oS rfl rfl (q_index tp np (k_api_Step false) p k (k := .i64) (i := ((k : Nat) : Int)) Try.underlying27 iat_47 rfl rfl (by first | assumption | omega | (simp only [maxLen, kU8_sz, kSl_sz, k_api_Step_sz, k_quaestorlaw09_Claim_sz]; omega) | (simp only [maxLen, kU8_sz, kSl_sz, k_api_Step_sz, k_quaestorlaw09_Claim_sz, List.length_append, List.length_cons, List.length_nil, List.length_take, List.length_drop, List.length_set]; omega) | decide) (lt_of rfl) trivial))
            (oC (oS rfl rfl (r_fieldAddrE (tag := tp) (n := 2) (m := 1) (el := (k_api_Step false).cell (p.getD k (k_api_Step false).z)) fld_47_0 (by decide) (lt_of rfl) trivial))
            (oC (oS rfl rfl (r_loadE (tag := tp) (n := 1) (el := fun j_ => ((k_api_Step false).cell (p.getD k (k_api_Step false).z)) (0 + j_)) (e0 := .val (.bool (p.getD k z_api_Step).f_Left)) wide_4 (by decide) rfl (lt_of rfl) trivial))
            (oC (oS rfl rfl (r_move (av := ownV 0 kBool 0 (sidesN i.toNat n.toNat).length) (lt_of rfl) trivial))
            (oC (oS rfl rfl (r_move (av := dv (.int .i64 ((k : Nat) : Int))) (lt_of rfl) trivial))
            (oC (oS rfl rfl (r_indexO (k := .i64) (l := 0) (sz := kBool.sz) (off := 0) (n := (sidesN i.toNat n.toNat).length) (i := ((k : Nat) : Int)) (m := k) (o' := k * kBool.sz + 0) Try.underlying50 iat_4 rfl rfl (by first | assumption | omega | (simp only [maxLen, kU8_sz, kSl_sz, k_api_Step_sz, k_quaestorlaw09_Claim_sz]; omega) | (simp only [maxLen, kU8_sz, kSl_sz, k_api_Step_sz, k_quaestorlaw09_Claim_sz, List.length_append, List.length_cons, List.length_nil, List.length_take, List.length_drop, List.length_set]; omega) | decide) (by first | rfl | simp) (lt_of rfl) trivial))
            (oC (oS rfl rfl (r_loadA (l := 0) (off := k * kBool.sz + 0) (i := k) (j := 0) (T := 4) (sz := kBool.sz) (n := (sidesN i.toNat n.toNat).length) (el := elOf kBool (sidesN i.toNat n.toNat)) (c := .val (.bool ((sidesN i.toNat n.toNat).getD k false))) wide_4 rfl (by first | assumption | omega | (simp only [maxLen, kU8_sz, kSl_sz, k_api_Step_sz, k_quaestorlaw09_Claim_sz]; omega) | (simp only [maxLen, kU8_sz, kSl_sz, k_api_Step_sz, k_quaestorlaw09_Claim_sz, List.length_append, List.length_cons, List.length_nil, List.length_take, List.length_drop, List.length_set]; omega) | decide) (by decide) rfl (lt_of rfl) trivial))
            (oC (oS rfl rfl (r_bin (u1 := .bool (p.getD k z_api_Step).f_Left) (u2 := .bool ((sidesN i.toNat n.toNat).getD k false)) (v := .bool (decide ((p.getD k z_api_Step).f_Left ≠ ((sidesN i.toNat n.toNat).getD k false)))) (b_neqB Try.underlying4) (lt_of rfl) trivial)) (oZ rfl)))))))))))
            (by kernel_rfl) (by kernel_rfl) (by kernel_rfl) (by kernel_rfl) (by kernel_rfl) ?_
          refine nT ?_
          by_cases hq5 : (p.getD k z_api_Step).f_Left ≠ ((sidesN i.toNat n.toNat).getD k false)
          · refine T.condT (b := (decide ((p.getD k z_api_Step).f_Left ≠ ((sidesN i.toNat n.toNat).getD k false)))) rfl (decide_eq_true hq5) ?_
            refine T.seq ?_
            refine tR (s1 := ⟨[dv (strV root), slV tleaf nleaf kU8 leaf, dv (.int .i64 ((i.toNat : Nat) : Int)), dv (.int .i64 ((n.toNat : Nat) : Int)), slV tp np (k_api_Step false) p, AV.any, AV.any, AV.any, AV.any, AV.any, dv (.int .i64 90), ownV 0 kBool 0 (sidesN i.toNat n.toNat).length, dv (strV (climb (ofB 2 [leaf]) (p.take k))), dv (.int .i64 ((k : Nat) : Int)), AV.any, AV.any, AV.any, AV.any, AV.any, AV.any, AV.any, AV.any, AV.any, AV.any, AV.any, AV.any, AV.any, AV.any, AV.any, AV.any, AV.any, AV.any, AV.any, AV.any, dv (.bool (decide (((k : Nat) : Int) < ((p.length : Nat) : Int)))), AV.any, AV.any, AV.any, AV.any, AV.any, AV.any, AV.any, AV.any, AV.any, AV.any, AV.any, dv (.bool (decide ((p.getD k z_api_Step).f_Left ≠ ((sidesN i.toNat n.toNat).getD k false))))], [.live (arrK 4 kBool (sidesN i.toNat n.toNat))]⟩) [true, true, true, true, true, false, false, false, false, false, true, true, true, true, false, false, false, false, false, false, false, false, false, false, false, false, false, false, false, false, false, false, false, false, true, false, false, false, false, false, false, false, false, false, false, false, true] [true]
              (oC (oS rfl rfl (r_assign (av := dv (.int .i64 90)) (lt_of rfl) ⟨rfl, trivial⟩)) (oZ rfl))
              (by kernel_rfl) (by kernel_rfl) ?_
            refine nT ?_
            refine T.ret ?_
            refine rT ?_
            refine rB ?_
            refine rT ?_
            refine rT ?_
            refine rB ?_
            refine rT ?_
            exact tE (.inl rfl) [.t 10 (.one (.d (.val (.int .i64 90))))] ⟨⟨rfl, rfl⟩, trivial⟩ [] (by have e1 : ((checkM root leaf i n p) : Int) = 90 := (by first | rfl | exact chk_range (by omega) | exact chk_len (by omega) (by omega) | exact chk_at (p := p) (k := k) (by omega) (by omega) (by assumption) | exact (chk_range (by omega)).symm | exact (chk_len (by omega) (by omega)).symm | exact (chk_at (p := p) (k := k) (by omega) (by omega) (by assumption)).symm | (rw [chk_end (root := root) (leaf := leaf) (k := k) (by omega) hsl (by omega) hb]; simp [*]; done)); have hE := congrArg (fun (q1 : Int) => (dv (.int .i64 q1) : AV)) e1; exact hE) rfl rfl rfl rfl rfl trivial
          · refine T.condF (b := (decide ((p.getD k z_api_Step).f_Left ≠ ((sidesN i.toNat n.toNat).getD k false)))) rfl (decide_eq_false hq5) ?_
            refine T.skip ?_
            refine nT ?_
            refine T.seq ?_
            refine tR (s1 := ⟨[dv (strV root), slV tleaf nleaf kU8 leaf, dv (.int .i64 ((i.toNat : Nat) : Int)), dv (.int .i64 ((n.toNat : Nat) : Int)), slV tp np (k_api_Step false) p, AV.any, AV.any, AV.any, AV.any, AV.any, AV.any, ownV 0 kBool 0 (sidesN i.toNat n.toNat).length, dv (strV (climb (ofB 2 [leaf]) (p.take k))), dv (.int .i64 ((k : Nat) : Int)), AV.any, AV.any, AV.any, AV.any, AV.any, AV.any, AV.any, AV.any, AV.any, AV.any, AV.any, AV.any, AV.any, AV.any, AV.any, AV.any, AV.any, AV.any, AV.any, AV.any, dv (.bool (decide (((k : Nat) : Int) < ((p.length : Nat) : Int)))), AV.any, AV.any, AV.any, AV.any, AV.any, AV.any, AV.any, AV.any, AV.any, AV.any, AV.any, dv (.bool (decide ((p.getD k z_api_Step).f_Left ≠ ((sidesN i.toNat n.toNat).getD k false)))), AV.any, AV.any, AV.any, dv (.bool ((sidesN i.toNat n.toNat).getD k false))], [.live (arrK 4 kBool (sidesN i.toNat n.toNat))]⟩) [true, true, true, true, true, false, false, false, false, false, false, true, true, true, false, false, false, false, false, false, false, false, false, false, false, false, false, false, false, false, false, false, false, false, true, false, false, false, false, false, false, false, false, false, false, false, true, false, false, false, true] [true]
              (oC (oS rfl rfl (r_move (av := ownV 0 kBool 0 (sidesN i.toNat n.toNat).length) (lt_of rfl) trivial))
              (oC (oS rfl rfl (r_move (av := dv (.int .i64 ((k : Nat) : Int))) (lt_of rfl) trivial))
              (oC (oS rfl rfl (r_indexO (k := .i64) (l := 0) (sz := kBool.sz) (off := 0) (n := (sidesN i.toNat n.toNat).length) (i := ((k : Nat) : Int)) (m := k) (o' := k * kBool.sz + 0) Try.underlying50 iat_4 rfl rfl (by first | assumption | omega | (simp only [maxLen, kU8_sz, kSl_sz, k_api_Step_sz, k_quaestorlaw09_Claim_sz]; omega) | (simp only [maxLen, kU8_sz, kSl_sz, k_api_Step_sz, k_quaestorlaw09_Claim_sz, List.length_append, List.length_cons, List.length_nil, List.length_take, List.length_drop, List.length_set]; omega) | decide) (by first | rfl | simp) (lt_of rfl) trivial))
              (oC (oS rfl rfl (r_loadA (l := 0) (off := k * kBool.sz + 0) (i := k) (j := 0) (T := 4) (sz := kBool.sz) (n := (sidesN i.toNat n.toNat).length) (el := elOf kBool (sidesN i.toNat n.toNat)) (c := .val (.bool ((sidesN i.toNat n.toNat).getD k false))) wide_4 rfl (by first | assumption | omega | (simp only [maxLen, kU8_sz, kSl_sz, k_api_Step_sz, k_quaestorlaw09_Claim_sz]; omega) | (simp only [maxLen, kU8_sz, kSl_sz, k_api_Step_sz, k_quaestorlaw09_Claim_sz, List.length_append, List.length_cons, List.length_nil, List.length_take, List.length_drop, List.length_set]; omega) | decide) (by decide) rfl (lt_of rfl) trivial)) (oZ rfl)))))
              (by kernel_rfl) (by kernel_rfl) ?_
            refine nT ?_
            by_cases hq6 : ((sidesN i.toNat n.toNat).getD k false) = true
            · refine T.condT (b := ((sidesN i.toNat n.toNat).getD k false)) rfl hq6 ?_
              refine tR (s1 := ⟨[dv (strV root), slV tleaf nleaf kU8 leaf, dv (.int .i64 ((i.toNat : Nat) : Int)), dv (.int .i64 ((n.toNat : Nat) : Int)), slV tp np (k_api_Step false) p, AV.any, AV.any, AV.any, AV.any, AV.any, AV.any, ownV 0 kBool 0 (sidesN i.toNat n.toNat).length, dv (strV (ofB (3 : UInt8) [(p.getD k z_api_Step).f_Digest, (climb (ofB 2 [leaf]) (p.take k))])), dv (.int .i64 ((k : Nat) : Int)), AV.any, AV.any, AV.any, AV.any, AV.any, AV.any, AV.any, AV.any, AV.any, AV.any, AV.any, AV.any, AV.any, AV.any, AV.any, AV.any, AV.any, AV.any, AV.any, AV.any, dv (.bool (decide (((k : Nat) : Int) < ((p.length : Nat) : Int)))), AV.any, AV.any, AV.any, AV.any, AV.any, AV.any, AV.any, AV.any, AV.any, AV.any, AV.any, dv (.bool (decide ((p.getD k z_api_Step).f_Left ≠ ((sidesN i.toNat n.toNat).getD k false)))), AV.any, AV.any, AV.any, dv (.bool ((sidesN i.toNat n.toNat).getD k false))], [.live (arrK 4 kBool (sidesN i.toNat n.toNat))]⟩) [true, true, true, true, true, false, false, false, false, false, false, true, true, true, false, false, false, false, false, false, false, false, false, false, false, false, false, false, false, false, false, false, false, false, true, false, false, false, false, false, false, false, false, false, false, false, true, false, false, false, true] [true]
                (oC (oS rfl rfl (r_move (av := slV tp np (k_api_Step false) p) (lt_of rfl) trivial))
                (oC (oS rfl rfl (r_move (av := dv (.int .i64 ((k : Nat) : Int))) (lt_of rfl) trivial))
                (oC (oS rfl rfl (q_index tp np (k_api_Step false) p k (k := .i64) (i := ((k : Nat) : Int)) Try.underlying27 iat_47 rfl rfl (by first | assumption | omega | (simp only [maxLen, kU8_sz, kSl_sz, k_api_Step_sz, k_quaestorlaw09_Claim_sz]; omega) | (simp only [maxLen, kU8_sz, kSl_sz, k_api_Step_sz, k_quaestorlaw09_Claim_sz, List.length_append, List.length_cons, List.length_nil, List.length_take, List.length_drop, List.length_set]; omega) | decide) (lt_of rfl) trivial))
                (oC (oS rfl rfl (r_fieldAddrE (tag := tp) (n := 2) (m := 1) (el := (k_api_Step false).cell (p.getD k (k_api_Step false).z)) fld_47_1 (by decide) (lt_of rfl) trivial))
                (oC (oS rfl rfl (r_loadE (tag := tp) (n := 1) (el := fun j_ => ((k_api_Step false).cell (p.getD k (k_api_Step false).z)) (1 + j_)) (e0 := .val (strV (p.getD k z_api_Step).f_Digest)) wide_24 (by decide) rfl (lt_of rfl) trivial))
                (oC (oS rfl rfl (r_move (av := dv (strV (climb (ofB 2 [leaf]) (p.take k)))) (lt_of rfl) trivial))
                (oC (oS rfl rfl (r_call (ref02_Pair (3 : UInt8) (p.getD k z_api_Step).f_Digest (climb (ofB 2 [leaf]) (p.take k)) (by first | assumption | omega | (simp only [maxLen, kU8_sz, kSl_sz, k_api_Step_sz, k_quaestorlaw09_Claim_sz]; omega) | (simp only [maxLen, kU8_sz, kSl_sz, k_api_Step_sz, k_quaestorlaw09_Claim_sz, List.length_append, List.length_cons, List.length_nil, List.length_take, List.length_drop, List.length_set]; omega) | decide)) Try.func28 rfl (by decide) [] [] (l := [(.const (.int .u8 3), dv (.int .u8 3)), (.tmp 55, dv (strV (p.getD k z_api_Step).f_Digest)), (.tmp 56, dv (strV (climb (ofB 2 [leaf]) (p.take k))))]) [] rfl 0 0 rfl rfl rfl rfl rfl rfl rfl rfl rfl ⟨.inl ⟨rfl, rfl⟩, ⟨.inl ⟨rfl, rfl⟩, ⟨.inl ⟨rfl, rfl⟩, trivial⟩⟩⟩ rfl (fun b hb => by cases hb) (.inl rfl) (lt_of rfl) ⟨rfl, trivial⟩))
                (oC (oS rfl rfl (r_assign (av := dv (strV (ofB (3 : UInt8) [(p.getD k z_api_Step).f_Digest, (climb (ofB 2 [leaf]) (p.take k))]))) (lt_of rfl) trivial)) (oZ rfl)))))))))
                (by kernel_rfl) (by kernel_rfl) ?_
              refine nB ?_
              refine nT ?_
              refine tR (s1 := ⟨[dv (strV root), slV tleaf nleaf kU8 leaf, dv (.int .i64 ((i.toNat : Nat) : Int)), dv (.int .i64 ((n.toNat : Nat) : Int)), slV tp np (k_api_Step false) p, AV.any, AV.any, AV.any, AV.any, AV.any, AV.any, ownV 0 kBool 0 (sidesN i.toNat n.toNat).length, dv (strV (ofB (3 : UInt8) [(p.getD k z_api_Step).f_Digest, (climb (ofB 2 [leaf]) (p.take k))])), dv (.int .i64 ((k + 1 : Nat) : Int)), AV.any, AV.any, AV.any, AV.any, AV.any, AV.any, AV.any, AV.any, AV.any, AV.any, AV.any, AV.any, AV.any, AV.any, AV.any, AV.any, AV.any, AV.any, AV.any, AV.any, dv (.bool (decide (((k : Nat) : Int) < ((p.length : Nat) : Int)))), AV.any, AV.any, AV.any, AV.any, AV.any, AV.any, AV.any, AV.any, AV.any, AV.any, AV.any, dv (.bool (decide ((p.getD k z_api_Step).f_Left ≠ ((sidesN i.toNat n.toNat).getD k false)))), AV.any, AV.any, AV.any, dv (.bool ((sidesN i.toNat n.toNat).getD k false))], [.live (arrK 4 kBool (sidesN i.toNat n.toNat))]⟩) [true, true, true, true, true, false, false, false, false, false, false, true, true, true, false, false, false, false, false, false, false, false, false, false, false, false, false, false, false, false, false, false, false, false, true, false, false, false, false, false, false, false, false, false, false, false, true, false, false, false, true] [true]
                (oC (oS rfl rfl (r_move (av := dv (.int .i64 ((k : Nat) : Int))) (lt_of rfl) trivial))
                (oC (oS rfl rfl (r_bin (u1 := .int .i64 ((k : Nat) : Int)) (u2 := .int .i64 1) (v := .int .i64 ((k + 1 : Nat) : Int)) (b_add (by rw [IntKind.wrap_i64]; omega)) (lt_of rfl) ⟨rfl, trivial⟩))
                (oC (oS rfl rfl (r_assign (av := dv (.int .i64 ((k + 1 : Nat) : Int))) (lt_of rfl) trivial)) (oZ rfl))))
                (by kernel_rfl) (by kernel_rfl) ?_
              refine nL (k + 1) ⟨(show (k + 1) ≤ p.length from (by omega)), (show (sidesN i.toNat n.toNat).length = p.length from hsl), (show ∀ t, t < (k + 1) → (p.getD t z_api_Step).f_Left = (sidesN i.toNat n.toNat).getD t false from (all_succ hb (by first | assumption | exact Classical.not_not.1 (by assumption) | simp [*])))⟩ (show (p.length - (k + 1) : Nat) < p.length - k from (by omega)) (fun _ _ hG => Gs.into2 (s := ⟨[dv (strV root), slV tleaf nleaf kU8 leaf, dv (.int .i64 ((i.toNat : Nat) : Int)), dv (.int .i64 ((n.toNat : Nat) : Int)), slV tp np (k_api_Step false) p, AV.any, AV.any, AV.any, AV.any, AV.any, AV.any, ownV 0 kBool 0 (sidesN i.toNat n.toNat).length, dv (strV (ofB (3 : UInt8) [(p.getD k z_api_Step).f_Digest, (climb (ofB 2 [leaf]) (p.take k))])), dv (.int .i64 ((k + 1 : Nat) : Int)), AV.any, AV.any, AV.any, AV.any, AV.any, AV.any, AV.any, AV.any, AV.any, AV.any, AV.any, AV.any, AV.any, AV.any, AV.any, AV.any, AV.any, AV.any, AV.any, AV.any, dv (.bool (decide (((k : Nat) : Int) < ((p.length : Nat) : Int)))), AV.any, AV.any, AV.any, AV.any, AV.any, AV.any, AV.any, AV.any, AV.any, AV.any, AV.any, dv (.bool (decide ((p.getD k z_api_Step).f_Left ≠ ((sidesN i.toNat n.toNat).getD k false)))), AV.any, AV.any, AV.any, dv (.bool ((sidesN i.toNat n.toNat).getD k false))], [.live (arrK 4 kBool (sidesN i.toNat n.toNat))]⟩) (s' := ⟨[dv (strV root), slV tleaf nleaf kU8 leaf, dv (.int .i64 ((i.toNat : Nat) : Int)), dv (.int .i64 ((n.toNat : Nat) : Int)), slV tp np (k_api_Step false) p, AV.any, AV.any, AV.any, AV.any, AV.any, AV.any, ownV 0 kBool 0 (sidesN i.toNat n.toNat).length, dv (strV (climb (ofB 2 [leaf]) (p.take (k + 1)))), dv (.int .i64 ((k + 1 : Nat) : Int))], [.live (arrK 4 kBool (sidesN i.toNat n.toNat))]⟩) [0] [true, true, true, true, true, false, false, false, false, false, false, true, true, true] (t1 := [dv (strV root), slV tleaf nleaf kU8 leaf, dv (.int .i64 ((i.toNat : Nat) : Int)), dv (.int .i64 ((n.toNat : Nat) : Int)), slV tp np (k_api_Step false) p, AV.any, AV.any, AV.any, AV.any, AV.any, AV.any, ownV 0 kBool 0 (sidesN i.toNat n.toNat).length, dv (strV (climb (ofB 2 [leaf]) (p.take (k + 1)))), dv (.int .i64 ((k + 1 : Nat) : Int))]) (t2 := [dv (strV root), slV tleaf nleaf kU8 leaf, dv (.int .i64 ((i.toNat : Nat) : Int)), dv (.int .i64 ((n.toNat : Nat) : Int)), slV tp np (k_api_Step false) p, AV.any, AV.any, AV.any, AV.any, AV.any, AV.any, ownV 0 kBool 0 (sidesN i.toNat n.toNat).length, dv (strV (ofB (3 : UInt8) [(p.getD k z_api_Step).f_Digest, (climb (ofB 2 [leaf]) (p.take k))])), dv (.int .i64 ((k + 1 : Nat) : Int))]) (h1 := [.live (arrK 4 kBool (sidesN i.toNat n.toNat))]) (h2 := [.live (arrK 4 kBool (sidesN i.toNat n.toNat))]) (by have e1 : ((climb (ofB 2 [leaf]) (p.take (k + 1))) : List UInt8) = (ofB (3 : UInt8) [(p.getD k z_api_Step).f_Digest, (climb (ofB 2 [leaf]) (p.take k))]) := (by (have h8 : (p.getD k z_api_Step).f_Left = (sidesN i.toNat n.toNat).getD k false := Classical.not_not.1 (by assumption); rw [climb_take (p := p) (k := k) _ (by omega), climb1]; first | (have h7 : (p.getD k z_api_Step).f_Left = true := (by first | assumption | exact h8.trans (by assumption)); rw [if_pos h7]) | (have h7 : (p.getD k z_api_Step).f_Left = false := (by first | assumption | exact h8.trans (by assumption)); rw [if_neg (by rw [h7]; decide)]))); have hE := congrArg (fun (q1 : List UInt8) => ([dv (strV root), slV tleaf nleaf kU8 leaf, dv (.int .i64 ((i.toNat : Nat) : Int)), dv (.int .i64 ((n.toNat : Nat) : Int)), slV tp np (k_api_Step false) p, AV.any, AV.any, AV.any, AV.any, AV.any, AV.any, ownV 0 kBool 0 (sidesN i.toNat n.toNat).length, dv (strV q1), dv (.int .i64 ((k + 1 : Nat) : Int))] : List AV)) e1; exact hE) rfl (by kernel_rfl) (by kernel_rfl) (by kernel_rfl) (by kernel_rfl) (by kernel_rfl) (by kernel_rfl) (by kernel_rfl) (by kernel_rfl) (by kernel_rfl) (by kernel_rfl) (by kernel_rfl) hG)
            · replace hq6 := Bool.eq_false_iff.2 hq6
              refine T.condF (b := ((sidesN i.toNat n.toNat).getD k false)) rfl hq6 ?_
              refine tR (s1 := ⟨[dv (strV root), slV tleaf nleaf kU8 leaf, dv (.int .i64 ((i.toNat : Nat) : Int)), dv (.int .i64 ((n.toNat : Nat) : Int)), slV tp np (k_api_Step false) p, AV.any, AV.any, AV.any, AV.any, AV.any, AV.any, ownV 0 kBool 0 (sidesN i.toNat n.toNat).length, dv (strV (ofB (3 : UInt8) [(climb (ofB 2 [leaf]) (p.take k)), (p.getD k z_api_Step).f_Digest])), dv (.int .i64 ((k : Nat) : Int)), AV.any, AV.any, AV.any, AV.any, AV.any, AV.any, AV.any, AV.any, AV.any, AV.any, AV.any, AV.any, AV.any, AV.any, AV.any, AV.any, AV.any, AV.any, AV.any, AV.any, dv (.bool (decide (((k : Nat) : Int) < ((p.length : Nat) : Int)))), AV.any, AV.any, AV.any, AV.any, AV.any, AV.any, AV.any, AV.any, AV.any, AV.any, AV.any, dv (.bool (decide ((p.getD k z_api_Step).f_Left ≠ ((sidesN i.toNat n.toNat).getD k false)))), AV.any, AV.any, AV.any, dv (.bool ((sidesN i.toNat n.toNat).getD k false))], [.live (arrK 4 kBool (sidesN i.toNat n.toNat))]⟩) [true, true, true, true, true, false, false, false, false, false, false, true, true, true, false, false, false, false, false, false, false, false, false, false, false, false, false, false, false, false, false, false, false, false, true, false, false, false, false, false, false, false, false, false, false, false, true, false, false, false, true] [true]
                (oC (oS rfl rfl (r_move (av := dv (strV (climb (ofB 2 [leaf]) (p.take k)))) (lt_of rfl) trivial))
                (oC (oS rfl rfl (r_move (av := slV tp np (k_api_Step false) p) (lt_of rfl) trivial))
                (oC (oS rfl rfl (r_move (av := dv (.int .i64 ((k : Nat) : Int))) (lt_of rfl) trivial))
                (oC (oS rfl rfl (q_index tp np (k_api_Step false) p k (k := .i64) (i := ((k : Nat) : Int)) Try.underlying27 iat_47 rfl rfl (by first | assumption | omega | (simp only [maxLen, kU8_sz, kSl_sz, k_api_Step_sz, k_quaestorlaw09_Claim_sz]; omega) | (simp only [maxLen, kU8_sz, kSl_sz, k_api_Step_sz, k_quaestorlaw09_Claim_sz, List.length_append, List.length_cons, List.length_nil, List.length_take, List.length_drop, List.length_set]; omega) | decide) (lt_of rfl) trivial))
                (oC (oS rfl rfl (r_fieldAddrE (tag := tp) (n := 2) (m := 1) (el := (k_api_Step false).cell (p.getD k (k_api_Step false).z)) fld_47_1 (by decide) (lt_of rfl) trivial))
                (oC (oS rfl rfl (r_loadE (tag := tp) (n := 1) (el := fun j_ => ((k_api_Step false).cell (p.getD k (k_api_Step false).z)) (1 + j_)) (e0 := .val (strV (p.getD k z_api_Step).f_Digest)) wide_24 (by decide) rfl (lt_of rfl) trivial))
                (oC (oS rfl rfl (r_call (ref02_Pair (3 : UInt8) (climb (ofB 2 [leaf]) (p.take k)) (p.getD k z_api_Step).f_Digest (by first | assumption | omega | (simp only [maxLen, kU8_sz, kSl_sz, k_api_Step_sz, k_quaestorlaw09_Claim_sz]; omega) | (simp only [maxLen, kU8_sz, kSl_sz, k_api_Step_sz, k_quaestorlaw09_Claim_sz, List.length_append, List.length_cons, List.length_nil, List.length_take, List.length_drop, List.length_set]; omega) | decide)) Try.func28 rfl (by decide) [] [] (l := [(.const (.int .u8 3), dv (.int .u8 3)), (.tmp 58, dv (strV (climb (ofB 2 [leaf]) (p.take k)))), (.tmp 63, dv (strV (p.getD k z_api_Step).f_Digest))]) [] rfl 0 0 rfl rfl rfl rfl rfl rfl rfl rfl rfl ⟨.inl ⟨rfl, rfl⟩, ⟨.inl ⟨rfl, rfl⟩, ⟨.inl ⟨rfl, rfl⟩, trivial⟩⟩⟩ rfl (fun b hb => by cases hb) (.inl rfl) (lt_of rfl) ⟨rfl, trivial⟩))
                (oC (oS rfl rfl (r_assign (av := dv (strV (ofB (3 : UInt8) [(climb (ofB 2 [leaf]) (p.take k)), (p.getD k z_api_Step).f_Digest]))) (lt_of rfl) trivial)) (oZ rfl)))))))))
                (by kernel_rfl) (by kernel_rfl) ?_
              refine nB ?_
              refine nT ?_
              refine tR (s1 := ⟨[dv (strV root), slV tleaf nleaf kU8 leaf, dv (.int .i64 ((i.toNat : Nat) : Int)), dv (.int .i64 ((n.toNat : Nat) : Int)), slV tp np (k_api_Step false) p, AV.any, AV.any, AV.any, AV.any, AV.any, AV.any, ownV 0 kBool 0 (sidesN i.toNat n.toNat).length, dv (strV (ofB (3 : UInt8) [(climb (ofB 2 [leaf]) (p.take k)), (p.getD k z_api_Step).f_Digest])), dv (.int .i64 ((k + 1 : Nat) : Int)), AV.any, AV.any, AV.any, AV.any, AV.any, AV.any, AV.any, AV.any, AV.any, AV.any, AV.any, AV.any, AV.any, AV.any, AV.any, AV.any, AV.any, AV.any, AV.any, AV.any, dv (.bool (decide (((k : Nat) : Int) < ((p.length : Nat) : Int)))), AV.any, AV.any, AV.any, AV.any, AV.any, AV.any, AV.any, AV.any, AV.any, AV.any, AV.any, dv (.bool (decide ((p.getD k z_api_Step).f_Left ≠ ((sidesN i.toNat n.toNat).getD k false)))), AV.any, AV.any, AV.any, dv (.bool ((sidesN i.toNat n.toNat).getD k false))], [.live (arrK 4 kBool (sidesN i.toNat n.toNat))]⟩) [true, true, true, true, true, false, false, false, false, false, false, true, true, true, false, false, false, false, false, false, false, false, false, false, false, false, false, false, false, false, false, false, false, false, true, false, false, false, false, false, false, false, false, false, false, false, true, false, false, false, true] [true]
                (oC (oS rfl rfl (r_move (av := dv (.int .i64 ((k : Nat) : Int))) (lt_of rfl) trivial))
                (oC (oS rfl rfl (r_bin (u1 := .int .i64 ((k : Nat) : Int)) (u2 := .int .i64 1) (v := .int .i64 ((k + 1 : Nat) : Int)) (b_add (by rw [IntKind.wrap_i64]; omega)) (lt_of rfl) ⟨rfl, trivial⟩))
                (oC (oS rfl rfl (r_assign (av := dv (.int .i64 ((k + 1 : Nat) : Int))) (lt_of rfl) trivial)) (oZ rfl))))
                (by kernel_rfl) (by kernel_rfl) ?_
              refine nL (k + 1) ⟨(show (k + 1) ≤ p.length from (by omega)), (show (sidesN i.toNat n.toNat).length = p.length from hsl), (show ∀ t, t < (k + 1) → (p.getD t z_api_Step).f_Left = (sidesN i.toNat n.toNat).getD t false from (all_succ hb (by first | assumption | exact Classical.not_not.1 (by assumption) | simp [*])))⟩ (show (p.length - (k + 1) : Nat) < p.length - k from (by omega)) (fun _ _ hG => Gs.into2 (s := ⟨[dv (strV root), slV tleaf nleaf kU8 leaf, dv (.int .i64 ((i.toNat : Nat) : Int)), dv (.int .i64 ((n.toNat : Nat) : Int)), slV tp np (k_api_Step false) p, AV.any, AV.any, AV.any, AV.any, AV.any, AV.any, ownV 0 kBool 0 (sidesN i.toNat n.toNat).length, dv (strV (ofB (3 : UInt8) [(climb (ofB 2 [leaf]) (p.take k)), (p.getD k z_api_Step).f_Digest])), dv (.int .i64 ((k + 1 : Nat) : Int)), AV.any, AV.any, AV.any, AV.any, AV.any, AV.any, AV.any, AV.any, AV.any, AV.any, AV.any, AV.any, AV.any, AV.any, AV.any, AV.any, AV.any, AV.any, AV.any, AV.any, dv (.bool (decide (((k : Nat) : Int) < ((p.length : Nat) : Int)))), AV.any, AV.any, AV.any, AV.any, AV.any, AV.any, AV.any, AV.any, AV.any, AV.any, AV.any, dv (.bool (decide ((p.getD k z_api_Step).f_Left ≠ ((sidesN i.toNat n.toNat).getD k false)))), AV.any, AV.any, AV.any, dv (.bool ((sidesN i.toNat n.toNat).getD k false))], [.live (arrK 4 kBool (sidesN i.toNat n.toNat))]⟩) (s' := ⟨[dv (strV root), slV tleaf nleaf kU8 leaf, dv (.int .i64 ((i.toNat : Nat) : Int)), dv (.int .i64 ((n.toNat : Nat) : Int)), slV tp np (k_api_Step false) p, AV.any, AV.any, AV.any, AV.any, AV.any, AV.any, ownV 0 kBool 0 (sidesN i.toNat n.toNat).length, dv (strV (climb (ofB 2 [leaf]) (p.take (k + 1)))), dv (.int .i64 ((k + 1 : Nat) : Int))], [.live (arrK 4 kBool (sidesN i.toNat n.toNat))]⟩) [0] [true, true, true, true, true, false, false, false, false, false, false, true, true, true] (t1 := [dv (strV root), slV tleaf nleaf kU8 leaf, dv (.int .i64 ((i.toNat : Nat) : Int)), dv (.int .i64 ((n.toNat : Nat) : Int)), slV tp np (k_api_Step false) p, AV.any, AV.any, AV.any, AV.any, AV.any, AV.any, ownV 0 kBool 0 (sidesN i.toNat n.toNat).length, dv (strV (climb (ofB 2 [leaf]) (p.take (k + 1)))), dv (.int .i64 ((k + 1 : Nat) : Int))]) (t2 := [dv (strV root), slV tleaf nleaf kU8 leaf, dv (.int .i64 ((i.toNat : Nat) : Int)), dv (.int .i64 ((n.toNat : Nat) : Int)), slV tp np (k_api_Step false) p, AV.any, AV.any, AV.any, AV.any, AV.any, AV.any, ownV 0 kBool 0 (sidesN i.toNat n.toNat).length, dv (strV (ofB (3 : UInt8) [(climb (ofB 2 [leaf]) (p.take k)), (p.getD k z_api_Step).f_Digest])), dv (.int .i64 ((k + 1 : Nat) : Int))]) (h1 := [.live (arrK 4 kBool (sidesN i.toNat n.toNat))]) (h2 := [.live (arrK 4 kBool (sidesN i.toNat n.toNat))]) (by have e1 : ((climb (ofB 2 [leaf]) (p.take (k + 1))) : List UInt8) = (ofB (3 : UInt8) [(climb (ofB 2 [leaf]) (p.take k)), (p.getD k z_api_Step).f_Digest]) := (by (have h8 : (p.getD k z_api_Step).f_Left = (sidesN i.toNat n.toNat).getD k false := Classical.not_not.1 (by assumption); rw [climb_take (p := p) (k := k) _ (by omega), climb1]; first | (have h7 : (p.getD k z_api_Step).f_Left = true := (by first | assumption | exact h8.trans (by assumption)); rw [if_pos h7]) | (have h7 : (p.getD k z_api_Step).f_Left = false := (by first | assumption | exact h8.trans (by assumption)); rw [if_neg (by rw [h7]; decide)]))); have hE := congrArg (fun (q1 : List UInt8) => ([dv (strV root), slV tleaf nleaf kU8 leaf, dv (.int .i64 ((i.toNat : Nat) : Int)), dv (.int .i64 ((n.toNat : Nat) : Int)), slV tp np (k_api_Step false) p, AV.any, AV.any, AV.any, AV.any, AV.any, AV.any, ownV 0 kBool 0 (sidesN i.toNat n.toNat).length, dv (strV q1), dv (.int .i64 ((k + 1 : Nat) : Int))] : List AV)) e1; exact hE) rfl (by kernel_rfl) (by kernel_rfl) (by kernel_rfl) (by kernel_rfl) (by kernel_rfl) (by kernel_rfl) (by kernel_rfl) (by kernel_rfl) (by kernel_rfl) (by kernel_rfl) (by kernel_rfl) hG)
        · refine T.condF (b := (decide (((k : Nat) : Int) < ((p.length : Nat) : Int)))) rfl (decide_eq_false hq4) ?_
          refine T.exit ?_
          refine xT ?_
          refine xT ?_
          refine xH ?_
          refine nT ?_
          refine T.seq ?_
          refine T.seq ?_
          refine tR (s1 := ⟨[dv (strV root), slV tleaf nleaf kU8 leaf, dv (.int .i64 ((i.toNat : Nat) : Int)), dv (.int .i64 ((n.toNat : Nat) : Int)), slV tp np (k_api_Step false) p, AV.any, AV.any, AV.any, AV.any, AV.any, AV.any, ownV 0 kBool 0 (sidesN i.toNat n.toNat).length, dv (strV (climb (ofB 2 [leaf]) (p.take k))), dv (.int .i64 ((k : Nat) : Int)), AV.any, AV.any, AV.any, AV.any, AV.any, AV.any, AV.any, AV.any, AV.any, AV.any, AV.any, AV.any, AV.any, AV.any, AV.any, AV.any, AV.any, AV.any, AV.any, AV.any, dv (.bool (decide (((k : Nat) : Int) < ((p.length : Nat) : Int)))), AV.any, AV.any, AV.any, AV.any, AV.any, AV.any, AV.any, AV.any, AV.any, AV.any, AV.any, AV.any, AV.any, AV.any, AV.any, AV.any, AV.any, AV.any, AV.any, AV.any, AV.any, AV.any, AV.any, AV.any, AV.any, AV.any, AV.any, AV.any, AV.any, AV.any, AV.any, AV.any, dv (.bool (decide ((climb (ofB 2 [leaf]) (p.take k)) ≠ root)))], [.live (arrK 4 kBool (sidesN i.toNat n.toNat))]⟩) [true, true, true, true, true, false, false, false, false, false, false, true, true, true, false, false, false, false, false, false, false, false, false, false, false, false, false, false, false, false, false, false, false, false, true, false, false, false, false, false, false, false, false, false, false, false, false, false, false, false, false, false, false, false, false, false, false, false, false, false, false, false, false, false, false, false, false, true] [true]
            (oC (oS rfl rfl (r_move (av := dv (strV (climb (ofB 2 [leaf]) (p.take k)))) (lt_of rfl) trivial))
            (oC (oS rfl rfl (r_move (av := dv (strV root)) (lt_of rfl) trivial))
            (oC (oS rfl rfl (r_bin (u1 := strV (climb (ofB 2 [leaf]) (p.take k))) (u2 := strV root) (v := .bool (decide ((climb (ofB 2 [leaf]) (p.take k)) ≠ root))) b_neqS (lt_of rfl) trivial)) (oZ rfl))))
            (by kernel_rfl) (by kernel_rfl) ?_
          refine nT ?_
          by_cases hq7 : (climb (ofB 2 [leaf]) (p.take k)) ≠ root
          · refine T.condT (b := (decide ((climb (ofB 2 [leaf]) (p.take k)) ≠ root))) rfl (decide_eq_true hq7) ?_
            refine T.seq ?_
            refine tR (s1 := ⟨[dv (strV root), slV tleaf nleaf kU8 leaf, dv (.int .i64 ((i.toNat : Nat) : Int)), dv (.int .i64 ((n.toNat : Nat) : Int)), slV tp np (k_api_Step false) p, AV.any, AV.any, AV.any, AV.any, AV.any, dv (.int .i64 90), ownV 0 kBool 0 (sidesN i.toNat n.toNat).length, dv (strV (climb (ofB 2 [leaf]) (p.take k))), dv (.int .i64 ((k : Nat) : Int)), AV.any, AV.any, AV.any, AV.any, AV.any, AV.any, AV.any, AV.any, AV.any, AV.any, AV.any, AV.any, AV.any, AV.any, AV.any, AV.any, AV.any, AV.any, AV.any, AV.any, dv (.bool (decide (((k : Nat) : Int) < ((p.length : Nat) : Int)))), AV.any, AV.any, AV.any, AV.any, AV.any, AV.any, AV.any, AV.any, AV.any, AV.any, AV.any, AV.any, AV.any, AV.any, AV.any, AV.any, AV.any, AV.any, AV.any, AV.any, AV.any, AV.any, AV.any, AV.any, AV.any, AV.any, AV.any, AV.any, AV.any, AV.any, AV.any, AV.any, dv (.bool (decide ((climb (ofB 2 [leaf]) (p.take k)) ≠ root)))], [.live (arrK 4 kBool (sidesN i.toNat n.toNat))]⟩) [true, true, true, true, true, false, false, false, false, false, true, true, true, true, false, false, false, false, false, false, false, false, false, false, false, false, false, false, false, false, false, false, false, false, true, false, false, false, false, false, false, false, false, false, false, false, false, false, false, false, false, false, false, false, false, false, false, false, false, false, false, false, false, false, false, false, false, true] [true]
              (oC (oS rfl rfl (r_assign (av := dv (.int .i64 90)) (lt_of rfl) ⟨rfl, trivial⟩)) (oZ rfl))
              (by kernel_rfl) (by kernel_rfl) ?_
            refine nT ?_
            refine T.ret ?_
            refine rT ?_
            exact tE (.inl rfl) [.t 10 (.one (.d (.val (.int .i64 90))))] ⟨⟨rfl, rfl⟩, trivial⟩ [] (by have e1 : ((checkM root leaf i n p) : Int) = 90 := (by first | rfl | exact chk_range (by omega) | exact chk_len (by omega) (by omega) | exact chk_at (p := p) (k := k) (by omega) (by omega) (by assumption) | exact (chk_range (by omega)).symm | exact (chk_len (by omega) (by omega)).symm | exact (chk_at (p := p) (k := k) (by omega) (by omega) (by assumption)).symm | (rw [chk_end (root := root) (leaf := leaf) (k := k) (by omega) hsl (by omega) hb]; simp [*]; done)); have hE := congrArg (fun (q1 : Int) => (dv (.int .i64 q1) : AV)) e1; exact hE) rfl rfl rfl rfl rfl trivial
          · refine T.condF (b := (decide ((climb (ofB 2 [leaf]) (p.take k)) ≠ root))) rfl (decide_eq_false hq7) ?_
            refine T.skip ?_
            refine nT ?_
            refine T.seq ?_
            refine tR (s1 := ⟨[dv (strV root), slV tleaf nleaf kU8 leaf, dv (.int .i64 ((i.toNat : Nat) : Int)), dv (.int .i64 ((n.toNat : Nat) : Int)), slV tp np (k_api_Step false) p, AV.any, AV.any, AV.any, AV.any, AV.any, dv (.int .i64 0), ownV 0 kBool 0 (sidesN i.toNat n.toNat).length, dv (strV (climb (ofB 2 [leaf]) (p.take k))), dv (.int .i64 ((k : Nat) : Int)), AV.any, AV.any, AV.any, AV.any, AV.any, AV.any, AV.any, AV.any, AV.any, AV.any, AV.any, AV.any, AV.any, AV.any, AV.any, AV.any, AV.any, AV.any, AV.any, AV.any, dv (.bool (decide (((k : Nat) : Int) < ((p.length : Nat) : Int)))), AV.any, AV.any, AV.any, AV.any, AV.any, AV.any, AV.any, AV.any, AV.any, AV.any, AV.any, AV.any, AV.any, AV.any, AV.any, AV.any, AV.any, AV.any, AV.any, AV.any, AV.any, AV.any, AV.any, AV.any, AV.any, AV.any, AV.any, AV.any, AV.any, AV.any, AV.any, AV.any, dv (.bool (decide ((climb (ofB 2 [leaf]) (p.take k)) ≠ root)))], [.live (arrK 4 kBool (sidesN i.toNat n.toNat))]⟩) [true, true, true, true, true, false, false, false, false, false, true, true, true, true, false, false, false, false, false, false, false, false, false, false, false, false, false, false, false, false, false, false, false, false, true, false, false, false, false, false, false, false, false, false, false, false, false, false, false, false, false, false, false, false, false, false, false, false, false, false, false, false, false, false, false, false, false, true] [true]
              (oC (oS rfl rfl (r_assign (av := dv (.int .i64 0)) (lt_of rfl) ⟨rfl, trivial⟩)) (oZ rfl))
              (by kernel_rfl) (by kernel_rfl) ?_
            refine nT ?_
            refine T.ret ?_
            exact tE (.inl rfl) [.t 10 (.one (.d (.val (.int .i64 0))))] ⟨⟨rfl, rfl⟩, trivial⟩ [] (by have e1 : ((checkM root leaf i n p) : Int) = 0 := (by first | rfl | exact chk_range (by omega) | exact chk_len (by omega) (by omega) | exact chk_at (p := p) (k := k) (by omega) (by omega) (by assumption) | exact (chk_range (by omega)).symm | exact (chk_len (by omega) (by omega)).symm | exact (chk_at (p := p) (k := k) (by omega) (by omega) (by assumption)).symm | (rw [chk_end (root := root) (leaf := leaf) (k := k) (by omega) hsl (by omega) hb]; simp [*]; done)); have hE := congrArg (fun (q1 : Int) => (dv (.int .i64 q1) : AV)) e1; exact hE) rfl rfl rfl rfl rfl trivial

theorem seq_47 : SEq Try.prog 47 (fun x : api_Step => .agg #[.bool x.f_Left, strV x.f_Digest]) := seq_of (g := fun x : api_Step => #[.bool x.f_Left, strV x.f_Digest]) (bs' := fun a b => [decide (a.f_Left = b.f_Left), decide (a.f_Digest = b.f_Digest)]) Try.underlying47 (by kernel_rfl) (by kernel_rfl) (fun a b => ⟨by decide, ⟨_, _, rfl, rfl, .bool Try.underlying4⟩, ⟨by decide, ⟨_, _, rfl, rfl, .str Try.underlying24⟩, trivial⟩⟩) (fun a b => by rw [Bool.eq_iff_iff]; simp [api_Step_iff])
-- quaestor/quaestorref09.Same
theorem ref09_Same (ta : Bool) (na : Bool) (sa : Bool) (tb : Bool) (nb : Bool) (sb : Bool) (a : List api_Step) (b : List api_Step) (hl : a.length ≤ 9223372036854775807) : Holds Try.prog 16 ⟨[slV ta na (k_api_Step sa) a, slV tb nb (k_api_Step sb) b], [], dv (.bool (decide (a = b))), []⟩ := by
  refine Holds.of Try.func16 rfl (N := 26) Try.ntmps16 rfl fun w0 B0 S0 U0 => ?_
  show T _ (mkBase 26 0 w0 S0 U0 B0) ⟨[slV ta na (k_api_Step sa) a, slV tb nb (k_api_Step sb) b], []⟩ _ _
  refine T.seq ?_
  refine tR (s1 := ⟨[slV ta na (k_api_Step sa) a, slV tb nb (k_api_Step sb) b, AV.any, AV.any, dv (.bool false)], []⟩) [true, true, false, false, true] []
    (oC (oS rfl rfl (r_assign (av := dv (.bool false)) (lt_of rfl) ⟨rfl, trivial⟩)) (oZ rfl))
    (by kernel_rfl) (by kernel_rfl) ?_
  refine nT ?_
  refine T.seq ?_
  refine T.seq ?_
  refine tR (s1 := ⟨[slV ta na (k_api_Step sa) a, slV tb nb (k_api_Step sb) b, AV.any, AV.any, dv (.bool false), AV.any, AV.any, AV.any, AV.any, AV.any, dv (.bool (decide (((a.length : Nat) : Int) ≠ ((b.length : Nat) : Int))))], []⟩) [true, true, false, false, true, false, false, false, false, false, true] []
    (oC (oS rfl rfl (r_move (av := slV ta na (k_api_Step sa) a) (lt_of rfl) trivial))
    (oC (oS rfl rfl (q_len ta na (k_api_Step sa) a Try.underlying27 (lt_of rfl) trivial))
    (oC (oS rfl rfl (r_move (av := slV tb nb (k_api_Step sb) b) (lt_of rfl) trivial))
    (oC (oS rfl rfl (q_len tb nb (k_api_Step sb) b Try.underlying27 (lt_of rfl) trivial))
    (oC (oS rfl rfl (r_bin (u1 := .int .i64 ((a.length : Nat) : Int)) (u2 := .int .i64 ((b.length : Nat) : Int)) (v := .bool (decide (((a.length : Nat) : Int) ≠ ((b.length : Nat) : Int)))) b_neq (lt_of rfl) trivial)) (oZ rfl))))))
    (by kernel_rfl) (by kernel_rfl) ?_
  refine nT ?_
  by_cases hq1 : ((a.length : Nat) : Int) ≠ ((b.length : Nat) : Int)
  · refine T.condT (b := (decide (((a.length : Nat) : Int) ≠ ((b.length : Nat) : Int)))) rfl (decide_eq_true hq1) ?_
    refine T.seq ?_
    refine tR (s1 := ⟨[slV ta na (k_api_Step sa) a, slV tb nb (k_api_Step sb) b, AV.any, AV.any, dv (.bool false), AV.any, AV.any, AV.any, AV.any, AV.any, dv (.bool (decide (((a.length : Nat) : Int) ≠ ((b.length : Nat) : Int))))], []⟩) [true, true, false, false, true, false, false, false, false, false, true] []
      (oC (oS rfl rfl (r_assign (av := dv (.bool false)) (lt_of rfl) ⟨rfl, trivial⟩)) (oZ rfl))
      (by kernel_rfl) (by kernel_rfl) ?_
    refine nT ?_
    refine T.ret ?_
    refine rT ?_
    exact tE (.inl rfl) [.t 4 (.one (.d (.val (.bool false))))] ⟨⟨rfl, rfl⟩, trivial⟩ [] (by have e1 : ((decide (a = b)) : Bool) = false := (by first | exact decide_eq_true (rows_eq (z := z_api_Step) (k := k) hab (by omega) hb) | exact (decide_eq_true (rows_eq (z := z_api_Step) (k := k) hab (by omega) hb)).symm | exact decide_eq_false (fun e => by have h9 : a.length ≠ b.length := (by omega); exact h9 (by rw [e])) | exact (decide_eq_false (fun e => by have h9 : a.length ≠ b.length := (by omega); exact h9 (by rw [e]))).symm | exact decide_eq_false (fun e => by have h9 : a.getD k z_api_Step ≠ b.getD k z_api_Step := (by assumption); exact h9 (by rw [e])) | exact (decide_eq_false (fun e => by have h9 : a.getD k z_api_Step ≠ b.getD k z_api_Step := (by assumption); exact h9 (by rw [e]))).symm); have hE := congrArg (fun (q1 : Bool) => (dv (.bool q1) : AV)) e1; exact hE) rfl rfl rfl rfl rfl trivial
  · refine T.condF (b := (decide (((a.length : Nat) : Int) ≠ ((b.length : Nat) : Int)))) rfl (decide_eq_false hq1) ?_
    refine T.skip ?_
    refine nT ?_
    refine T.seq ?_
    refine T.seq ?_
    refine tR (s1 := ⟨[slV ta na (k_api_Step sa) a, slV tb nb (k_api_Step sb) b, AV.any, AV.any, dv (.bool false), dv (.int .i64 0), AV.any, AV.any, AV.any, AV.any, dv (.bool (decide (((a.length : Nat) : Int) ≠ ((b.length : Nat) : Int))))], []⟩) [true, true, false, false, true, true, false, false, false, false, true] []
      (oC (oS rfl rfl (r_assign (av := dv (.int .i64 0)) (lt_of rfl) ⟨rfl, trivial⟩)) (oZ rfl))
      (by kernel_rfl) (by kernel_rfl) ?_
    refine nT ?_
    refine T.block ?_
    refine T.loop (ι := Nat) (fun (k : Nat) => ⟨[slV ta na (k_api_Step sa) a, slV tb nb (k_api_Step sb) b, AV.any, AV.any, dv (.bool false), dv (.int .i64 ((k : Nat) : Int)), AV.any, AV.any, AV.any, AV.any, dv (.bool (decide (((a.length : Nat) : Int) ≠ ((b.length : Nat) : Int))))], []⟩) (fun (k : Nat) => (k ≤ a.length) ∧ (a.length = b.length) ∧ (∀ j, j < k → a.getD j z_api_Step = b.getD j z_api_Step)) (fun (k : Nat) => a.length - k) (0) ⟨(Nat.zero_le _), (by omega), (fun j hj => absurd hj (Nat.not_lt_zero _))⟩ (fun _ _ hG => Gs.into2 (s := ⟨[slV ta na (k_api_Step sa) a, slV tb nb (k_api_Step sb) b, AV.any, AV.any, dv (.bool false), dv (.int .i64 0), AV.any, AV.any, AV.any, AV.any, dv (.bool (decide (((a.length : Nat) : Int) ≠ ((b.length : Nat) : Int))))], []⟩) (s' := ⟨[slV ta na (k_api_Step sa) a, slV tb nb (k_api_Step sb) b, AV.any, AV.any, dv (.bool false), dv (.int .i64 0), AV.any, AV.any, AV.any, AV.any, dv (.bool (decide (((a.length : Nat) : Int) ≠ ((b.length : Nat) : Int))))], []⟩) [] [true, true, false, false, true, true, false, false, false, false, true] (t1 := [slV ta na (k_api_Step sa) a, slV tb nb (k_api_Step sb) b, AV.any, AV.any, dv (.bool false), dv (.int .i64 0), AV.any, AV.any, AV.any, AV.any, dv (.bool (decide (((a.length : Nat) : Int) ≠ ((b.length : Nat) : Int))))]) (t2 := [slV ta na (k_api_Step sa) a, slV tb nb (k_api_Step sb) b, AV.any, AV.any, dv (.bool false), dv (.int .i64 0), AV.any, AV.any, AV.any, AV.any, dv (.bool (decide (((a.length : Nat) : Int) ≠ ((b.length : Nat) : Int))))]) (h1 := []) (h2 := []) rfl rfl (by kernel_rfl) (by kernel_rfl) (by kernel_rfl) (by kernel_rfl) (by kernel_rfl) (by kernel_rfl) (by kernel_rfl) (by kernel_rfl) (by kernel_rfl) (by kernel_rfl) (by kernel_rfl) hG) ?_
    rintro k ⟨hk, hab, hb⟩
    show T _ _ ⟨[slV ta na (k_api_Step sa) a, slV tb nb (k_api_Step sb) b, AV.any, AV.any, dv (.bool false), dv (.int .i64 ((k : Nat) : Int)), AV.any, AV.any, AV.any, AV.any, dv (.bool (decide (((a.length : Nat) : Int) ≠ ((b.length : Nat) : Int))))], []⟩ _ _
    replace hk : k ≤ a.length := hk
    replace hab : a.length = b.length := hab
    replace hb : ∀ j, j < k → a.getD j z_api_Step = b.getD j z_api_Step := hb
    refine T.seq ?_
    refine T.seq ?_
    refine tR (s1 := ⟨[slV ta na (k_api_Step sa) a, slV tb nb (k_api_Step sb) b, AV.any, AV.any, dv (.bool false), dv (.int .i64 ((k : Nat) : Int)), AV.any, AV.any, AV.any, AV.any, dv (.bool (decide (((a.length : Nat) : Int) ≠ ((b.length : Nat) : Int)))), AV.any, AV.any, AV.any, dv (.bool (decide (((k : Nat) : Int) < ((a.length : Nat) : Int))))], []⟩) [true, true, false, false, true, true, false, false, false, false, true, false, false, false, true] []
      (oC (oS rfl rfl (r_move (av := dv (.int .i64 ((k : Nat) : Int))) (lt_of rfl) trivial))
      (oC (oS rfl rfl (r_move (av := slV ta na (k_api_Step sa) a) (lt_of rfl) trivial))
      (oC (oS rfl rfl (q_len ta na (k_api_Step sa) a Try.underlying27 (lt_of rfl) trivial))
      (oC (oS rfl rfl (r_bin (u1 := .int .i64 ((k : Nat) : Int)) (u2 := .int .i64 ((a.length : Nat) : Int)) (v := .bool (decide (((k : Nat) : Int) < ((a.length : Nat) : Int)))) b_lss (lt_of rfl) trivial)) (oZ rfl)))))
      (by kernel_rfl) (by kernel_rfl) ?_
    refine nT ?_
    by_cases hq2 : ((k : Nat) : Int) < ((a.length : Nat) : Int)
    · refine T.condT (b := (decide (((k : Nat) : Int) < ((a.length : Nat) : Int)))) rfl (decide_eq_true hq2) ?_
      refine T.skip ?_
      refine nT ?_
      refine T.seq ?_
      refine T.block ?_
      refine T.seq ?_
      refine tD (s1 := ⟨[slV ta na (k_api_Step sa) a, slV tb nb (k_api_Step sb) b, AV.any, AV.any, dv (.bool false), dv (.int .i64 ((k : Nat) : Int)), AV.any, AV.any, AV.any, AV.any, dv (.bool (decide (((a.length : Nat) : Int) ≠ ((b.length : Nat) : Int)))), AV.any, AV.any, AV.any, dv (.bool (decide (((k : Nat) : Int) < ((a.length : Nat) : Int)))), AV.any, AV.any, AV.any, AV.any, AV.any, AV.any, AV.any, AV.any, AV.any, AV.any, dv (.bool (decide ((a.getD k z_api_Step) ≠ (b.getD k z_api_Step))))], []⟩) (by kernel_rfl) [[], [], [0, 1], [0, 1, 2], [], [], [4, 5], [4, 5, 6], [0, 1, 2, 3, 4, 5, 6, 7]] [true, true, false, false, true, true, false, false, false, false, true, false, false, false, true, false, false, false, false, false, false, false, false, false, false, true] []
        (oC (oS rfl rfl (r_move (av := slV ta na (k_api_Step sa) a) (lt_of rfl) trivial))
        (oC (oS rfl rfl (r_move (av := dv (.int .i64 ((k : Nat) : Int))) (lt_of rfl) trivial))
        (oC (oS rfl rfl (q_index ta na (k_api_Step sa) a k (k := .i64) (i := ((k : Nat) : Int)) Try.underlying27 iat_47 rfl rfl (by first | assumption | omega | (simp only [maxLen, kU8_sz, kSl_sz, k_api_Step_sz, k_quaestorlaw09_Claim_sz]; omega) | (simp only [maxLen, kU8_sz, kSl_sz, k_api_Step_sz, k_quaestorlaw09_Claim_sz, List.length_append, List.length_cons, List.length_nil, List.length_take, List.length_drop, List.length_set]; omega) | decide) (lt_of rfl) trivial))
        (oC (oS rfl rfl (r_loadEs (tag := ta) (n := 2) (m := 2) (el := (k_api_Step sa).cell (a.getD k (k_api_Step sa).z)) (ds := [.d (.val (.bool (a.getD k z_api_Step).f_Left)), .d (.val (strV (a.getD k z_api_Step).f_Digest))]) wide_47 (by decide) rfl (lt_of rfl) trivial))
        (oC (oS rfl rfl (r_move (av := slV tb nb (k_api_Step sb) b) (lt_of rfl) trivial))
        (oC (oS rfl rfl (r_move (av := dv (.int .i64 ((k : Nat) : Int))) (lt_of rfl) trivial))
        (oC (oS rfl rfl (q_index tb nb (k_api_Step sb) b k (k := .i64) (i := ((k : Nat) : Int)) Try.underlying27 iat_47 rfl rfl (by first | assumption | omega | (simp only [maxLen, kU8_sz, kSl_sz, k_api_Step_sz, k_quaestorlaw09_Claim_sz]; omega) | (simp only [maxLen, kU8_sz, kSl_sz, k_api_Step_sz, k_quaestorlaw09_Claim_sz, List.length_append, List.length_cons, List.length_nil, List.length_take, List.length_drop, List.length_set]; omega) | decide) (lt_of rfl) trivial))
        (oC (oS rfl rfl (r_loadEs (tag := tb) (n := 2) (m := 2) (el := (k_api_Step sb).cell (b.getD k (k_api_Step sb).z)) (ds := [.d (.val (.bool (b.getD k z_api_Step).f_Left)), .d (.val (strV (b.getD k z_api_Step).f_Digest))]) wide_47 (by decide) rfl (lt_of rfl) trivial))
        (oC (oS rfl rfl (r_neSt (ax := .tv (.agg [.d (.val (.bool (a.getD k z_api_Step).f_Left)), .d (.val (strV (a.getD k z_api_Step).f_Digest))])) (ay := .tv (.agg [.d (.val (.bool (b.getD k z_api_Step).f_Left)), .d (.val (strV (b.getD k z_api_Step).f_Digest))])) (a := (a.getD k z_api_Step)) (b := (b.getD k z_api_Step)) seq_47 ⟨[.bool (a.getD k z_api_Step).f_Left, strV (a.getD k z_api_Step).f_Digest], rfl, rfl⟩ ⟨[.bool (b.getD k z_api_Step).f_Left, strV (b.getD k z_api_Step).f_Digest], rfl, rfl⟩ (lt_of rfl) trivial)) (oZ rfl))))))))))
        (by kernel_rfl) (by kernel_rfl) (by kernel_rfl) (by kernel_rfl) (by kernel_rfl) ?_
      refine nT ?_
      by_cases hq3 : (a.getD k z_api_Step) ≠ (b.getD k z_api_Step)
      · refine T.condT (b := (decide ((a.getD k z_api_Step) ≠ (b.getD k z_api_Step)))) rfl (decide_eq_true hq3) ?_
        refine T.seq ?_
        refine tR (s1 := ⟨[slV ta na (k_api_Step sa) a, slV tb nb (k_api_Step sb) b, AV.any, AV.any, dv (.bool false), dv (.int .i64 ((k : Nat) : Int)), AV.any, AV.any, AV.any, AV.any, dv (.bool (decide (((a.length : Nat) : Int) ≠ ((b.length : Nat) : Int)))), AV.any, AV.any, AV.any, dv (.bool (decide (((k : Nat) : Int) < ((a.length : Nat) : Int)))), AV.any, AV.any, AV.any, AV.any, AV.any, AV.any, AV.any, AV.any, AV.any, AV.any, dv (.bool (decide ((a.getD k z_api_Step) ≠ (b.getD k z_api_Step))))], []⟩) [true, true, false, false, true, true, false, false, false, false, true, false, false, false, true, false, false, false, false, false, false, false, false, false, false, true] []
          (oC (oS rfl rfl (r_assign (av := dv (.bool false)) (lt_of rfl) ⟨rfl, trivial⟩)) (oZ rfl))
          (by kernel_rfl) (by kernel_rfl) ?_
        refine nT ?_
        refine T.ret ?_
        refine rB ?_
        refine rT ?_
        refine rT ?_
        refine rB ?_
        refine rT ?_
        exact tE (.inl rfl) [.t 4 (.one (.d (.val (.bool false))))] ⟨⟨rfl, rfl⟩, trivial⟩ [] (by have e1 : ((decide (a = b)) : Bool) = false := (by first | exact decide_eq_true (rows_eq (z := z_api_Step) (k := k) hab (by omega) hb) | exact (decide_eq_true (rows_eq (z := z_api_Step) (k := k) hab (by omega) hb)).symm | exact decide_eq_false (fun e => by have h9 : a.length ≠ b.length := (by omega); exact h9 (by rw [e])) | exact (decide_eq_false (fun e => by have h9 : a.length ≠ b.length := (by omega); exact h9 (by rw [e]))).symm | exact decide_eq_false (fun e => by have h9 : a.getD k z_api_Step ≠ b.getD k z_api_Step := (by assumption); exact h9 (by rw [e])) | exact (decide_eq_false (fun e => by have h9 : a.getD k z_api_Step ≠ b.getD k z_api_Step := (by assumption); exact h9 (by rw [e]))).symm); have hE := congrArg (fun (q1 : Bool) => (dv (.bool q1) : AV)) e1; exact hE) rfl rfl rfl rfl rfl trivial
      · refine T.condF (b := (decide ((a.getD k z_api_Step) ≠ (b.getD k z_api_Step)))) rfl (decide_eq_false hq3) ?_
        refine T.skip ?_
        refine nB ?_
        refine nT ?_
        refine tR (s1 := ⟨[slV ta na (k_api_Step sa) a, slV tb nb (k_api_Step sb) b, AV.any, AV.any, dv (.bool false), dv (.int .i64 ((k + 1 : Nat) : Int)), AV.any, AV.any, AV.any, AV.any, dv (.bool (decide (((a.length : Nat) : Int) ≠ ((b.length : Nat) : Int)))), AV.any, AV.any, AV.any, dv (.bool (decide (((k : Nat) : Int) < ((a.length : Nat) : Int)))), AV.any, AV.any, AV.any, AV.any, AV.any, AV.any, AV.any, AV.any, AV.any, AV.any, dv (.bool (decide ((a.getD k z_api_Step) ≠ (b.getD k z_api_Step))))], []⟩) [true, true, false, false, true, true, false, false, false, false, true, false, false, false, true, false, false, false, false, false, false, false, false, false, false, true] []
          (oC (oS rfl rfl (r_move (av := dv (.int .i64 ((k : Nat) : Int))) (lt_of rfl) trivial))
          (oC (oS rfl rfl (r_bin (u1 := .int .i64 ((k : Nat) : Int)) (u2 := .int .i64 1) (v := .int .i64 ((k + 1 : Nat) : Int)) (b_add (by rw [IntKind.wrap_i64]; omega)) (lt_of rfl) ⟨rfl, trivial⟩))
          (oC (oS rfl rfl (r_assign (av := dv (.int .i64 ((k + 1 : Nat) : Int))) (lt_of rfl) trivial)) (oZ rfl))))
          (by kernel_rfl) (by kernel_rfl) ?_
        refine nL (k + 1) ⟨(show (k + 1) ≤ a.length from (by omega)), (show a.length = b.length from hab), (show ∀ j, j < (k + 1) → a.getD j z_api_Step = b.getD j z_api_Step from (all_succ hb (by first | assumption | exact Classical.not_not.1 (by assumption))))⟩ (show (a.length - (k + 1) : Nat) < a.length - k from (by omega)) (fun _ _ hG => Gs.into2 (s := ⟨[slV ta na (k_api_Step sa) a, slV tb nb (k_api_Step sb) b, AV.any, AV.any, dv (.bool false), dv (.int .i64 ((k + 1 : Nat) : Int)), AV.any, AV.any, AV.any, AV.any, dv (.bool (decide (((a.length : Nat) : Int) ≠ ((b.length : Nat) : Int)))), AV.any, AV.any, AV.any, dv (.bool (decide (((k : Nat) : Int) < ((a.length : Nat) : Int)))), AV.any, AV.any, AV.any, AV.any, AV.any, AV.any, AV.any, AV.any, AV.any, AV.any, dv (.bool (decide ((a.getD k z_api_Step) ≠ (b.getD k z_api_Step))))], []⟩) (s' := ⟨[slV ta na (k_api_Step sa) a, slV tb nb (k_api_Step sb) b, AV.any, AV.any, dv (.bool false), dv (.int .i64 ((k + 1 : Nat) : Int)), AV.any, AV.any, AV.any, AV.any, dv (.bool (decide (((a.length : Nat) : Int) ≠ ((b.length : Nat) : Int))))], []⟩) [] [true, true, false, false, true, true, false, false, false, false, true] (t1 := [slV ta na (k_api_Step sa) a, slV tb nb (k_api_Step sb) b, AV.any, AV.any, dv (.bool false), dv (.int .i64 ((k + 1 : Nat) : Int)), AV.any, AV.any, AV.any, AV.any, dv (.bool (decide (((a.length : Nat) : Int) ≠ ((b.length : Nat) : Int))))]) (t2 := [slV ta na (k_api_Step sa) a, slV tb nb (k_api_Step sb) b, AV.any, AV.any, dv (.bool false), dv (.int .i64 ((k + 1 : Nat) : Int)), AV.any, AV.any, AV.any, AV.any, dv (.bool (decide (((a.length : Nat) : Int) ≠ ((b.length : Nat) : Int))))]) (h1 := []) (h2 := []) rfl rfl (by kernel_rfl) (by kernel_rfl) (by kernel_rfl) (by kernel_rfl) (by kernel_rfl) (by kernel_rfl) (by kernel_rfl) (by kernel_rfl) (by kernel_rfl) (by kernel_rfl) (by kernel_rfl) hG)
    · refine T.condF (b := (decide (((k : Nat) : Int) < ((a.length : Nat) : Int)))) rfl (decide_eq_false hq2) ?_
      refine T.exit ?_
      refine xT ?_
      refine xT ?_
      refine xH ?_
      refine nT ?_
      refine T.seq ?_
      refine tR (s1 := ⟨[slV ta na (k_api_Step sa) a, slV tb nb (k_api_Step sb) b, AV.any, AV.any, dv (.bool true), dv (.int .i64 ((k : Nat) : Int)), AV.any, AV.any, AV.any, AV.any, dv (.bool (decide (((a.length : Nat) : Int) ≠ ((b.length : Nat) : Int)))), AV.any, AV.any, AV.any, dv (.bool (decide (((k : Nat) : Int) < ((a.length : Nat) : Int))))], []⟩) [true, true, false, false, true, true, false, false, false, false, true, false, false, false, true] []
        (oC (oS rfl rfl (r_assign (av := dv (.bool true)) (lt_of rfl) ⟨rfl, trivial⟩)) (oZ rfl))
        (by kernel_rfl) (by kernel_rfl) ?_
      refine nT ?_
      refine T.ret ?_
      exact tE (.inl rfl) [.t 4 (.one (.d (.val (.bool true))))] ⟨⟨rfl, rfl⟩, trivial⟩ [] (by have e1 : ((decide (a = b)) : Bool) = true := (by first | exact decide_eq_true (rows_eq (z := z_api_Step) (k := k) hab (by omega) hb) | exact (decide_eq_true (rows_eq (z := z_api_Step) (k := k) hab (by omega) hb)).symm | exact decide_eq_false (fun e => by have h9 : a.length ≠ b.length := (by omega); exact h9 (by rw [e])) | exact (decide_eq_false (fun e => by have h9 : a.length ≠ b.length := (by omega); exact h9 (by rw [e]))).symm | exact decide_eq_false (fun e => by have h9 : a.getD k z_api_Step ≠ b.getD k z_api_Step := (by assumption); exact h9 (by rw [e])) | exact (decide_eq_false (fun e => by have h9 : a.getD k z_api_Step ≠ b.getD k z_api_Step := (by assumption); exact h9 (by rw [e]))).symm); have hE := congrArg (fun (q1 : Bool) => (dv (.bool q1) : AV)) e1; exact hE) rfl rfl rfl rfl rfl trivial

-- quaestor/quaestorlaw09.few
theorem law_few (tl : Bool) (nl : Bool) (sl_ : Bool) (l : List (List UInt8)) (hl : l.length ≤ 9223372036854775807) : Holds Try.prog 10 ⟨[slV tl nl (kSl sl_ kU8) l], [], dv (.bool (decide (fewG szL 40 200 l))), []⟩ := by
  refine Holds.of Try.func10 rfl (N := 19) Try.ntmps10 rfl fun w0 B0 S0 U0 => ?_
  show T _ (mkBase 19 0 w0 S0 U0 B0) ⟨[slV tl nl (kSl sl_ kU8) l], []⟩ _ _
  refine T.seq ?_
  refine tR (s1 := ⟨[slV tl nl (kSl sl_ kU8) l, AV.any, dv (.bool false)], []⟩) [true, false, true] []
    (oC (oS rfl rfl (r_assign (av := dv (.bool false)) (lt_of rfl) ⟨rfl, trivial⟩)) (oZ rfl))
    (by kernel_rfl) (by kernel_rfl) ?_
  refine nT ?_
  refine T.seq ?_
  refine T.seq ?_
  refine tR (s1 := ⟨[slV tl nl (kSl sl_ kU8) l, AV.any, dv (.bool false), AV.any, AV.any, AV.any, dv (.bool (decide (((l.length : Nat) : Int) > 40)))], []⟩) [true, false, true, false, false, false, true] []
    (oC (oS rfl rfl (r_move (av := slV tl nl (kSl sl_ kU8) l) (lt_of rfl) trivial))
    (oC (oS rfl rfl (q_len tl nl (kSl sl_ kU8) l Try.underlying22 (lt_of rfl) trivial))
    (oC (oS rfl rfl (r_bin (u1 := .int .i64 ((l.length : Nat) : Int)) (u2 := .int .i64 40) (v := .bool (decide (((l.length : Nat) : Int) > 40))) b_gtr (lt_of rfl) ⟨rfl, trivial⟩)) (oZ rfl))))
    (by kernel_rfl) (by kernel_rfl) ?_
  refine nT ?_
  by_cases hq1 : ((l.length : Nat) : Int) > 40
  · refine T.condT (b := (decide (((l.length : Nat) : Int) > 40))) rfl (decide_eq_true hq1) ?_
    refine T.seq ?_
    refine tR (s1 := ⟨[slV tl nl (kSl sl_ kU8) l, AV.any, dv (.bool false), AV.any, AV.any, AV.any, dv (.bool (decide (((l.length : Nat) : Int) > 40)))], []⟩) [true, false, true, false, false, false, true] []
      (oC (oS rfl rfl (r_assign (av := dv (.bool false)) (lt_of rfl) ⟨rfl, trivial⟩)) (oZ rfl))
      (by kernel_rfl) (by kernel_rfl) ?_
    refine nT ?_
    refine T.ret ?_
    refine rT ?_
    exact tE (.inl rfl) [.t 2 (.one (.d (.val (.bool false))))] ⟨⟨rfl, rfl⟩, trivial⟩ [] (by have e1 : ((decide (fewG szL 40 200 l)) : Bool) = false := (by first | exact decide_eq_false (fewG_no1 hq1 rfl) | exact decide_eq_false (fewG_no2 (z := []) (k := k) (by omega) hq3 rfl) | exact decide_eq_true (fewG_yes (z := []) (k := k) hq1 rfl (by omega) hb)); have hE := congrArg (fun (q1 : Bool) => (dv (.bool q1) : AV)) e1; exact hE) rfl rfl rfl rfl rfl trivial
  · refine T.condF (b := (decide (((l.length : Nat) : Int) > 40))) rfl (decide_eq_false hq1) ?_
    refine T.skip ?_
    refine nT ?_
    refine T.seq ?_
    refine T.seq ?_
    refine tR (s1 := ⟨[slV tl nl (kSl sl_ kU8) l, AV.any, dv (.bool false), dv (.int .i64 0), AV.any, AV.any, dv (.bool (decide (((l.length : Nat) : Int) > 40)))], []⟩) [true, false, true, true, false, false, true] []
      (oC (oS rfl rfl (r_assign (av := dv (.int .i64 0)) (lt_of rfl) ⟨rfl, trivial⟩)) (oZ rfl))
      (by kernel_rfl) (by kernel_rfl) ?_
    refine nT ?_
    refine T.block ?_
    refine T.loop (ι := Nat) (fun (k : Nat) => ⟨[slV tl nl (kSl sl_ kU8) l, AV.any, dv (.bool false), dv (.int .i64 ((k : Nat) : Int)), AV.any, AV.any, dv (.bool (decide (((l.length : Nat) : Int) > 40)))], []⟩) (fun (k : Nat) => (k ≤ l.length) ∧ (∀ j, j < k → szL (l.getD j []) ≤ 200)) (fun (k : Nat) => l.length - k) (0) ⟨(Nat.zero_le _), (fun j hj => absurd hj (Nat.not_lt_zero _))⟩ (fun _ _ hG => Gs.into2 (s := ⟨[slV tl nl (kSl sl_ kU8) l, AV.any, dv (.bool false), dv (.int .i64 0), AV.any, AV.any, dv (.bool (decide (((l.length : Nat) : Int) > 40)))], []⟩) (s' := ⟨[slV tl nl (kSl sl_ kU8) l, AV.any, dv (.bool false), dv (.int .i64 0), AV.any, AV.any, dv (.bool (decide (((l.length : Nat) : Int) > 40)))], []⟩) [] [true, false, true, true, false, false, true] (t1 := [slV tl nl (kSl sl_ kU8) l, AV.any, dv (.bool false), dv (.int .i64 0), AV.any, AV.any, dv (.bool (decide (((l.length : Nat) : Int) > 40)))]) (t2 := [slV tl nl (kSl sl_ kU8) l, AV.any, dv (.bool false), dv (.int .i64 0), AV.any, AV.any, dv (.bool (decide (((l.length : Nat) : Int) > 40)))]) (h1 := []) (h2 := []) rfl rfl (by kernel_rfl) (by kernel_rfl) (by kernel_rfl) (by kernel_rfl) (by kernel_rfl) (by kernel_rfl) (by kernel_rfl) (by kernel_rfl) (by kernel_rfl) (by kernel_rfl) (by kernel_rfl) hG) ?_
    rintro k ⟨hk, hb⟩
    show T _ _ ⟨[slV tl nl (kSl sl_ kU8) l, AV.any, dv (.bool false), dv (.int .i64 ((k : Nat) : Int)), AV.any, AV.any, dv (.bool (decide (((l.length : Nat) : Int) > 40)))], []⟩ _ _
    replace hk : k ≤ l.length := hk
    replace hb : ∀ j, j < k → szL (l.getD j []) ≤ 200 := hb
    refine T.seq ?_
    refine T.seq ?_
    refine tR (s1 := ⟨[slV tl nl (kSl sl_ kU8) l, AV.any, dv (.bool false), dv (.int .i64 ((k : Nat) : Int)), AV.any, AV.any, dv (.bool (decide (((l.length : Nat) : Int) > 40))), AV.any, AV.any, AV.any, dv (.bool (decide (((k : Nat) : Int) < ((l.length : Nat) : Int))))], []⟩) [true, false, true, true, false, false, true, false, false, false, true] []
      (oC (oS rfl rfl (r_move (av := dv (.int .i64 ((k : Nat) : Int))) (lt_of rfl) trivial))
      (oC (oS rfl rfl (r_move (av := slV tl nl (kSl sl_ kU8) l) (lt_of rfl) trivial))
      (oC (oS rfl rfl (q_len tl nl (kSl sl_ kU8) l Try.underlying22 (lt_of rfl) trivial))
      (oC (oS rfl rfl (r_bin (u1 := .int .i64 ((k : Nat) : Int)) (u2 := .int .i64 ((l.length : Nat) : Int)) (v := .bool (decide (((k : Nat) : Int) < ((l.length : Nat) : Int)))) b_lss (lt_of rfl) trivial)) (oZ rfl)))))
      (by kernel_rfl) (by kernel_rfl) ?_
    refine nT ?_
    by_cases hq2 : ((k : Nat) : Int) < ((l.length : Nat) : Int)
    · refine T.condT (b := (decide (((k : Nat) : Int) < ((l.length : Nat) : Int)))) rfl (decide_eq_true hq2) ?_
      refine T.skip ?_
      refine nT ?_
      refine T.seq ?_
      refine T.block ?_
      refine T.seq ?_
      refine tR (s1 := ⟨[slV tl nl (kSl sl_ kU8) l, AV.any, dv (.bool false), dv (.int .i64 ((k : Nat) : Int)), AV.any, AV.any, dv (.bool (decide (((l.length : Nat) : Int) > 40))), AV.any, AV.any, AV.any, dv (.bool (decide (((k : Nat) : Int) < ((l.length : Nat) : Int)))), AV.any, AV.any, AV.any, AV.any, AV.any, AV.any, AV.any, dv (.bool (decide ((((l.getD k []).length : Nat) : Int) > 200)))], []⟩) [true, false, true, true, false, false, true, false, false, false, true, false, false, false, false, false, false, false, true] []
        (oC (oS rfl rfl (r_move (av := slV tl nl (kSl sl_ kU8) l) (lt_of rfl) trivial))
        (oC (oS rfl rfl (r_move (av := dv (.int .i64 ((k : Nat) : Int))) (lt_of rfl) trivial))
        (oC (oS rfl rfl (q_index tl nl (kSl sl_ kU8) l k (k := .i64) (i := ((k : Nat) : Int)) Try.underlying22 iat_33 rfl rfl (by first | assumption | omega | (simp only [maxLen, kU8_sz, kSl_sz, k_api_Step_sz, k_quaestorlaw09_Claim_sz]; omega) | (simp only [maxLen, kU8_sz, kSl_sz, k_api_Step_sz, k_quaestorlaw09_Claim_sz, List.length_append, List.length_cons, List.length_nil, List.length_take, List.length_drop, List.length_set]; omega) | decide) (lt_of rfl) trivial))
        (oC (oS rfl rfl (r_loadE (tag := tl) (n := 1) (el := (kSl sl_ kU8).cell (l.getD k (kSl sl_ kU8).z)) (e0 := dsl sl_ false kU8 (l.getD k [])) wide_33 (by decide) rfl (lt_of rfl) trivial))
        (oC (oS rfl rfl (q_len sl_ false kU8 (l.getD k []) Try.underlying33 (lt_of rfl) trivial))
        (oC (oS rfl rfl (r_bin (u1 := .int .i64 (((l.getD k []).length : Nat) : Int)) (u2 := .int .i64 200) (v := .bool (decide ((((l.getD k []).length : Nat) : Int) > 200))) b_gtr (lt_of rfl) ⟨rfl, trivial⟩)) (oZ rfl)))))))
        (by kernel_rfl) (by kernel_rfl) ?_
      refine nT ?_
      by_cases hq3 : (((l.getD k []).length : Nat) : Int) > 200
      · refine T.condT (b := (decide ((((l.getD k []).length : Nat) : Int) > 200))) rfl (decide_eq_true hq3) ?_
        refine T.seq ?_
        refine tR (s1 := ⟨[slV tl nl (kSl sl_ kU8) l, AV.any, dv (.bool false), dv (.int .i64 ((k : Nat) : Int)), AV.any, AV.any, dv (.bool (decide (((l.length : Nat) : Int) > 40))), AV.any, AV.any, AV.any, dv (.bool (decide (((k : Nat) : Int) < ((l.length : Nat) : Int)))), AV.any, AV.any, AV.any, AV.any, AV.any, AV.any, AV.any, dv (.bool (decide ((((l.getD k []).length : Nat) : Int) > 200)))], []⟩) [true, false, true, true, false, false, true, false, false, false, true, false, false, false, false, false, false, false, true] []
          (oC (oS rfl rfl (r_assign (av := dv (.bool false)) (lt_of rfl) ⟨rfl, trivial⟩)) (oZ rfl))
          (by kernel_rfl) (by kernel_rfl) ?_
        refine nT ?_
        refine T.ret ?_
        refine rB ?_
        refine rT ?_
        refine rT ?_
        refine rB ?_
        refine rT ?_
        exact tE (.inl rfl) [.t 2 (.one (.d (.val (.bool false))))] ⟨⟨rfl, rfl⟩, trivial⟩ [] (by have e1 : ((decide (fewG szL 40 200 l)) : Bool) = false := (by first | exact decide_eq_false (fewG_no1 hq1 rfl) | exact decide_eq_false (fewG_no2 (z := []) (k := k) (by omega) hq3 rfl) | exact decide_eq_true (fewG_yes (z := []) (k := k) hq1 rfl (by omega) hb)); have hE := congrArg (fun (q1 : Bool) => (dv (.bool q1) : AV)) e1; exact hE) rfl rfl rfl rfl rfl trivial
      · refine T.condF (b := (decide ((((l.getD k []).length : Nat) : Int) > 200))) rfl (decide_eq_false hq3) ?_
        refine T.skip ?_
        refine nB ?_
        refine nT ?_
        refine tR (s1 := ⟨[slV tl nl (kSl sl_ kU8) l, AV.any, dv (.bool false), dv (.int .i64 ((k + 1 : Nat) : Int)), AV.any, AV.any, dv (.bool (decide (((l.length : Nat) : Int) > 40))), AV.any, AV.any, AV.any, dv (.bool (decide (((k : Nat) : Int) < ((l.length : Nat) : Int)))), AV.any, AV.any, AV.any, AV.any, AV.any, AV.any, AV.any, dv (.bool (decide ((((l.getD k []).length : Nat) : Int) > 200)))], []⟩) [true, false, true, true, false, false, true, false, false, false, true, false, false, false, false, false, false, false, true] []
          (oC (oS rfl rfl (r_move (av := dv (.int .i64 ((k : Nat) : Int))) (lt_of rfl) trivial))
          (oC (oS rfl rfl (r_bin (u1 := .int .i64 ((k : Nat) : Int)) (u2 := .int .i64 1) (v := .int .i64 ((k + 1 : Nat) : Int)) (b_add (by rw [IntKind.wrap_i64]; omega)) (lt_of rfl) ⟨rfl, trivial⟩))
          (oC (oS rfl rfl (r_assign (av := dv (.int .i64 ((k + 1 : Nat) : Int))) (lt_of rfl) trivial)) (oZ rfl))))
          (by kernel_rfl) (by kernel_rfl) ?_
        refine nL (k + 1) ⟨(show (k + 1) ≤ l.length from (by omega)), (show ∀ j, j < (k + 1) → szL (l.getD j []) ≤ 200 from (all_succ hb (by have h9 : (((l.getD k []).length : Nat) : Int) ≤ 200 := (by omega); exact Int.ofNat_le.1 h9)))⟩ (show (l.length - (k + 1) : Nat) < l.length - k from (by omega)) (fun _ _ hG => Gs.into2 (s := ⟨[slV tl nl (kSl sl_ kU8) l, AV.any, dv (.bool false), dv (.int .i64 ((k + 1 : Nat) : Int)), AV.any, AV.any, dv (.bool (decide (((l.length : Nat) : Int) > 40))), AV.any, AV.any, AV.any, dv (.bool (decide (((k : Nat) : Int) < ((l.length : Nat) : Int)))), AV.any, AV.any, AV.any, AV.any, AV.any, AV.any, AV.any, dv (.bool (decide ((((l.getD k []).length : Nat) : Int) > 200)))], []⟩) (s' := ⟨[slV tl nl (kSl sl_ kU8) l, AV.any, dv (.bool false), dv (.int .i64 ((k + 1 : Nat) : Int)), AV.any, AV.any, dv (.bool (decide (((l.length : Nat) : Int) > 40)))], []⟩) [] [true, false, true, true, false, false, true] (t1 := [slV tl nl (kSl sl_ kU8) l, AV.any, dv (.bool false), dv (.int .i64 ((k + 1 : Nat) : Int)), AV.any, AV.any, dv (.bool (decide (((l.length : Nat) : Int) > 40)))]) (t2 := [slV tl nl (kSl sl_ kU8) l, AV.any, dv (.bool false), dv (.int .i64 ((k + 1 : Nat) : Int)), AV.any, AV.any, dv (.bool (decide (((l.length : Nat) : Int) > 40)))]) (h1 := []) (h2 := []) rfl rfl (by kernel_rfl) (by kernel_rfl) (by kernel_rfl) (by kernel_rfl) (by kernel_rfl) (by kernel_rfl) (by kernel_rfl) (by kernel_rfl) (by kernel_rfl) (by kernel_rfl) (by kernel_rfl) hG)
    · refine T.condF (b := (decide (((k : Nat) : Int) < ((l.length : Nat) : Int)))) rfl (decide_eq_false hq2) ?_
      refine T.exit ?_
      refine xT ?_
      refine xT ?_
      refine xH ?_
      refine nT ?_
      refine T.seq ?_
      refine tR (s1 := ⟨[slV tl nl (kSl sl_ kU8) l, AV.any, dv (.bool true), dv (.int .i64 ((k : Nat) : Int)), AV.any, AV.any, dv (.bool (decide (((l.length : Nat) : Int) > 40))), AV.any, AV.any, AV.any, dv (.bool (decide (((k : Nat) : Int) < ((l.length : Nat) : Int))))], []⟩) [true, false, true, true, false, false, true, false, false, false, true] []
        (oC (oS rfl rfl (r_assign (av := dv (.bool true)) (lt_of rfl) ⟨rfl, trivial⟩)) (oZ rfl))
        (by kernel_rfl) (by kernel_rfl) ?_
      refine nT ?_
      refine T.ret ?_
      exact tE (.inl rfl) [.t 2 (.one (.d (.val (.bool true))))] ⟨⟨rfl, rfl⟩, trivial⟩ [] (by have e1 : ((decide (fewG szL 40 200 l)) : Bool) = true := (by first | exact decide_eq_false (fewG_no1 hq1 rfl) | exact decide_eq_false (fewG_no2 (z := []) (k := k) (by omega) hq3 rfl) | exact decide_eq_true (fewG_yes (z := []) (k := k) hq1 rfl (by omega) hb)); have hE := congrArg (fun (q1 : Bool) => (dv (.bool q1) : AV)) e1; exact hE) rfl rfl rfl rfl rfl trivial

-- quaestor/quaestorlaw09.short
theorem law_short (tl : Bool) (nl : Bool) (sl_ : Bool) (l : List api_Step) (hl : l.length ≤ 9223372036854775807) : Holds Try.prog 17 ⟨[slV tl nl (k_api_Step sl_) l], [], dv (.bool (decide (fewG szS 70 2000 l))), []⟩ := by
  refine Holds.of Try.func17 rfl (N := 20) Try.ntmps17 rfl fun w0 B0 S0 U0 => ?_
  show T _ (mkBase 20 0 w0 S0 U0 B0) ⟨[slV tl nl (k_api_Step sl_) l], []⟩ _ _
  refine T.seq ?_
  refine tR (s1 := ⟨[slV tl nl (k_api_Step sl_) l, AV.any, dv (.bool false)], []⟩) [true, false, true] []
    (oC (oS rfl rfl (r_assign (av := dv (.bool false)) (lt_of rfl) ⟨rfl, trivial⟩)) (oZ rfl))
    (by kernel_rfl) (by kernel_rfl) ?_
  refine nT ?_
  refine T.seq ?_
  refine T.seq ?_
  refine tR (s1 := ⟨[slV tl nl (k_api_Step sl_) l, AV.any, dv (.bool false), AV.any, AV.any, AV.any, dv (.bool (decide (((l.length : Nat) : Int) > 70)))], []⟩) [true, false, true, false, false, false, true] []
    (oC (oS rfl rfl (r_move (av := slV tl nl (k_api_Step sl_) l) (lt_of rfl) trivial))
    (oC (oS rfl rfl (q_len tl nl (k_api_Step sl_) l Try.underlying27 (lt_of rfl) trivial))
    (oC (oS rfl rfl (r_bin (u1 := .int .i64 ((l.length : Nat) : Int)) (u2 := .int .i64 70) (v := .bool (decide (((l.length : Nat) : Int) > 70))) b_gtr (lt_of rfl) ⟨rfl, trivial⟩)) (oZ rfl))))
    (by kernel_rfl) (by kernel_rfl) ?_
  refine nT ?_
  by_cases hq1 : ((l.length : Nat) : Int) > 70
  · refine T.condT (b := (decide (((l.length : Nat) : Int) > 70))) rfl (decide_eq_true hq1) ?_
    refine T.seq ?_
    refine tR (s1 := ⟨[slV tl nl (k_api_Step sl_) l, AV.any, dv (.bool false), AV.any, AV.any, AV.any, dv (.bool (decide (((l.length : Nat) : Int) > 70)))], []⟩) [true, false, true, false, false, false, true] []
      (oC (oS rfl rfl (r_assign (av := dv (.bool false)) (lt_of rfl) ⟨rfl, trivial⟩)) (oZ rfl))
      (by kernel_rfl) (by kernel_rfl) ?_
    refine nT ?_
    refine T.ret ?_
    refine rT ?_
    exact tE (.inl rfl) [.t 2 (.one (.d (.val (.bool false))))] ⟨⟨rfl, rfl⟩, trivial⟩ [] (by have e1 : ((decide (fewG szS 70 2000 l)) : Bool) = false := (by first | exact decide_eq_false (fewG_no1 hq1 rfl) | exact decide_eq_false (fewG_no2 (z := z_api_Step) (k := k) (by omega) hq3 rfl) | exact decide_eq_true (fewG_yes (z := z_api_Step) (k := k) hq1 rfl (by omega) hb)); have hE := congrArg (fun (q1 : Bool) => (dv (.bool q1) : AV)) e1; exact hE) rfl rfl rfl rfl rfl trivial
  · refine T.condF (b := (decide (((l.length : Nat) : Int) > 70))) rfl (decide_eq_false hq1) ?_
    refine T.skip ?_
    refine nT ?_
    refine T.seq ?_
    refine T.seq ?_
    refine tR (s1 := ⟨[slV tl nl (k_api_Step sl_) l, AV.any, dv (.bool false), dv (.int .i64 0), AV.any, AV.any, dv (.bool (decide (((l.length : Nat) : Int) > 70)))], []⟩) [true, false, true, true, false, false, true] []
      (oC (oS rfl rfl (r_assign (av := dv (.int .i64 0)) (lt_of rfl) ⟨rfl, trivial⟩)) (oZ rfl))
      (by kernel_rfl) (by kernel_rfl) ?_
    refine nT ?_
    refine T.block ?_
    refine T.loop (ι := Nat) (fun (k : Nat) => ⟨[slV tl nl (k_api_Step sl_) l, AV.any, dv (.bool false), dv (.int .i64 ((k : Nat) : Int)), AV.any, AV.any, dv (.bool (decide (((l.length : Nat) : Int) > 70)))], []⟩) (fun (k : Nat) => (k ≤ l.length) ∧ (∀ j, j < k → szS (l.getD j z_api_Step) ≤ 2000)) (fun (k : Nat) => l.length - k) (0) ⟨(Nat.zero_le _), (fun j hj => absurd hj (Nat.not_lt_zero _))⟩ (fun _ _ hG => Gs.into2 (s := ⟨[slV tl nl (k_api_Step sl_) l, AV.any, dv (.bool false), dv (.int .i64 0), AV.any, AV.any, dv (.bool (decide (((l.length : Nat) : Int) > 70)))], []⟩) (s' := ⟨[slV tl nl (k_api_Step sl_) l, AV.any, dv (.bool false), dv (.int .i64 0), AV.any, AV.any, dv (.bool (decide (((l.length : Nat) : Int) > 70)))], []⟩) [] [true, false, true, true, false, false, true] (t1 := [slV tl nl (k_api_Step sl_) l, AV.any, dv (.bool false), dv (.int .i64 0), AV.any, AV.any, dv (.bool (decide (((l.length : Nat) : Int) > 70)))]) (t2 := [slV tl nl (k_api_Step sl_) l, AV.any, dv (.bool false), dv (.int .i64 0), AV.any, AV.any, dv (.bool (decide (((l.length : Nat) : Int) > 70)))]) (h1 := []) (h2 := []) rfl rfl (by kernel_rfl) (by kernel_rfl) (by kernel_rfl) (by kernel_rfl) (by kernel_rfl) (by kernel_rfl) (by kernel_rfl) (by kernel_rfl) (by kernel_rfl) (by kernel_rfl) (by kernel_rfl) hG) ?_
    rintro k ⟨hk, hb⟩
    show T _ _ ⟨[slV tl nl (k_api_Step sl_) l, AV.any, dv (.bool false), dv (.int .i64 ((k : Nat) : Int)), AV.any, AV.any, dv (.bool (decide (((l.length : Nat) : Int) > 70)))], []⟩ _ _
    replace hk : k ≤ l.length := hk
    replace hb : ∀ j, j < k → szS (l.getD j z_api_Step) ≤ 2000 := hb
    refine T.seq ?_
    refine T.seq ?_
    refine tR (s1 := ⟨[slV tl nl (k_api_Step sl_) l, AV.any, dv (.bool false), dv (.int .i64 ((k : Nat) : Int)), AV.any, AV.any, dv (.bool (decide (((l.length : Nat) : Int) > 70))), AV.any, AV.any, AV.any, dv (.bool (decide (((k : Nat) : Int) < ((l.length : Nat) : Int))))], []⟩) [true, false, true, true, false, false, true, false, false, false, true] []
      (oC (oS rfl rfl (r_move (av := dv (.int .i64 ((k : Nat) : Int))) (lt_of rfl) trivial))
      (oC (oS rfl rfl (r_move (av := slV tl nl (k_api_Step sl_) l) (lt_of rfl) trivial))
      (oC (oS rfl rfl (q_len tl nl (k_api_Step sl_) l Try.underlying27 (lt_of rfl) trivial))
      (oC (oS rfl rfl (r_bin (u1 := .int .i64 ((k : Nat) : Int)) (u2 := .int .i64 ((l.length : Nat) : Int)) (v := .bool (decide (((k : Nat) : Int) < ((l.length : Nat) : Int)))) b_lss (lt_of rfl) trivial)) (oZ rfl)))))
      (by kernel_rfl) (by kernel_rfl) ?_
    refine nT ?_
    by_cases hq2 : ((k : Nat) : Int) < ((l.length : Nat) : Int)
    · refine T.condT (b := (decide (((k : Nat) : Int) < ((l.length : Nat) : Int)))) rfl (decide_eq_true hq2) ?_
      refine T.skip ?_
      refine nT ?_
      refine T.seq ?_
      refine T.block ?_
      refine T.seq ?_
      refine tR (s1 := ⟨[slV tl nl (k_api_Step sl_) l, AV.any, dv (.bool false), dv (.int .i64 ((k : Nat) : Int)), AV.any, AV.any, dv (.bool (decide (((l.length : Nat) : Int) > 70))), AV.any, AV.any, AV.any, dv (.bool (decide (((k : Nat) : Int) < ((l.length : Nat) : Int)))), AV.any, AV.any, AV.any, AV.any, AV.any, AV.any, AV.any, AV.any, dv (.bool (decide ((((l.getD k z_api_Step).f_Digest.length : Nat) : Int) > 2000)))], []⟩) [true, false, true, true, false, false, true, false, false, false, true, false, false, false, false, false, false, false, false, true] []
        (oC (oS rfl rfl (r_move (av := slV tl nl (k_api_Step sl_) l) (lt_of rfl) trivial))
        (oC (oS rfl rfl (r_move (av := dv (.int .i64 ((k : Nat) : Int))) (lt_of rfl) trivial))
        (oC (oS rfl rfl (q_index tl nl (k_api_Step sl_) l k (k := .i64) (i := ((k : Nat) : Int)) Try.underlying27 iat_47 rfl rfl (by first | assumption | omega | (simp only [maxLen, kU8_sz, kSl_sz, k_api_Step_sz, k_quaestorlaw09_Claim_sz]; omega) | (simp only [maxLen, kU8_sz, kSl_sz, k_api_Step_sz, k_quaestorlaw09_Claim_sz, List.length_append, List.length_cons, List.length_nil, List.length_take, List.length_drop, List.length_set]; omega) | decide) (lt_of rfl) trivial))
        (oC (oS rfl rfl (r_fieldAddrE (tag := tl) (n := 2) (m := 1) (el := (k_api_Step sl_).cell (l.getD k (k_api_Step sl_).z)) fld_47_1 (by decide) (lt_of rfl) trivial))
        (oC (oS rfl rfl (r_loadE (tag := tl) (n := 1) (el := fun j_ => ((k_api_Step sl_).cell (l.getD k (k_api_Step sl_).z)) (1 + j_)) (e0 := .val (strV (l.getD k z_api_Step).f_Digest)) wide_24 (by decide) rfl (lt_of rfl) trivial))
        (oC (oS rfl rfl (q_lenStr (l.getD k z_api_Step).f_Digest Try.underlying24 (lt_of rfl) trivial))
        (oC (oS rfl rfl (r_bin (u1 := .int .i64 (((l.getD k z_api_Step).f_Digest.length : Nat) : Int)) (u2 := .int .i64 2000) (v := .bool (decide ((((l.getD k z_api_Step).f_Digest.length : Nat) : Int) > 2000))) b_gtr (lt_of rfl) ⟨rfl, trivial⟩)) (oZ rfl))))))))
        (by kernel_rfl) (by kernel_rfl) ?_
      refine nT ?_
      by_cases hq3 : (((l.getD k z_api_Step).f_Digest.length : Nat) : Int) > 2000
      · refine T.condT (b := (decide ((((l.getD k z_api_Step).f_Digest.length : Nat) : Int) > 2000))) rfl (decide_eq_true hq3) ?_
        refine T.seq ?_
        refine tR (s1 := ⟨[slV tl nl (k_api_Step sl_) l, AV.any, dv (.bool false), dv (.int .i64 ((k : Nat) : Int)), AV.any, AV.any, dv (.bool (decide (((l.length : Nat) : Int) > 70))), AV.any, AV.any, AV.any, dv (.bool (decide (((k : Nat) : Int) < ((l.length : Nat) : Int)))), AV.any, AV.any, AV.any, AV.any, AV.any, AV.any, AV.any, AV.any, dv (.bool (decide ((((l.getD k z_api_Step).f_Digest.length : Nat) : Int) > 2000)))], []⟩) [true, false, true, true, false, false, true, false, false, false, true, false, false, false, false, false, false, false, false, true] []
          (oC (oS rfl rfl (r_assign (av := dv (.bool false)) (lt_of rfl) ⟨rfl, trivial⟩)) (oZ rfl))
          (by kernel_rfl) (by kernel_rfl) ?_
        refine nT ?_
        refine T.ret ?_
        refine rB ?_
        refine rT ?_
        refine rT ?_
        refine rB ?_
        refine rT ?_
        exact tE (.inl rfl) [.t 2 (.one (.d (.val (.bool false))))] ⟨⟨rfl, rfl⟩, trivial⟩ [] (by have e1 : ((decide (fewG szS 70 2000 l)) : Bool) = false := (by first | exact decide_eq_false (fewG_no1 hq1 rfl) | exact decide_eq_false (fewG_no2 (z := z_api_Step) (k := k) (by omega) hq3 rfl) | exact decide_eq_true (fewG_yes (z := z_api_Step) (k := k) hq1 rfl (by omega) hb)); have hE := congrArg (fun (q1 : Bool) => (dv (.bool q1) : AV)) e1; exact hE) rfl rfl rfl rfl rfl trivial
      · refine T.condF (b := (decide ((((l.getD k z_api_Step).f_Digest.length : Nat) : Int) > 2000))) rfl (decide_eq_false hq3) ?_
        refine T.skip ?_
        refine nB ?_
        refine nT ?_
        refine tR (s1 := ⟨[slV tl nl (k_api_Step sl_) l, AV.any, dv (.bool false), dv (.int .i64 ((k + 1 : Nat) : Int)), AV.any, AV.any, dv (.bool (decide (((l.length : Nat) : Int) > 70))), AV.any, AV.any, AV.any, dv (.bool (decide (((k : Nat) : Int) < ((l.length : Nat) : Int)))), AV.any, AV.any, AV.any, AV.any, AV.any, AV.any, AV.any, AV.any, dv (.bool (decide ((((l.getD k z_api_Step).f_Digest.length : Nat) : Int) > 2000)))], []⟩) [true, false, true, true, false, false, true, false, false, false, true, false, false, false, false, false, false, false, false, true] []
          (oC (oS rfl rfl (r_move (av := dv (.int .i64 ((k : Nat) : Int))) (lt_of rfl) trivial))
          (oC (oS rfl rfl (r_bin (u1 := .int .i64 ((k : Nat) : Int)) (u2 := .int .i64 1) (v := .int .i64 ((k + 1 : Nat) : Int)) (b_add (by rw [IntKind.wrap_i64]; omega)) (lt_of rfl) ⟨rfl, trivial⟩))
          (oC (oS rfl rfl (r_assign (av := dv (.int .i64 ((k + 1 : Nat) : Int))) (lt_of rfl) trivial)) (oZ rfl))))
          (by kernel_rfl) (by kernel_rfl) ?_
        refine nL (k + 1) ⟨(show (k + 1) ≤ l.length from (by omega)), (show ∀ j, j < (k + 1) → szS (l.getD j z_api_Step) ≤ 2000 from (all_succ hb (by have h9 : (((l.getD k z_api_Step).f_Digest.length : Nat) : Int) ≤ 2000 := (by omega); exact Int.ofNat_le.1 h9)))⟩ (show (l.length - (k + 1) : Nat) < l.length - k from (by omega)) (fun _ _ hG => Gs.into2 (s := ⟨[slV tl nl (k_api_Step sl_) l, AV.any, dv (.bool false), dv (.int .i64 ((k + 1 : Nat) : Int)), AV.any, AV.any, dv (.bool (decide (((l.length : Nat) : Int) > 70))), AV.any, AV.any, AV.any, dv (.bool (decide (((k : Nat) : Int) < ((l.length : Nat) : Int)))), AV.any, AV.any, AV.any, AV.any, AV.any, AV.any, AV.any, AV.any, dv (.bool (decide ((((l.getD k z_api_Step).f_Digest.length : Nat) : Int) > 2000)))], []⟩) (s' := ⟨[slV tl nl (k_api_Step sl_) l, AV.any, dv (.bool false), dv (.int .i64 ((k + 1 : Nat) : Int)), AV.any, AV.any, dv (.bool (decide (((l.length : Nat) : Int) > 70)))], []⟩) [] [true, false, true, true, false, false, true] (t1 := [slV tl nl (k_api_Step sl_) l, AV.any, dv (.bool false), dv (.int .i64 ((k + 1 : Nat) : Int)), AV.any, AV.any, dv (.bool (decide (((l.length : Nat) : Int) > 70)))]) (t2 := [slV tl nl (k_api_Step sl_) l, AV.any, dv (.bool false), dv (.int .i64 ((k + 1 : Nat) : Int)), AV.any, AV.any, dv (.bool (decide (((l.length : Nat) : Int) > 70)))]) (h1 := []) (h2 := []) rfl rfl (by kernel_rfl) (by kernel_rfl) (by kernel_rfl) (by kernel_rfl) (by kernel_rfl) (by kernel_rfl) (by kernel_rfl) (by kernel_rfl) (by kernel_rfl) (by kernel_rfl) (by kernel_rfl) hG)
    · refine T.condF (b := (decide (((k : Nat) : Int) < ((l.length : Nat) : Int)))) rfl (decide_eq_false hq2) ?_
      refine T.exit ?_
      refine xT ?_
      refine xT ?_
      refine xH ?_
      refine nT ?_
      refine T.seq ?_
      refine tR (s1 := ⟨[slV tl nl (k_api_Step sl_) l, AV.any, dv (.bool true), dv (.int .i64 ((k : Nat) : Int)), AV.any, AV.any, dv (.bool (decide (((l.length : Nat) : Int) > 70))), AV.any, AV.any, AV.any, dv (.bool (decide (((k : Nat) : Int) < ((l.length : Nat) : Int))))], []⟩) [true, false, true, true, false, false, true, false, false, false, true] []
        (oC (oS rfl rfl (r_assign (av := dv (.bool true)) (lt_of rfl) ⟨rfl, trivial⟩)) (oZ rfl))
        (by kernel_rfl) (by kernel_rfl) ?_
      refine nT ?_
      refine T.ret ?_
      exact tE (.inl rfl) [.t 2 (.one (.d (.val (.bool true))))] ⟨⟨rfl, rfl⟩, trivial⟩ [] (by have e1 : ((decide (fewG szS 70 2000 l)) : Bool) = true := (by first | exact decide_eq_false (fewG_no1 hq1 rfl) | exact decide_eq_false (fewG_no2 (z := z_api_Step) (k := k) (by omega) hq3 rfl) | exact decide_eq_true (fewG_yes (z := z_api_Step) (k := k) hq1 rfl (by omega) hb)); have hE := congrArg (fun (q1 : Bool) => (dv (.bool q1) : AV)) e1; exact hE) rfl rfl rfl rfl rfl trivial
end Go.Proofs.Ytcpdbbabbnbghaa.Q
