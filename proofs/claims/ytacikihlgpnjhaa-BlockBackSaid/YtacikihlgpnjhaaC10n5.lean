import Derived.Test.YtacikihlgpnjhaaC10n4
namespace Go.Proofs.Ytacikihlgpnjhaa.Q
open Go Go.RowKit
set_option linter.unusedVariables false
set_option linter.unusedSimpArgs false
set_option maxRecDepth 100000
set_option maxHeartbeats 4000000
theorem fld_67_0 : FieldAt Try.prog 67 0 0 := ⟨_, _, _, Try.underlying67, rfl, iat_4, by decide, rfl⟩
theorem fld_67_1 : FieldAt Try.prog 67 1 1 := ⟨_, _, _, Try.underlying67, rfl, iat_22, by decide, rfl⟩
theorem wide_22 : Wide Try.prog 22 none := ⟨_, Try.underlying22, (fun _ h => by cases h), (fun _ _ h => by cases h)⟩
-- quaestor/merkle.Check
theorem merkle_Check (root : List UInt8) (tleaf : Bool) (nleaf : Bool) (leaf : List UInt8) (i : Int) (n : Int) (tp : Bool) (np : Bool) (p : List api_Step) (hp : fewG szS 70 30000 p) (hl : leaf.length ≤ 600) (hn : n ≤ 9223372036854775807) : Holds Try.prog 40 ⟨[dv (strV root), slV tleaf nleaf kU8 leaf, dv (.int .i64 i), dv (.int .i64 n), slV tp np (k_api_Step false) p], [], dv (.int .i64 (checkM root leaf i n p)), []⟩ := by
  refine Holds.of Try.func40 rfl (N := 62) Try.ntmps40 rfl fun w0 B0 S0 U0 => ?_
  show T _ (mkBase 62 0 w0 S0 U0 B0) ⟨[dv (strV root), slV tleaf nleaf kU8 leaf, dv (.int .i64 i), dv (.int .i64 n), slV tp np (k_api_Step false) p], []⟩ _ _
  have hp70 := hp.1
  refine T.seq ?_
  refine xR [] (by kernel_rfl) (by kernel_rfl) ?_
  refine nT ?_
  refine T.seq ?_
  refine T.seq ?_
  by_cases hq1 : i < 0
  · refine xR [hN 3 false (decide_eq_true hq1),
      hN 4 false (decide_eq_true hq1),
      hN 5 false (decide_eq_true hq1),
      hP 6 (decide_eq_true hq1)] (by kernel_rfl) (by kernel_rfl) ?_
    refine nT ?_
    refine T.condT (b := true) (by kernel_rfl) rfl ?_
    refine T.seq ?_
    refine xR [] (by kernel_rfl) (by kernel_rfl) ?_
    refine nT ?_
    refine T.ret ?_
    refine rT ?_
    exact tE (.inl rfl) [.t 10 (.one (.d (.val (.int .i64 2))))] ⟨⟨rfl, by kernel_rfl⟩, trivial⟩ [] (by have e1 : ((checkM root leaf i n p) : Int) = 2 := (by first | rfl | exact chk_range (by omega) | exact chk_len (by omega) (by omega) | exact chk_at (p := p) (k := k) (by omega) (by omega) (by assumption) | exact (chk_range (by omega)).symm | exact (chk_len (by omega) (by omega)).symm | exact (chk_at (p := p) (k := k) (by omega) (by omega) (by assumption)).symm | (rw [chk_end (root := root) (leaf := leaf) (k := k) (by omega) hsl (by omega) hb]; simp [*]; done)); have hE := congrArg (fun (q1 : Int) => (dv (.int .i64 q1) : AV)) e1; exact hE) rfl rfl rfl rfl rfl trivial
  · refine xR [hY 3 (decide_eq_false hq1),
      hY 4 (decide_eq_false hq1),
      hY 5 (decide_eq_false hq1),
      hP 6 (decide_eq_false hq1)] (by kernel_rfl) (by kernel_rfl) ?_
    refine nT ?_
    by_cases hq2 : i ≥ n
    · refine T.condT (by kernel_rfl) (decide_eq_true hq2) ?_
      refine T.seq ?_
      refine xR [] (by kernel_rfl) (by kernel_rfl) ?_
      refine nT ?_
      refine T.ret ?_
      refine rT ?_
      exact tE (.inl rfl) [.t 10 (.one (.d (.val (.int .i64 2))))] ⟨⟨rfl, by kernel_rfl⟩, trivial⟩ [] (by have e1 : ((checkM root leaf i n p) : Int) = 2 := (by first | rfl | exact chk_range (by omega) | exact chk_len (by omega) (by omega) | exact chk_at (p := p) (k := k) (by omega) (by omega) (by assumption) | exact (chk_range (by omega)).symm | exact (chk_len (by omega) (by omega)).symm | exact (chk_at (p := p) (k := k) (by omega) (by omega) (by assumption)).symm | (rw [chk_end (root := root) (leaf := leaf) (k := k) (by omega) hsl (by omega) hb]; simp [*]; done)); have hE := congrArg (fun (q1 : Int) => (dv (.int .i64 q1) : AV)) e1; exact hE) rfl rfl rfl rfl rfl trivial
    · refine T.condF (by kernel_rfl) (decide_eq_false hq2) ?_
      refine T.skip ?_
      refine nT ?_
      refine T.seq ?_
      refine xR [hR 2 rfl rfl (r_call (merkle_turns i n (by first | assumption | omega | (unfold maxLen; omega) | (simp [maxLen, -List.getD_eq_getElem?_getD] <;> omega) | decide) (by first | assumption | omega | (unfold maxLen; omega) | (simp [maxLen, -List.getD_eq_getElem?_getD] <;> omega) | decide)) Try.func61 rfl (by decide) [0] [] (l := [(.tmp 22, dv (.int .i64 i)), (.tmp 23, dv (.int .i64 n))]) [] rfl 0 1 rfl rfl rfl rfl rfl rfl rfl rfl rfl ⟨.inl ⟨rfl, rfl⟩, ⟨.inl ⟨rfl, rfl⟩, trivial⟩⟩ rfl (fun b hb => by cases hb) (.inl rfl) (lt_of rfl) trivial)] (by kernel_rfl) (by kernel_rfl) ?_
      refine nT ?_
      refine T.seq ?_
      refine T.seq ?_
      refine xR [] (by kernel_rfl) (by kernel_rfl) ?_
      refine nT ?_
      by_cases hq3 : (((sidesN i.toNat n.toNat).length : Nat) : Int) ≠ ((p.length : Nat) : Int)
      · refine T.condT (by kernel_rfl) (decide_eq_true hq3) ?_
        refine T.seq ?_
        refine xR [] (by kernel_rfl) (by kernel_rfl) ?_
        refine nT ?_
        refine T.ret ?_
        refine rT ?_
        exact tE (.inl rfl) [.t 10 (.one (.d (.val (.int .i64 90))))] ⟨⟨rfl, by kernel_rfl⟩, trivial⟩ [] (by have e1 : ((checkM root leaf i n p) : Int) = 90 := (by first | rfl | exact chk_range (by omega) | exact chk_len (by omega) (by omega) | exact chk_at (p := p) (k := k) (by omega) (by omega) (by assumption) | exact (chk_range (by omega)).symm | exact (chk_len (by omega) (by omega)).symm | exact (chk_at (p := p) (k := k) (by omega) (by omega) (by assumption)).symm | (rw [chk_end (root := root) (leaf := leaf) (k := k) (by omega) hsl (by omega) hb]; simp [*]; done)); have hE := congrArg (fun (q1 : Int) => (dv (.int .i64 q1) : AV)) e1; exact hE) rfl rfl rfl rfl rfl trivial
      · refine T.condF (by kernel_rfl) (decide_eq_false hq3) ?_
        refine T.skip ?_
        refine nT ?_
        refine T.seq ?_
        refine xR [hR 1 rfl rfl (r_call (term_Leaf (2 : UInt8) tleaf nleaf leaf (by first | assumption | omega | (unfold maxLen; omega) | (simp [maxLen, -List.getD_eq_getElem?_getD] <;> omega) | decide)) Try.func53 rfl (by decide) [] [] (l := [(.const (.int .u8 2), dv (.int .u8 2)), (.tmp 30, slV tleaf nleaf kU8 leaf)]) [] rfl 0 0 rfl rfl rfl rfl rfl rfl rfl rfl rfl ⟨.inl ⟨rfl, rfl⟩, ⟨.inl ⟨rfl, rfl⟩, trivial⟩⟩ rfl (fun b hb => by cases hb) (.inl rfl) (lt_of rfl) ⟨rfl, trivial⟩)] (by kernel_rfl) (by kernel_rfl) ?_
        refine nT ?_
        refine T.seq ?_
        refine T.seq ?_
        refine xR [] (by kernel_rfl) (by kernel_rfl) ?_
        refine nT ?_
        refine T.block ?_
        refine T.loop (ι := Nat) (fun (k : Nat) => ⟨[dv (strV root), slV tleaf nleaf kU8 leaf, dv (.int .i64 i), dv (.int .i64 n), slV tp np (k_api_Step false) p, aa, aa, aa, aa, aa, aa, ownV 0 kBool 0 (sidesN i.toNat n.toNat).length, dv (strV (climb (ofB 2 [leaf]) (p.take k))), aa, aa, aa, aa, aa, aa, aa, aa, aa, aa, aa, aa, aa, aa, aa, aa, aa, aa, aa, slV tp np (k_api_Step false) p, dv (.int .i64 ((p.length : Nat) : Int)), dv (.int .i64 ((k : Nat) : Int))], [.live (arrK 4 kBool (sidesN i.toNat n.toNat))]⟩) (fun (k : Nat) => (k ≤ p.length) ∧ ((sidesN i.toNat n.toNat).length = p.length) ∧ (∀ t, t < k → (p.getD t z_api_Step).f_Left = (sidesN i.toNat n.toNat).getD t false)) (fun (k : Nat) => p.length - k) (0) ⟨(Nat.zero_le _), (by omega), (fun j hj => absurd hj (Nat.not_lt_zero _))⟩ (fun _ _ hG => Gs.into2 (s' := ⟨[dv (strV root), slV tleaf nleaf kU8 leaf, dv (.int .i64 i), dv (.int .i64 n), slV tp np (k_api_Step false) p, aa, aa, aa, aa, aa, aa, ownV 0 kBool 0 (sidesN i.toNat n.toNat).length, dv (strV (climb (ofB 2 [leaf]) (p.take 0))), aa, aa, aa, aa, aa, aa, aa, aa, aa, aa, aa, aa, aa, aa, aa, aa, aa, aa, aa, slV tp np (k_api_Step false) p, dv (.int .i64 ((p.length : Nat) : Int)), dv (.int .i64 0)], [.live (arrK 4 kBool (sidesN i.toNat n.toNat))]⟩) [0] (bm 35 30064777247) (t1 := [dv (strV root), slV tleaf nleaf kU8 leaf, dv (.int .i64 i), dv (.int .i64 n), slV tp np (k_api_Step false) p, aa, aa, aa, aa, aa, aa, ownV 0 kBool 0 (sidesN i.toNat n.toNat).length, dv (strV (climb (ofB 2 [leaf]) (p.take 0))), aa, aa, aa, aa, aa, aa, aa, aa, aa, aa, aa, aa, aa, aa, aa, aa, aa, aa, aa, slV tp np (k_api_Step false) p, dv (.int .i64 ((p.length : Nat) : Int)), dv (.int .i64 0)]) (t2 := [dv (strV root), slV tleaf nleaf kU8 leaf, dv (.int .i64 i), dv (.int .i64 n), slV tp np (k_api_Step false) p, aa, aa, aa, aa, aa, aa, ownV 0 kBool 0 (sidesN i.toNat n.toNat).length, dv (strV (ofB (2 : UInt8) [leaf])), aa, aa, aa, aa, aa, aa, aa, aa, aa, aa, aa, aa, aa, aa, aa, aa, aa, aa, aa, slV tp np (k_api_Step false) p, dv (.int .i64 ((p.length : Nat) : Int)), dv (.int .i64 0)]) (h1 := [.live (arrK 4 kBool (sidesN i.toNat n.toNat))]) (by have e1 : ((climb (ofB 2 [leaf]) (p.take 0)) : List UInt8) = (ofB (2 : UInt8) [leaf]) := (by rfl); have hE := congrArg (fun (q1 : List UInt8) => ([dv (strV root), slV tleaf nleaf kU8 leaf, dv (.int .i64 i), dv (.int .i64 n), slV tp np (k_api_Step false) p, aa, aa, aa, aa, aa, aa, ownV 0 kBool 0 (sidesN i.toNat n.toNat).length, dv (strV q1), aa, aa, aa, aa, aa, aa, aa, aa, aa, aa, aa, aa, aa, aa, aa, aa, aa, aa, aa, slV tp np (k_api_Step false) p, dv (.int .i64 ((p.length : Nat) : Int)), dv (.int .i64 0)] : List AV)) e1; exact hE) rfl (by kernel_rfl) (by kernel_rfl) (by kernel_rfl) (by kernel_rfl) (by kernel_rfl) (by kernel_rfl) (by kernel_rfl) (by kernel_rfl) (by kernel_rfl) (by kernel_rfl) (by kernel_rfl) hG) ?_
        rintro k ⟨hk, hsl, hb⟩
        show T _ _ ⟨[dv (strV root), slV tleaf nleaf kU8 leaf, dv (.int .i64 i), dv (.int .i64 n), slV tp np (k_api_Step false) p, aa, aa, aa, aa, aa, aa, ownV 0 kBool 0 (sidesN i.toNat n.toNat).length, dv (strV (climb (ofB 2 [leaf]) (p.take k))), aa, aa, aa, aa, aa, aa, aa, aa, aa, aa, aa, aa, aa, aa, aa, aa, aa, aa, aa, slV tp np (k_api_Step false) p, dv (.int .i64 ((p.length : Nat) : Int)), dv (.int .i64 ((k : Nat) : Int))], [.live (arrK 4 kBool (sidesN i.toNat n.toNat))]⟩ _ _
        replace hk : k ≤ p.length := hk
        replace hsl : (sidesN i.toNat n.toNat).length = p.length := hsl
        replace hb : ∀ t, t < k → (p.getD t z_api_Step).f_Left = (sidesN i.toNat n.toNat).getD t false := hb
        have hk70 : (p.take k).length ≤ 70 := by rw [List.length_take]; have := hp.1; omega
        have hcl := climb_len (p := p.take k) (m := 30000) (fun s hs => hp.2 s (List.mem_of_mem_take hs)) (ofB 2 [leaf])
        have hlf := leaf_len 2 leaf
        have hgd : ((p.getD k z_api_Step).f_Digest).length ≤ 30000 := fewG_get (sz := szS) hp (by decide) k
        refine T.seq ?_
        refine xR [] (by kernel_rfl) (by kernel_rfl) ?_
        refine nT ?_
        refine T.seq ?_
        by_cases hq4 : ((k : Nat) : Int) < ((p.length : Nat) : Int)
        · refine T.condT (by kernel_rfl) (decide_eq_true hq4) ?_
          refine T.skip ?_
          refine nT ?_
          refine T.seq ?_
          refine T.block ?_
          refine T.seq ?_
          refine xR [hR 1 rfl rfl (q_index tp np (k_api_Step false) p k (k := .i64) (i := ((k : Nat) : Int)) Try.underlying42 iat_67 rfl rfl (by first | assumption | omega | (unfold maxLen; omega) | (simp [maxLen, -List.getD_eq_getElem?_getD] <;> omega) | decide) (lt_of rfl) trivial)] (by kernel_rfl) (by kernel_rfl) ?_
          refine nT ?_
          refine T.block ?_
          refine T.seq ?_
          refine xD [[], [0], [], [], [2, 3], [2, 3, 4], [0, 1, 2, 3, 4, 5], [0, 1, 2, 3, 4, 5, 6]] [hR 4 rfl rfl (r_indexO (k := .i64) (l := 0) (sz := kBool.sz) (off := 0) (n := (sidesN i.toNat n.toNat).length) (i := ((k : Nat) : Int)) (m := k) (o' := k * kBool.sz + 0) Try.underlying84 iat_4 rfl rfl (by first | assumption | omega | (unfold maxLen; omega) | (simp [maxLen, -List.getD_eq_getElem?_getD] <;> omega) | decide) (by first | rfl | simp) (lt_of rfl) trivial),
            hR 5 rfl rfl (r_loadA (l := 0) (off := k * kBool.sz + 0) (i := k) (j := 0) (T := 4) (sz := kBool.sz) (n := (sidesN i.toNat n.toNat).length) (el := elOf kBool (sidesN i.toNat n.toNat)) (c := .val (.bool ((sidesN i.toNat n.toNat).getD k false))) wide_4 rfl (by first | assumption | omega | (unfold maxLen; omega) | (simp [maxLen, -List.getD_eq_getElem?_getD] <;> omega) | decide) (by decide) rfl (lt_of rfl) trivial)] (by kernel_rfl) (by kernel_rfl) (by kernel_rfl) (by kernel_rfl) (by kernel_rfl) (by kernel_rfl) ?_
          refine nT ?_
          by_cases hq5 : (p.getD k z_api_Step).f_Left ≠ ((sidesN i.toNat n.toNat).getD k false)
          · refine T.condT (by kernel_rfl) (decide_eq_true hq5) ?_
            refine T.seq ?_
            refine xR [] (by kernel_rfl) (by kernel_rfl) ?_
            refine nT ?_
            refine T.ret ?_
            refine rB ?_
            refine rB ?_
            refine rT ?_
            refine rT ?_
            refine rB ?_
            refine rT ?_
            exact tE (.inl rfl) [.t 10 (.one (.d (.val (.int .i64 90))))] ⟨⟨rfl, by kernel_rfl⟩, trivial⟩ [] (by have e1 : ((checkM root leaf i n p) : Int) = 90 := (by first | rfl | exact chk_range (by omega) | exact chk_len (by omega) (by omega) | exact chk_at (p := p) (k := k) (by omega) (by omega) (by assumption) | exact (chk_range (by omega)).symm | exact (chk_len (by omega) (by omega)).symm | exact (chk_at (p := p) (k := k) (by omega) (by omega) (by assumption)).symm | (rw [chk_end (root := root) (leaf := leaf) (k := k) (by omega) hsl (by omega) hb]; simp [*]; done)); have hE := congrArg (fun (q1 : Int) => (dv (.int .i64 q1) : AV)) e1; exact hE) rfl rfl rfl rfl rfl trivial
          · refine T.condF (by kernel_rfl) (decide_eq_false hq5) ?_
            refine T.seq ?_
            refine xR [] (by kernel_rfl) (by kernel_rfl) ?_
            refine nT ?_
            by_cases hq6 : (p.getD k z_api_Step).f_Left = true
            · refine T.condT (by kernel_rfl) hq6 ?_
              refine xR [hR 3 rfl rfl (r_call (term_Pair (3 : UInt8) (p.getD k z_api_Step).f_Digest (climb (ofB 2 [leaf]) (p.take k)) (by first | assumption | omega | (unfold maxLen; omega) | (simp [maxLen, -List.getD_eq_getElem?_getD] <;> omega) | decide)) Try.func55 rfl (by decide) [] [] (l := [(.const (.int .u8 3), dv (.int .u8 3)), (.tmp 55, dv (strV (p.getD k z_api_Step).f_Digest)), (.tmp 56, dv (strV (climb (ofB 2 [leaf]) (p.take k))))]) [] rfl 0 0 rfl rfl rfl rfl rfl rfl rfl rfl rfl ⟨.inl ⟨rfl, rfl⟩, ⟨.inl ⟨rfl, rfl⟩, ⟨.inl ⟨rfl, rfl⟩, trivial⟩⟩⟩ rfl (fun b hb => by cases hb) (.inl rfl) (lt_of rfl) ⟨rfl, trivial⟩)] (by kernel_rfl) (by kernel_rfl) ?_
              refine nB ?_
              refine nB ?_
              refine nT ?_
              refine xR [hR 0 rfl rfl (r_bin (u1 := .int .i64 ((k : Nat) : Int)) (u2 := .int .i64 1) (v := .int .i64 ((k + 1 : Nat) : Int)) (b_add (by rw [IntKind.wrap_i64]; omega)) (lt_of rfl) ⟨rfl, trivial⟩)] (by kernel_rfl) (by kernel_rfl) ?_
              refine nL (k + 1) ⟨(show (k + 1) ≤ p.length from (by omega)), (show (sidesN i.toNat n.toNat).length = p.length from hsl), (show ∀ t, t < (k + 1) → (p.getD t z_api_Step).f_Left = (sidesN i.toNat n.toNat).getD t false from (all_succ hb (by first | assumption | exact Classical.not_not.1 (by assumption) | simp [*])))⟩ (show (p.length - (k + 1) : Nat) < p.length - k from (by omega)) (fun _ _ hG => Gs.into2 (s' := ⟨[dv (strV root), slV tleaf nleaf kU8 leaf, dv (.int .i64 i), dv (.int .i64 n), slV tp np (k_api_Step false) p, aa, aa, aa, aa, aa, aa, ownV 0 kBool 0 (sidesN i.toNat n.toNat).length, dv (strV (climb (ofB 2 [leaf]) (p.take (k + 1)))), aa, aa, aa, aa, aa, aa, aa, aa, aa, aa, aa, aa, aa, aa, aa, aa, aa, aa, aa, slV tp np (k_api_Step false) p, dv (.int .i64 ((p.length : Nat) : Int)), dv (.int .i64 ((k + 1 : Nat) : Int))], [.live (arrK 4 kBool (sidesN i.toNat n.toNat))]⟩) [0] (bm 35 30064777247) (t1 := [dv (strV root), slV tleaf nleaf kU8 leaf, dv (.int .i64 i), dv (.int .i64 n), slV tp np (k_api_Step false) p, aa, aa, aa, aa, aa, aa, ownV 0 kBool 0 (sidesN i.toNat n.toNat).length, dv (strV (climb (ofB 2 [leaf]) (p.take (k + 1)))), aa, aa, aa, aa, aa, aa, aa, aa, aa, aa, aa, aa, aa, aa, aa, aa, aa, aa, aa, slV tp np (k_api_Step false) p, dv (.int .i64 ((p.length : Nat) : Int)), dv (.int .i64 ((k + 1 : Nat) : Int))]) (t2 := [dv (strV root), slV tleaf nleaf kU8 leaf, dv (.int .i64 i), dv (.int .i64 n), slV tp np (k_api_Step false) p, aa, aa, aa, aa, aa, aa, ownV 0 kBool 0 (sidesN i.toNat n.toNat).length, dv (strV (ofB (3 : UInt8) [(p.getD k z_api_Step).f_Digest, (climb (ofB 2 [leaf]) (p.take k))])), aa, aa, aa, aa, aa, aa, aa, aa, aa, aa, aa, aa, aa, aa, aa, aa, aa, aa, aa, slV tp np (k_api_Step false) p, dv (.int .i64 ((p.length : Nat) : Int)), dv (.int .i64 ((k + 1 : Nat) : Int))]) (h1 := [.live (arrK 4 kBool (sidesN i.toNat n.toNat))]) (by have e1 : ((climb (ofB 2 [leaf]) (p.take (k + 1))) : List UInt8) = (ofB (3 : UInt8) [(p.getD k z_api_Step).f_Digest, (climb (ofB 2 [leaf]) (p.take k))]) := (by (have h8 : (p.getD k z_api_Step).f_Left = (sidesN i.toNat n.toNat).getD k false := Classical.not_not.1 (by assumption); rw [climb_take (p := p) (k := k) _ (by omega), climb1]; first | (have h7 : (p.getD k z_api_Step).f_Left = true := (by first | assumption | exact h8.trans (by assumption)); rw [if_pos h7]) | (have h7 : (p.getD k z_api_Step).f_Left = false := (by first | assumption | exact h8.trans (by assumption)); rw [if_neg (by rw [h7]; decide)]))); have hE := congrArg (fun (q1 : List UInt8) => ([dv (strV root), slV tleaf nleaf kU8 leaf, dv (.int .i64 i), dv (.int .i64 n), slV tp np (k_api_Step false) p, aa, aa, aa, aa, aa, aa, ownV 0 kBool 0 (sidesN i.toNat n.toNat).length, dv (strV q1), aa, aa, aa, aa, aa, aa, aa, aa, aa, aa, aa, aa, aa, aa, aa, aa, aa, aa, aa, slV tp np (k_api_Step false) p, dv (.int .i64 ((p.length : Nat) : Int)), dv (.int .i64 ((k + 1 : Nat) : Int))] : List AV)) e1; exact hE) rfl (by kernel_rfl) (by kernel_rfl) (by kernel_rfl) (by kernel_rfl) (by kernel_rfl) (by kernel_rfl) (by kernel_rfl) (by kernel_rfl) (by kernel_rfl) (by kernel_rfl) (by kernel_rfl) hG)
            · replace hq6 := Bool.eq_false_iff.2 hq6
              refine T.condF (by kernel_rfl) hq6 ?_
              refine xR [hR 3 rfl rfl (r_call (term_Pair (3 : UInt8) (climb (ofB 2 [leaf]) (p.take k)) (p.getD k z_api_Step).f_Digest (by first | assumption | omega | (unfold maxLen; omega) | (simp [maxLen, -List.getD_eq_getElem?_getD] <;> omega) | decide)) Try.func55 rfl (by decide) [] [] (l := [(.const (.int .u8 3), dv (.int .u8 3)), (.tmp 39, dv (strV (climb (ofB 2 [leaf]) (p.take k)))), (.tmp 41, dv (strV (p.getD k z_api_Step).f_Digest))]) [] rfl 0 0 rfl rfl rfl rfl rfl rfl rfl rfl rfl ⟨.inl ⟨rfl, rfl⟩, ⟨.inl ⟨rfl, rfl⟩, ⟨.inl ⟨rfl, rfl⟩, trivial⟩⟩⟩ rfl (fun b hb => by cases hb) (.inl rfl) (lt_of rfl) ⟨rfl, trivial⟩)] (by kernel_rfl) (by kernel_rfl) ?_
              refine nB ?_
              refine nB ?_
              refine nT ?_
              refine xR [hR 0 rfl rfl (r_bin (u1 := .int .i64 ((k : Nat) : Int)) (u2 := .int .i64 1) (v := .int .i64 ((k + 1 : Nat) : Int)) (b_add (by rw [IntKind.wrap_i64]; omega)) (lt_of rfl) ⟨rfl, trivial⟩)] (by kernel_rfl) (by kernel_rfl) ?_
              refine nL (k + 1) ⟨(show (k + 1) ≤ p.length from (by omega)), (show (sidesN i.toNat n.toNat).length = p.length from hsl), (show ∀ t, t < (k + 1) → (p.getD t z_api_Step).f_Left = (sidesN i.toNat n.toNat).getD t false from (all_succ hb (by first | assumption | exact Classical.not_not.1 (by assumption) | simp [*])))⟩ (show (p.length - (k + 1) : Nat) < p.length - k from (by omega)) (fun _ _ hG => Gs.into2 (s' := ⟨[dv (strV root), slV tleaf nleaf kU8 leaf, dv (.int .i64 i), dv (.int .i64 n), slV tp np (k_api_Step false) p, aa, aa, aa, aa, aa, aa, ownV 0 kBool 0 (sidesN i.toNat n.toNat).length, dv (strV (climb (ofB 2 [leaf]) (p.take (k + 1)))), aa, aa, aa, aa, aa, aa, aa, aa, aa, aa, aa, aa, aa, aa, aa, aa, aa, aa, aa, slV tp np (k_api_Step false) p, dv (.int .i64 ((p.length : Nat) : Int)), dv (.int .i64 ((k + 1 : Nat) : Int))], [.live (arrK 4 kBool (sidesN i.toNat n.toNat))]⟩) [0] (bm 35 30064777247) (t1 := [dv (strV root), slV tleaf nleaf kU8 leaf, dv (.int .i64 i), dv (.int .i64 n), slV tp np (k_api_Step false) p, aa, aa, aa, aa, aa, aa, ownV 0 kBool 0 (sidesN i.toNat n.toNat).length, dv (strV (climb (ofB 2 [leaf]) (p.take (k + 1)))), aa, aa, aa, aa, aa, aa, aa, aa, aa, aa, aa, aa, aa, aa, aa, aa, aa, aa, aa, slV tp np (k_api_Step false) p, dv (.int .i64 ((p.length : Nat) : Int)), dv (.int .i64 ((k + 1 : Nat) : Int))]) (t2 := [dv (strV root), slV tleaf nleaf kU8 leaf, dv (.int .i64 i), dv (.int .i64 n), slV tp np (k_api_Step false) p, aa, aa, aa, aa, aa, aa, ownV 0 kBool 0 (sidesN i.toNat n.toNat).length, dv (strV (ofB (3 : UInt8) [(climb (ofB 2 [leaf]) (p.take k)), (p.getD k z_api_Step).f_Digest])), aa, aa, aa, aa, aa, aa, aa, aa, aa, aa, aa, aa, aa, aa, aa, aa, aa, aa, aa, slV tp np (k_api_Step false) p, dv (.int .i64 ((p.length : Nat) : Int)), dv (.int .i64 ((k + 1 : Nat) : Int))]) (h1 := [.live (arrK 4 kBool (sidesN i.toNat n.toNat))]) (by have e1 : ((climb (ofB 2 [leaf]) (p.take (k + 1))) : List UInt8) = (ofB (3 : UInt8) [(climb (ofB 2 [leaf]) (p.take k)), (p.getD k z_api_Step).f_Digest]) := (by (have h8 : (p.getD k z_api_Step).f_Left = (sidesN i.toNat n.toNat).getD k false := Classical.not_not.1 (by assumption); rw [climb_take (p := p) (k := k) _ (by omega), climb1]; first | (have h7 : (p.getD k z_api_Step).f_Left = true := (by first | assumption | exact h8.trans (by assumption)); rw [if_pos h7]) | (have h7 : (p.getD k z_api_Step).f_Left = false := (by first | assumption | exact h8.trans (by assumption)); rw [if_neg (by rw [h7]; decide)]))); have hE := congrArg (fun (q1 : List UInt8) => ([dv (strV root), slV tleaf nleaf kU8 leaf, dv (.int .i64 i), dv (.int .i64 n), slV tp np (k_api_Step false) p, aa, aa, aa, aa, aa, aa, ownV 0 kBool 0 (sidesN i.toNat n.toNat).length, dv (strV q1), aa, aa, aa, aa, aa, aa, aa, aa, aa, aa, aa, aa, aa, aa, aa, aa, aa, aa, aa, slV tp np (k_api_Step false) p, dv (.int .i64 ((p.length : Nat) : Int)), dv (.int .i64 ((k + 1 : Nat) : Int))] : List AV)) e1; exact hE) rfl (by kernel_rfl) (by kernel_rfl) (by kernel_rfl) (by kernel_rfl) (by kernel_rfl) (by kernel_rfl) (by kernel_rfl) (by kernel_rfl) (by kernel_rfl) (by kernel_rfl) (by kernel_rfl) hG)
        · refine T.condF (by kernel_rfl) (decide_eq_false hq4) ?_
          refine T.exit ?_
          refine xT ?_
          refine xT ?_
          refine xH ?_
          refine nT ?_
          refine T.seq ?_
          refine T.seq ?_
          refine xR [] (by kernel_rfl) (by kernel_rfl) ?_
          refine nT ?_
          by_cases hq7 : (climb (ofB 2 [leaf]) (p.take k)) ≠ root
          · refine T.condT (by kernel_rfl) (decide_eq_true hq7) ?_
            refine T.seq ?_
            refine xR [] (by kernel_rfl) (by kernel_rfl) ?_
            refine nT ?_
            refine T.ret ?_
            refine rT ?_
            exact tE (.inl rfl) [.t 10 (.one (.d (.val (.int .i64 90))))] ⟨⟨rfl, by kernel_rfl⟩, trivial⟩ [] (by have e1 : ((checkM root leaf i n p) : Int) = 90 := (by first | rfl | exact chk_range (by omega) | exact chk_len (by omega) (by omega) | exact chk_at (p := p) (k := k) (by omega) (by omega) (by assumption) | exact (chk_range (by omega)).symm | exact (chk_len (by omega) (by omega)).symm | exact (chk_at (p := p) (k := k) (by omega) (by omega) (by assumption)).symm | (rw [chk_end (root := root) (leaf := leaf) (k := k) (by omega) hsl (by omega) hb]; simp [*]; done)); have hE := congrArg (fun (q1 : Int) => (dv (.int .i64 q1) : AV)) e1; exact hE) rfl rfl rfl rfl rfl trivial
          · refine T.condF (by kernel_rfl) (decide_eq_false hq7) ?_
            refine T.skip ?_
            refine nT ?_
            refine T.seq ?_
            refine xR [] (by kernel_rfl) (by kernel_rfl) ?_
            refine nT ?_
            refine T.ret ?_
            exact tE (.inl rfl) [.t 10 (.one (.d (.val (.int .i64 0))))] ⟨⟨rfl, by kernel_rfl⟩, trivial⟩ [] (by have e1 : ((checkM root leaf i n p) : Int) = 0 := (by first | rfl | exact chk_range (by omega) | exact chk_len (by omega) (by omega) | exact chk_at (p := p) (k := k) (by omega) (by omega) (by assumption) | exact (chk_range (by omega)).symm | exact (chk_len (by omega) (by omega)).symm | exact (chk_at (p := p) (k := k) (by omega) (by omega) (by assumption)).symm | (rw [chk_end (root := root) (leaf := leaf) (k := k) (by omega) hsl (by omega) hb]; simp [*]; done)); have hE := congrArg (fun (q1 : Int) => (dv (.int .i64 q1) : AV)) e1; exact hE) rfl rfl rfl rfl rfl trivial

-- quaestor/quaestorref09.Check
theorem ref09_Check (root : List UInt8) (tleaf : Bool) (nleaf : Bool) (leaf : List UInt8) (i : Int) (n : Int) (tp : Bool) (np : Bool) (p : List api_Step) (hp : fewG szS 70 30000 p) (hl : leaf.length ≤ 600) (hn : n ≤ 9223372036854775807) : Holds Try.prog 41 ⟨[dv (strV root), slV tleaf nleaf kU8 leaf, dv (.int .i64 i), dv (.int .i64 n), slV tp np (k_api_Step false) p], [], dv (.int .i64 (checkM root leaf i n p)), []⟩ := by
  refine Holds.of Try.func41 rfl (N := 68) Try.ntmps41 rfl fun w0 B0 S0 U0 => ?_
  show T _ (mkBase 68 0 w0 S0 U0 B0) ⟨[dv (strV root), slV tleaf nleaf kU8 leaf, dv (.int .i64 i), dv (.int .i64 n), slV tp np (k_api_Step false) p], []⟩ _ _
  have hp70 := hp.1
  refine T.seq ?_
  refine xR [] (by kernel_rfl) (by kernel_rfl) ?_
  refine nT ?_
  refine T.seq ?_
  refine T.seq ?_
  by_cases hq1 : i < 0
  · refine xR [hN 3 false (decide_eq_true hq1),
      hN 4 false (decide_eq_true hq1),
      hN 5 false (decide_eq_true hq1),
      hP 6 (decide_eq_true hq1)] (by kernel_rfl) (by kernel_rfl) ?_
    refine nT ?_
    refine T.condT (b := true) (by kernel_rfl) rfl ?_
    refine T.seq ?_
    refine xR [] (by kernel_rfl) (by kernel_rfl) ?_
    refine nT ?_
    refine T.ret ?_
    refine rT ?_
    exact tE (.inl rfl) [.t 10 (.one (.d (.val (.int .i64 2))))] ⟨⟨rfl, by kernel_rfl⟩, trivial⟩ [] (by have e1 : ((checkM root leaf i n p) : Int) = 2 := (by first | rfl | exact chk_range (by omega) | exact chk_len (by omega) (by omega) | exact chk_at (p := p) (k := k) (by omega) (by omega) (by assumption) | exact (chk_range (by omega)).symm | exact (chk_len (by omega) (by omega)).symm | exact (chk_at (p := p) (k := k) (by omega) (by omega) (by assumption)).symm | (rw [chk_end (root := root) (leaf := leaf) (k := k) (by omega) hsl (by omega) hb]; simp [*]; done)); have hE := congrArg (fun (q1 : Int) => (dv (.int .i64 q1) : AV)) e1; exact hE) rfl rfl rfl rfl rfl trivial
  · refine xR [hY 3 (decide_eq_false hq1),
      hY 4 (decide_eq_false hq1),
      hY 5 (decide_eq_false hq1),
      hP 6 (decide_eq_false hq1)] (by kernel_rfl) (by kernel_rfl) ?_
    refine nT ?_
    by_cases hq2 : i ≥ n
    · refine T.condT (by kernel_rfl) (decide_eq_true hq2) ?_
      refine T.seq ?_
      refine xR [] (by kernel_rfl) (by kernel_rfl) ?_
      refine nT ?_
      refine T.ret ?_
      refine rT ?_
      exact tE (.inl rfl) [.t 10 (.one (.d (.val (.int .i64 2))))] ⟨⟨rfl, by kernel_rfl⟩, trivial⟩ [] (by have e1 : ((checkM root leaf i n p) : Int) = 2 := (by first | rfl | exact chk_range (by omega) | exact chk_len (by omega) (by omega) | exact chk_at (p := p) (k := k) (by omega) (by omega) (by assumption) | exact (chk_range (by omega)).symm | exact (chk_len (by omega) (by omega)).symm | exact (chk_at (p := p) (k := k) (by omega) (by omega) (by assumption)).symm | (rw [chk_end (root := root) (leaf := leaf) (k := k) (by omega) hsl (by omega) hb]; simp [*]; done)); have hE := congrArg (fun (q1 : Int) => (dv (.int .i64 q1) : AV)) e1; exact hE) rfl rfl rfl rfl rfl trivial
    · refine T.condF (by kernel_rfl) (decide_eq_false hq2) ?_
      refine T.skip ?_
      refine nT ?_
      refine T.seq ?_
      refine T.turn (s' := ⟨[dv (strV root), slV tleaf nleaf kU8 leaf, dv (.int .i64 i), dv (.int .i64 n), slV tp np (k_api_Step false) p, aa, aa, aa, aa, aa, dv (.int .i64 0), aa, aa, aa, aa, aa, aa, aa, aa, aa, dv (.bool (decide (i ≥ n)))], []⟩) (fun _ _ hG => Gs.norm (by kernel_rfl) hG) ?_
      refine T.turn (s' := ⟨[dv (strV root), slV tleaf nleaf kU8 leaf, dv (.int .i64 ((i.toNat : Nat) : Int)), dv (.int .i64 ((n.toNat : Nat) : Int)), slV tp np (k_api_Step false) p, aa, aa, aa, aa, aa, dv (.int .i64 0), aa, aa, aa, aa, aa, aa, aa, aa, aa, dv (.bool (decide (i ≥ n)))], []⟩) (fun _ _ hG => Gs.into2 (s' := ⟨[dv (strV root), slV tleaf nleaf kU8 leaf, dv (.int .i64 ((i.toNat : Nat) : Int)), dv (.int .i64 ((n.toNat : Nat) : Int)), slV tp np (k_api_Step false) p, aa, aa, aa, aa, aa, dv (.int .i64 0), aa, aa, aa, aa, aa, aa, aa, aa, aa, dv (.bool (decide (i ≥ n)))], []⟩) [] (bm 21 1049631) (t1 := [dv (strV root), slV tleaf nleaf kU8 leaf, dv (.int .i64 ((i.toNat : Nat) : Int)), dv (.int .i64 ((n.toNat : Nat) : Int)), slV tp np (k_api_Step false) p, aa, aa, aa, aa, aa, dv (.int .i64 0), aa, aa, aa, aa, aa, aa, aa, aa, aa, dv (.bool (decide (i ≥ n)))]) (t2 := [dv (strV root), slV tleaf nleaf kU8 leaf, dv (.int .i64 i), dv (.int .i64 n), slV tp np (k_api_Step false) p, aa, aa, aa, aa, aa, dv (.int .i64 0), aa, aa, aa, aa, aa, aa, aa, aa, aa, dv (.bool (decide (i ≥ n)))]) (h1 := []) (by have e1 : (((i.toNat : Nat) : Int) : Int) = i := (by omega); have e2 : (((n.toNat : Nat) : Int) : Int) = n := (by omega); have hE := congr (congrArg (fun (q1 : Int) (q2 : Int) => ([dv (strV root), slV tleaf nleaf kU8 leaf, dv (.int .i64 q1), dv (.int .i64 q2), slV tp np (k_api_Step false) p, aa, aa, aa, aa, aa, dv (.int .i64 0), aa, aa, aa, aa, aa, aa, aa, aa, aa, dv (.bool (decide (i ≥ n)))] : List AV)) e1) e2; exact hE) rfl (by kernel_rfl) (by kernel_rfl) (by kernel_rfl) (by kernel_rfl) (by kernel_rfl) (by kernel_rfl) (by kernel_rfl) (by kernel_rfl) (by kernel_rfl) (by kernel_rfl) (by kernel_rfl) hG) ?_
      refine xR [hR 2 rfl rfl (r_call (ref09_sides i.toNat n.toNat (by first | assumption | omega | (unfold maxLen; omega) | (simp [maxLen, -List.getD_eq_getElem?_getD] <;> omega) | decide) (by first | assumption | omega | (unfold maxLen; omega) | (simp [maxLen, -List.getD_eq_getElem?_getD] <;> omega) | decide)) Try.func62 rfl (by decide) [0] [] (l := [(.tmp 21, dv (.int .i64 ((i.toNat : Nat) : Int))), (.tmp 22, dv (.int .i64 ((n.toNat : Nat) : Int)))]) [] rfl 0 1 rfl rfl rfl rfl rfl rfl rfl rfl rfl ⟨.inl ⟨rfl, rfl⟩, ⟨.inl ⟨rfl, rfl⟩, trivial⟩⟩ rfl (fun b hb => by cases hb) (.inl rfl) (lt_of rfl) trivial)] (by kernel_rfl) (by kernel_rfl) ?_
      refine nT ?_
      refine T.seq ?_
      refine T.seq ?_
      refine xR [] (by kernel_rfl) (by kernel_rfl) ?_
      refine nT ?_
      by_cases hq3 : (((sidesN i.toNat n.toNat).length : Nat) : Int) ≠ ((p.length : Nat) : Int)
      · refine T.condT (by kernel_rfl) (decide_eq_true hq3) ?_
        refine T.seq ?_
        refine xR [] (by kernel_rfl) (by kernel_rfl) ?_
        refine nT ?_
        refine T.ret ?_
        refine rT ?_
        exact tE (.inl rfl) [.t 10 (.one (.d (.val (.int .i64 90))))] ⟨⟨rfl, by kernel_rfl⟩, trivial⟩ [] (by have e1 : ((checkM root leaf i n p) : Int) = 90 := (by first | rfl | exact chk_range (by omega) | exact chk_len (by omega) (by omega) | exact chk_at (p := p) (k := k) (by omega) (by omega) (by assumption) | exact (chk_range (by omega)).symm | exact (chk_len (by omega) (by omega)).symm | exact (chk_at (p := p) (k := k) (by omega) (by omega) (by assumption)).symm | (rw [chk_end (root := root) (leaf := leaf) (k := k) (by omega) hsl (by omega) hb]; simp [*]; done)); have hE := congrArg (fun (q1 : Int) => (dv (.int .i64 q1) : AV)) e1; exact hE) rfl rfl rfl rfl rfl trivial
      · refine T.condF (by kernel_rfl) (decide_eq_false hq3) ?_
        refine T.skip ?_
        refine nT ?_
        refine T.seq ?_
        refine xR [hR 1 rfl rfl (r_call (ref02_Leaf (2 : UInt8) tleaf nleaf leaf (by first | assumption | omega | (unfold maxLen; omega) | (simp [maxLen, -List.getD_eq_getElem?_getD] <;> omega) | decide)) Try.func56 rfl (by decide) [] [] (l := [(.const (.int .u8 2), dv (.int .u8 2)), (.tmp 29, slV tleaf nleaf kU8 leaf)]) [] rfl 0 0 rfl rfl rfl rfl rfl rfl rfl rfl rfl ⟨.inl ⟨rfl, rfl⟩, ⟨.inl ⟨rfl, rfl⟩, trivial⟩⟩ rfl (fun b hb => by cases hb) (.inl rfl) (lt_of rfl) ⟨rfl, trivial⟩)] (by kernel_rfl) (by kernel_rfl) ?_
        refine nT ?_
        refine T.seq ?_
        refine T.seq ?_
        refine xR [] (by kernel_rfl) (by kernel_rfl) ?_
        refine nT ?_
        refine T.block ?_
        refine T.loop (ι := Nat) (fun (k : Nat) => ⟨[dv (strV root), slV tleaf nleaf kU8 leaf, dv (.int .i64 ((i.toNat : Nat) : Int)), dv (.int .i64 ((n.toNat : Nat) : Int)), slV tp np (k_api_Step false) p, aa, aa, aa, aa, aa, aa, ownV 0 kBool 0 (sidesN i.toNat n.toNat).length, dv (strV (climb (ofB 2 [leaf]) (p.take k))), dv (.int .i64 ((k : Nat) : Int))], [.live (arrK 4 kBool (sidesN i.toNat n.toNat))]⟩) (fun (k : Nat) => (k ≤ p.length) ∧ ((sidesN i.toNat n.toNat).length = p.length) ∧ (∀ t, t < k → (p.getD t z_api_Step).f_Left = (sidesN i.toNat n.toNat).getD t false)) (fun (k : Nat) => p.length - k) (0) ⟨(Nat.zero_le _), (by omega), (fun j hj => absurd hj (Nat.not_lt_zero _))⟩ (fun _ _ hG => Gs.into2 (s' := ⟨[dv (strV root), slV tleaf nleaf kU8 leaf, dv (.int .i64 ((i.toNat : Nat) : Int)), dv (.int .i64 ((n.toNat : Nat) : Int)), slV tp np (k_api_Step false) p, aa, aa, aa, aa, aa, aa, ownV 0 kBool 0 (sidesN i.toNat n.toNat).length, dv (strV (climb (ofB 2 [leaf]) (p.take 0))), dv (.int .i64 0)], [.live (arrK 4 kBool (sidesN i.toNat n.toNat))]⟩) [0] (bm 14 14367) (t1 := [dv (strV root), slV tleaf nleaf kU8 leaf, dv (.int .i64 ((i.toNat : Nat) : Int)), dv (.int .i64 ((n.toNat : Nat) : Int)), slV tp np (k_api_Step false) p, aa, aa, aa, aa, aa, aa, ownV 0 kBool 0 (sidesN i.toNat n.toNat).length, dv (strV (climb (ofB 2 [leaf]) (p.take 0))), dv (.int .i64 0)]) (t2 := [dv (strV root), slV tleaf nleaf kU8 leaf, dv (.int .i64 ((i.toNat : Nat) : Int)), dv (.int .i64 ((n.toNat : Nat) : Int)), slV tp np (k_api_Step false) p, aa, aa, aa, aa, aa, aa, ownV 0 kBool 0 (sidesN i.toNat n.toNat).length, dv (strV (ofB (2 : UInt8) [leaf])), dv (.int .i64 0)]) (h1 := [.live (arrK 4 kBool (sidesN i.toNat n.toNat))]) (by have e1 : ((climb (ofB 2 [leaf]) (p.take 0)) : List UInt8) = (ofB (2 : UInt8) [leaf]) := (by rfl); have hE := congrArg (fun (q1 : List UInt8) => ([dv (strV root), slV tleaf nleaf kU8 leaf, dv (.int .i64 ((i.toNat : Nat) : Int)), dv (.int .i64 ((n.toNat : Nat) : Int)), slV tp np (k_api_Step false) p, aa, aa, aa, aa, aa, aa, ownV 0 kBool 0 (sidesN i.toNat n.toNat).length, dv (strV q1), dv (.int .i64 0)] : List AV)) e1; exact hE) rfl (by kernel_rfl) (by kernel_rfl) (by kernel_rfl) (by kernel_rfl) (by kernel_rfl) (by kernel_rfl) (by kernel_rfl) (by kernel_rfl) (by kernel_rfl) (by kernel_rfl) (by kernel_rfl) hG) ?_
        rintro k ⟨hk, hsl, hb⟩
        show T _ _ ⟨[dv (strV root), slV tleaf nleaf kU8 leaf, dv (.int .i64 ((i.toNat : Nat) : Int)), dv (.int .i64 ((n.toNat : Nat) : Int)), slV tp np (k_api_Step false) p, aa, aa, aa, aa, aa, aa, ownV 0 kBool 0 (sidesN i.toNat n.toNat).length, dv (strV (climb (ofB 2 [leaf]) (p.take k))), dv (.int .i64 ((k : Nat) : Int))], [.live (arrK 4 kBool (sidesN i.toNat n.toNat))]⟩ _ _
        replace hk : k ≤ p.length := hk
        replace hsl : (sidesN i.toNat n.toNat).length = p.length := hsl
        replace hb : ∀ t, t < k → (p.getD t z_api_Step).f_Left = (sidesN i.toNat n.toNat).getD t false := hb
        have hk70 : (p.take k).length ≤ 70 := by rw [List.length_take]; have := hp.1; omega
        have hcl := climb_len (p := p.take k) (m := 30000) (fun s hs => hp.2 s (List.mem_of_mem_take hs)) (ofB 2 [leaf])
        have hlf := leaf_len 2 leaf
        have hgd : ((p.getD k z_api_Step).f_Digest).length ≤ 30000 := fewG_get (sz := szS) hp (by decide) k
        refine T.seq ?_
        refine T.seq ?_
        refine xR [] (by kernel_rfl) (by kernel_rfl) ?_
        refine nT ?_
        by_cases hq4 : ((k : Nat) : Int) < ((p.length : Nat) : Int)
        · refine T.condT (by kernel_rfl) (decide_eq_true hq4) ?_
          refine T.skip ?_
          refine nT ?_
          refine T.seq ?_
          refine T.block ?_
          refine T.seq ?_
          refine T.seq ?_
          refine xD [[], [], [0, 1], [0, 1, 2], [0, 1, 2, 3], [], [], [5, 6], [5, 6, 7], [0, 1, 2, 3, 4, 5, 6, 7, 8]] [hR 2 rfl rfl (q_index tp np (k_api_Step false) p k (k := .i64) (i := ((k : Nat) : Int)) Try.underlying42 iat_67 rfl rfl (by first | assumption | omega | (unfold maxLen; omega) | (simp [maxLen, -List.getD_eq_getElem?_getD] <;> omega) | decide) (lt_of rfl) trivial),
            hR 7 rfl rfl (r_indexO (k := .i64) (l := 0) (sz := kBool.sz) (off := 0) (n := (sidesN i.toNat n.toNat).length) (i := ((k : Nat) : Int)) (m := k) (o' := k * kBool.sz + 0) Try.underlying84 iat_4 rfl rfl (by first | assumption | omega | (unfold maxLen; omega) | (simp [maxLen, -List.getD_eq_getElem?_getD] <;> omega) | decide) (by first | rfl | simp) (lt_of rfl) trivial),
            hR 8 rfl rfl (r_loadA (l := 0) (off := k * kBool.sz + 0) (i := k) (j := 0) (T := 4) (sz := kBool.sz) (n := (sidesN i.toNat n.toNat).length) (el := elOf kBool (sidesN i.toNat n.toNat)) (c := .val (.bool ((sidesN i.toNat n.toNat).getD k false))) wide_4 rfl (by first | assumption | omega | (unfold maxLen; omega) | (simp [maxLen, -List.getD_eq_getElem?_getD] <;> omega) | decide) (by decide) rfl (lt_of rfl) trivial)] (by kernel_rfl) (by kernel_rfl) (by kernel_rfl) (by kernel_rfl) (by kernel_rfl) (by kernel_rfl) ?_
          refine nT ?_
          by_cases hq5 : (p.getD k z_api_Step).f_Left ≠ ((sidesN i.toNat n.toNat).getD k false)
          · refine T.condT (by kernel_rfl) (decide_eq_true hq5) ?_
            refine T.seq ?_
            refine xR [] (by kernel_rfl) (by kernel_rfl) ?_
            refine nT ?_
            refine T.ret ?_
            refine rT ?_
            refine rB ?_
            refine rT ?_
            refine rT ?_
            refine rB ?_
            refine rT ?_
            exact tE (.inl rfl) [.t 10 (.one (.d (.val (.int .i64 90))))] ⟨⟨rfl, by kernel_rfl⟩, trivial⟩ [] (by have e1 : ((checkM root leaf i n p) : Int) = 90 := (by first | rfl | exact chk_range (by omega) | exact chk_len (by omega) (by omega) | exact chk_at (p := p) (k := k) (by omega) (by omega) (by assumption) | exact (chk_range (by omega)).symm | exact (chk_len (by omega) (by omega)).symm | exact (chk_at (p := p) (k := k) (by omega) (by omega) (by assumption)).symm | (rw [chk_end (root := root) (leaf := leaf) (k := k) (by omega) hsl (by omega) hb]; simp [*]; done)); have hE := congrArg (fun (q1 : Int) => (dv (.int .i64 q1) : AV)) e1; exact hE) rfl rfl rfl rfl rfl trivial
          · refine T.condF (by kernel_rfl) (decide_eq_false hq5) ?_
            refine T.skip ?_
            refine nT ?_
            refine T.seq ?_
            refine xR [hR 2 rfl rfl (r_indexO (k := .i64) (l := 0) (sz := kBool.sz) (off := 0) (n := (sidesN i.toNat n.toNat).length) (i := ((k : Nat) : Int)) (m := k) (o' := k * kBool.sz + 0) Try.underlying84 iat_4 rfl rfl (by first | assumption | omega | (unfold maxLen; omega) | (simp [maxLen, -List.getD_eq_getElem?_getD] <;> omega) | decide) (by first | rfl | simp) (lt_of rfl) trivial),
              hR 3 rfl rfl (r_loadA (l := 0) (off := k * kBool.sz + 0) (i := k) (j := 0) (T := 4) (sz := kBool.sz) (n := (sidesN i.toNat n.toNat).length) (el := elOf kBool (sidesN i.toNat n.toNat)) (c := .val (.bool ((sidesN i.toNat n.toNat).getD k false))) wide_4 rfl (by first | assumption | omega | (unfold maxLen; omega) | (simp [maxLen, -List.getD_eq_getElem?_getD] <;> omega) | decide) (by decide) rfl (lt_of rfl) trivial)] (by kernel_rfl) (by kernel_rfl) ?_
            refine nT ?_
            by_cases hq6 : ((sidesN i.toNat n.toNat).getD k false) = true
            · refine T.condT (by kernel_rfl) hq6 ?_
              refine xR [hR 2 rfl rfl (q_index tp np (k_api_Step false) p k (k := .i64) (i := ((k : Nat) : Int)) Try.underlying42 iat_67 rfl rfl (by first | assumption | omega | (unfold maxLen; omega) | (simp [maxLen, -List.getD_eq_getElem?_getD] <;> omega) | decide) (lt_of rfl) trivial),
                hR 6 rfl rfl (r_call (ref02_Pair (3 : UInt8) (p.getD k z_api_Step).f_Digest (climb (ofB 2 [leaf]) (p.take k)) (by first | assumption | omega | (unfold maxLen; omega) | (simp [maxLen, -List.getD_eq_getElem?_getD] <;> omega) | decide)) Try.func58 rfl (by decide) [] [] (l := [(.const (.int .u8 3), dv (.int .u8 3)), (.tmp 55, dv (strV (p.getD k z_api_Step).f_Digest)), (.tmp 56, dv (strV (climb (ofB 2 [leaf]) (p.take k))))]) [] rfl 0 0 rfl rfl rfl rfl rfl rfl rfl rfl rfl ⟨.inl ⟨rfl, rfl⟩, ⟨.inl ⟨rfl, rfl⟩, ⟨.inl ⟨rfl, rfl⟩, trivial⟩⟩⟩ rfl (fun b hb => by cases hb) (.inl rfl) (lt_of rfl) ⟨rfl, trivial⟩)] (by kernel_rfl) (by kernel_rfl) ?_
              refine nB ?_
              refine nT ?_
              refine xR [hR 1 rfl rfl (r_bin (u1 := .int .i64 ((k : Nat) : Int)) (u2 := .int .i64 1) (v := .int .i64 ((k + 1 : Nat) : Int)) (b_add (by rw [IntKind.wrap_i64]; omega)) (lt_of rfl) ⟨rfl, trivial⟩)] (by kernel_rfl) (by kernel_rfl) ?_
              refine nL (k + 1) ⟨(show (k + 1) ≤ p.length from (by omega)), (show (sidesN i.toNat n.toNat).length = p.length from hsl), (show ∀ t, t < (k + 1) → (p.getD t z_api_Step).f_Left = (sidesN i.toNat n.toNat).getD t false from (all_succ hb (by first | assumption | exact Classical.not_not.1 (by assumption) | simp [*])))⟩ (show (p.length - (k + 1) : Nat) < p.length - k from (by omega)) (fun _ _ hG => Gs.into2 (s' := ⟨[dv (strV root), slV tleaf nleaf kU8 leaf, dv (.int .i64 ((i.toNat : Nat) : Int)), dv (.int .i64 ((n.toNat : Nat) : Int)), slV tp np (k_api_Step false) p, aa, aa, aa, aa, aa, aa, ownV 0 kBool 0 (sidesN i.toNat n.toNat).length, dv (strV (climb (ofB 2 [leaf]) (p.take (k + 1)))), dv (.int .i64 ((k + 1 : Nat) : Int))], [.live (arrK 4 kBool (sidesN i.toNat n.toNat))]⟩) [0] (bm 14 14367) (t1 := [dv (strV root), slV tleaf nleaf kU8 leaf, dv (.int .i64 ((i.toNat : Nat) : Int)), dv (.int .i64 ((n.toNat : Nat) : Int)), slV tp np (k_api_Step false) p, aa, aa, aa, aa, aa, aa, ownV 0 kBool 0 (sidesN i.toNat n.toNat).length, dv (strV (climb (ofB 2 [leaf]) (p.take (k + 1)))), dv (.int .i64 ((k + 1 : Nat) : Int))]) (t2 := [dv (strV root), slV tleaf nleaf kU8 leaf, dv (.int .i64 ((i.toNat : Nat) : Int)), dv (.int .i64 ((n.toNat : Nat) : Int)), slV tp np (k_api_Step false) p, aa, aa, aa, aa, aa, aa, ownV 0 kBool 0 (sidesN i.toNat n.toNat).length, dv (strV (ofB (3 : UInt8) [(p.getD k z_api_Step).f_Digest, (climb (ofB 2 [leaf]) (p.take k))])), dv (.int .i64 ((k + 1 : Nat) : Int))]) (h1 := [.live (arrK 4 kBool (sidesN i.toNat n.toNat))]) (by have e1 : ((climb (ofB 2 [leaf]) (p.take (k + 1))) : List UInt8) = (ofB (3 : UInt8) [(p.getD k z_api_Step).f_Digest, (climb (ofB 2 [leaf]) (p.take k))]) := (by (have h8 : (p.getD k z_api_Step).f_Left = (sidesN i.toNat n.toNat).getD k false := Classical.not_not.1 (by assumption); rw [climb_take (p := p) (k := k) _ (by omega), climb1]; first | (have h7 : (p.getD k z_api_Step).f_Left = true := (by first | assumption | exact h8.trans (by assumption)); rw [if_pos h7]) | (have h7 : (p.getD k z_api_Step).f_Left = false := (by first | assumption | exact h8.trans (by assumption)); rw [if_neg (by rw [h7]; decide)]))); have hE := congrArg (fun (q1 : List UInt8) => ([dv (strV root), slV tleaf nleaf kU8 leaf, dv (.int .i64 ((i.toNat : Nat) : Int)), dv (.int .i64 ((n.toNat : Nat) : Int)), slV tp np (k_api_Step false) p, aa, aa, aa, aa, aa, aa, ownV 0 kBool 0 (sidesN i.toNat n.toNat).length, dv (strV q1), dv (.int .i64 ((k + 1 : Nat) : Int))] : List AV)) e1; exact hE) rfl (by kernel_rfl) (by kernel_rfl) (by kernel_rfl) (by kernel_rfl) (by kernel_rfl) (by kernel_rfl) (by kernel_rfl) (by kernel_rfl) (by kernel_rfl) (by kernel_rfl) (by kernel_rfl) hG)
            · replace hq6 := Bool.eq_false_iff.2 hq6
              refine T.condF (by kernel_rfl) hq6 ?_
              refine xR [hR 3 rfl rfl (q_index tp np (k_api_Step false) p k (k := .i64) (i := ((k : Nat) : Int)) Try.underlying42 iat_67 rfl rfl (by first | assumption | omega | (unfold maxLen; omega) | (simp [maxLen, -List.getD_eq_getElem?_getD] <;> omega) | decide) (lt_of rfl) trivial),
                hR 6 rfl rfl (r_call (ref02_Pair (3 : UInt8) (climb (ofB 2 [leaf]) (p.take k)) (p.getD k z_api_Step).f_Digest (by first | assumption | omega | (unfold maxLen; omega) | (simp [maxLen, -List.getD_eq_getElem?_getD] <;> omega) | decide)) Try.func58 rfl (by decide) [] [] (l := [(.const (.int .u8 3), dv (.int .u8 3)), (.tmp 58, dv (strV (climb (ofB 2 [leaf]) (p.take k)))), (.tmp 63, dv (strV (p.getD k z_api_Step).f_Digest))]) [] rfl 0 0 rfl rfl rfl rfl rfl rfl rfl rfl rfl ⟨.inl ⟨rfl, rfl⟩, ⟨.inl ⟨rfl, rfl⟩, ⟨.inl ⟨rfl, rfl⟩, trivial⟩⟩⟩ rfl (fun b hb => by cases hb) (.inl rfl) (lt_of rfl) ⟨rfl, trivial⟩)] (by kernel_rfl) (by kernel_rfl) ?_
              refine nB ?_
              refine nT ?_
              refine xR [hR 1 rfl rfl (r_bin (u1 := .int .i64 ((k : Nat) : Int)) (u2 := .int .i64 1) (v := .int .i64 ((k + 1 : Nat) : Int)) (b_add (by rw [IntKind.wrap_i64]; omega)) (lt_of rfl) ⟨rfl, trivial⟩)] (by kernel_rfl) (by kernel_rfl) ?_
              refine nL (k + 1) ⟨(show (k + 1) ≤ p.length from (by omega)), (show (sidesN i.toNat n.toNat).length = p.length from hsl), (show ∀ t, t < (k + 1) → (p.getD t z_api_Step).f_Left = (sidesN i.toNat n.toNat).getD t false from (all_succ hb (by first | assumption | exact Classical.not_not.1 (by assumption) | simp [*])))⟩ (show (p.length - (k + 1) : Nat) < p.length - k from (by omega)) (fun _ _ hG => Gs.into2 (s' := ⟨[dv (strV root), slV tleaf nleaf kU8 leaf, dv (.int .i64 ((i.toNat : Nat) : Int)), dv (.int .i64 ((n.toNat : Nat) : Int)), slV tp np (k_api_Step false) p, aa, aa, aa, aa, aa, aa, ownV 0 kBool 0 (sidesN i.toNat n.toNat).length, dv (strV (climb (ofB 2 [leaf]) (p.take (k + 1)))), dv (.int .i64 ((k + 1 : Nat) : Int))], [.live (arrK 4 kBool (sidesN i.toNat n.toNat))]⟩) [0] (bm 14 14367) (t1 := [dv (strV root), slV tleaf nleaf kU8 leaf, dv (.int .i64 ((i.toNat : Nat) : Int)), dv (.int .i64 ((n.toNat : Nat) : Int)), slV tp np (k_api_Step false) p, aa, aa, aa, aa, aa, aa, ownV 0 kBool 0 (sidesN i.toNat n.toNat).length, dv (strV (climb (ofB 2 [leaf]) (p.take (k + 1)))), dv (.int .i64 ((k + 1 : Nat) : Int))]) (t2 := [dv (strV root), slV tleaf nleaf kU8 leaf, dv (.int .i64 ((i.toNat : Nat) : Int)), dv (.int .i64 ((n.toNat : Nat) : Int)), slV tp np (k_api_Step false) p, aa, aa, aa, aa, aa, aa, ownV 0 kBool 0 (sidesN i.toNat n.toNat).length, dv (strV (ofB (3 : UInt8) [(climb (ofB 2 [leaf]) (p.take k)), (p.getD k z_api_Step).f_Digest])), dv (.int .i64 ((k + 1 : Nat) : Int))]) (h1 := [.live (arrK 4 kBool (sidesN i.toNat n.toNat))]) (by have e1 : ((climb (ofB 2 [leaf]) (p.take (k + 1))) : List UInt8) = (ofB (3 : UInt8) [(climb (ofB 2 [leaf]) (p.take k)), (p.getD k z_api_Step).f_Digest]) := (by (have h8 : (p.getD k z_api_Step).f_Left = (sidesN i.toNat n.toNat).getD k false := Classical.not_not.1 (by assumption); rw [climb_take (p := p) (k := k) _ (by omega), climb1]; first | (have h7 : (p.getD k z_api_Step).f_Left = true := (by first | assumption | exact h8.trans (by assumption)); rw [if_pos h7]) | (have h7 : (p.getD k z_api_Step).f_Left = false := (by first | assumption | exact h8.trans (by assumption)); rw [if_neg (by rw [h7]; decide)]))); have hE := congrArg (fun (q1 : List UInt8) => ([dv (strV root), slV tleaf nleaf kU8 leaf, dv (.int .i64 ((i.toNat : Nat) : Int)), dv (.int .i64 ((n.toNat : Nat) : Int)), slV tp np (k_api_Step false) p, aa, aa, aa, aa, aa, aa, ownV 0 kBool 0 (sidesN i.toNat n.toNat).length, dv (strV q1), dv (.int .i64 ((k + 1 : Nat) : Int))] : List AV)) e1; exact hE) rfl (by kernel_rfl) (by kernel_rfl) (by kernel_rfl) (by kernel_rfl) (by kernel_rfl) (by kernel_rfl) (by kernel_rfl) (by kernel_rfl) (by kernel_rfl) (by kernel_rfl) (by kernel_rfl) hG)
        · refine T.condF (by kernel_rfl) (decide_eq_false hq4) ?_
          refine T.exit ?_
          refine xT ?_
          refine xT ?_
          refine xH ?_
          refine nT ?_
          refine T.seq ?_
          refine T.seq ?_
          refine xR [] (by kernel_rfl) (by kernel_rfl) ?_
          refine nT ?_
          by_cases hq7 : (climb (ofB 2 [leaf]) (p.take k)) ≠ root
          · refine T.condT (by kernel_rfl) (decide_eq_true hq7) ?_
            refine T.seq ?_
            refine xR [] (by kernel_rfl) (by kernel_rfl) ?_
            refine nT ?_
            refine T.ret ?_
            refine rT ?_
            exact tE (.inl rfl) [.t 10 (.one (.d (.val (.int .i64 90))))] ⟨⟨rfl, by kernel_rfl⟩, trivial⟩ [] (by have e1 : ((checkM root leaf i n p) : Int) = 90 := (by first | rfl | exact chk_range (by omega) | exact chk_len (by omega) (by omega) | exact chk_at (p := p) (k := k) (by omega) (by omega) (by assumption) | exact (chk_range (by omega)).symm | exact (chk_len (by omega) (by omega)).symm | exact (chk_at (p := p) (k := k) (by omega) (by omega) (by assumption)).symm | (rw [chk_end (root := root) (leaf := leaf) (k := k) (by omega) hsl (by omega) hb]; simp [*]; done)); have hE := congrArg (fun (q1 : Int) => (dv (.int .i64 q1) : AV)) e1; exact hE) rfl rfl rfl rfl rfl trivial
          · refine T.condF (by kernel_rfl) (decide_eq_false hq7) ?_
            refine T.skip ?_
            refine nT ?_
            refine T.seq ?_
            refine xR [] (by kernel_rfl) (by kernel_rfl) ?_
            refine nT ?_
            refine T.ret ?_
            exact tE (.inl rfl) [.t 10 (.one (.d (.val (.int .i64 0))))] ⟨⟨rfl, by kernel_rfl⟩, trivial⟩ [] (by have e1 : ((checkM root leaf i n p) : Int) = 0 := (by first | rfl | exact chk_range (by omega) | exact chk_len (by omega) (by omega) | exact chk_at (p := p) (k := k) (by omega) (by omega) (by assumption) | exact (chk_range (by omega)).symm | exact (chk_len (by omega) (by omega)).symm | exact (chk_at (p := p) (k := k) (by omega) (by omega) (by assumption)).symm | (rw [chk_end (root := root) (leaf := leaf) (k := k) (by omega) hsl (by omega) hb]; simp [*]; done)); have hE := congrArg (fun (q1 : Int) => (dv (.int .i64 q1) : AV)) e1; exact hE) rfl rfl rfl rfl rfl trivial
end Go.Proofs.Ytacikihlgpnjhaa.Q
