import Derived.Test.YtalapplihdmenaaGreatC13n3
namespace Go.Proofs.YtalapplihdmenaaGreat.Q
open Go Go.RowKit
set_option linter.unusedVariables false
set_option linter.unusedSimpArgs false
set_option maxRecDepth 100000
set_option maxHeartbeats 4000000
theorem wire_may (most : Int) (tb : Bool) (nb : Bool) (b : List UInt8) (hb : b.length ≤ 4) : Holds Tryz.prog 128 ⟨[vI most, slV tb nb kU8 b], [], vI (limE most b), []⟩ := by
 refine Holds.of Tryz.func128 rfl (N := 11) Tryz.ntmps128 rfl fun w0 B0 S0 U0 => ?_
 show T _ (mkBase 11 0 w0 S0 U0 B0) ⟨[vI most, slV tb nb kU8 b], []⟩ _ _
 have hnb := numL_lt4 hb
 refine sR [] ?_
 refine T.seq ?_
 refine sR [hR 1 rfl rfl (rCa (wire_number tb nb b (by omega)) Tryz.func127 [] [(.tmp 5, slV tb nb kU8 b)] 0 0),
   hR 2 rfl rfl (r_conv (u := .int .u64 ((numL b : Nat) : Int)) (v := .int .i64 ((numL b : Nat) : Int)) (c_int Tryz.underlying120 Tryz.underlying3 (by rw [IntKind.wrap_i64]; omega)) (lt_of rfl) trivial),
   hR 4 rfl rfl (r_max (k := .i64) (a := most) (b := 0) (lt_of rfl) ⟨rfl, trivial⟩)] ?_
 by_cases hq1 : ((numL b : Nat) : Int) > (max most 0)
 ·refine cT (dT hq1) ?_
  refine sR [] ?_
  refine T.ret (rT ?_)
  exact eRt 4 (.one (dI 11)) [] (by have e1 : (limE most b : Int) = 11 := (by (simp only [limE]; rw [if_pos ‹_›])); have hE := cI e1; exact hE) trivial
 refine cF (dF hq1) ?_
 refine T.skip (nT ?_)
 refine sR [] ?_
 refine T.ret ?_
 exact eRt 4 (.one (dI 0)) [] (by have e1 : (limE most b : Int) = 0 := (by (simp only [limE]; rw [if_neg ‹_›])); have hE := cI e1; exact hE) trivial
theorem wire_New (tb : Bool) (nb : Bool) (b : List UInt8) (hb : b.length ≤ 140737488355328) : Holds Tryz.prog 91 ⟨[slV tb nb kU8 b], [], pv 0 0, [.live (.box 160 [dU b, dI 0])]⟩ := by
 refine Holds.of Tryz.func91 rfl (N := 7) Tryz.ntmps91 rfl fun w0 B0 S0 U0 => ?_
 show T _ (mkBase 7 0 w0 S0 U0 B0) ⟨[slV tb nb kU8 b], []⟩ _ _
 refine sR [] ?_
 refine sR [hR 1 rfl rfl (rCa (clone_u8 tb nb b ‹_›) Tryz.func69 [0] [(.tmp 3, slV tb nb kU8 b)] 0 1)] ?_
 refine T.ret ?_
 refine eN ⟨[slV tb nb kU8 b, aa, pv 1 0], [.live (arrK 5 kU8 b), .live (.box 160 [.own 0 kU8.sz 0 b.length, dI 0])]⟩ ?_
 refine Ends.turn (s' := ⟨[slV tb nb kU8 b, aa, pv 1 0], [.dead, .live (.box 160 [dU b, dI 0])]⟩) (fun _ _ hG => Gs.freeze (s := ⟨[slV tb nb kU8 b, aa, pv 1 0], [.live (arrK 5 kU8 b), .live (.box 160 [.own 0 kU8.sz 0 b.length, dI 0])]⟩) 0 (el := elOf kU8 b) (sz := kU8.sz) (n := b.length) rfl ⟨.inl rfl, (kk2 trivial)⟩ ⟨(.inl ⟨rfl, rfl⟩), ⟨(.inr ⟨by decide, .inr ⟨rfl, ⟨(.inr ⟨rfl, rfl, rfl, (fun h => by cases h), rfl, rfl, Nat.le_of_eq (Nat.zero_add _), fun i j _ => by rw [Nat.zero_add]⟩), ⟨.inl rfl, trivial⟩⟩⟩⟩), trivial⟩⟩ hG) ?_
 exact eRt 2 (.one (.ptr 1 0)) [1] rfl (ix trivial)
theorem cells_33 : Cells Tryz.prog 33 1 := ⟨_, iat_33, rfl⟩
theorem take_any_ok (rest : List UInt8) (e : Int) (n : Int) (hr : rest.length ≤ 140737488355328) (hn : 0 ≤ n) (hc : okT rest e n 0) : Holds Tryz.prog 114 ⟨[pv 0 0, vI n, dv (.func (.func 115) #[] #[])], [.box 160 [dU rest, dI e]], slV false false kU8 (rest.take n.toNat), [.live (.box 160 [dU (rest.drop n.toNat), dI 0])]⟩ := by
 refine Holds.of Tryz.func114 rfl (N := 54) Tryz.ntmps114 rfl fun w0 B0 S0 U0 => ?_
 show T _ (mkBase 54 1 w0 S0 U0 B0) ⟨[pv 0 0, vI n, dv (.func (.func 115) #[] #[])], [.live (.box 160 [dU rest, dI e])]⟩ _ _
 have htl : (rest.take n.toNat).length ≤ n.toNat := List.length_take_le _ _
 obtain ⟨hc1, hc2, hc3⟩ := hc
 have htm : (rest.take n.toNat).length = n.toNat := by rw [List.length_take]; omega
 refine sR [] ?_
 refine T.seq ?_
 refine sR [hY0 3,
   hY0 4,
   hY0 5,
   hY0 6,
   hY0 7,
   hP0 8] ?_
 by_cases hq1 : e ≠ 0
 ·exact absurd hc1 hq1
 refine cF (dF hq1) ?_
 refine T.skip (nT (T.seq ?_))
 refine sR [] ?_
 by_cases hq2 : n > ((rest.length : Nat) : Int)
 ·exact absurd hc2 (by omega)
 refine cF (dF hq2) ?_
 refine T.skip (nT ?_)
 refine sR [hR 5 rfl rfl (q_slice false false kU8 rest (rest.take (n).toNat) 0 (n).toNat (lo := none) (hi := some (.tmp 31, n)) Tryz.underlying33 iat_5 rfl rfl rfl rfl (by omega) (by omega) (by omega) rfl (lt_of rfl) trivial)] ?_
 refine T.seq ?_
 refine sR [hR 3 rfl rfl (r_callV (fs := #[]) (cs := #[]) (wire_any false false (rest.take (n).toNat) ) Tryz.func115 rfl (by decide) [] [] (l := [(.tmp 35, slV false false kU8 (rest.take (n).toNat))]) [] rfl 0 0 rfl rfl rfl rfl rfl rfl rfl rfl rfl rfl rfl ⟨.inl ⟨rfl, rfl⟩, trivial⟩ rfl (fun b hb => by cases hb) (.inl rfl) (lt_of rfl) trivial)] ?_
 refine sR [] ?_
 refine cF (b := false) rfl ?_
 refine T.skip (nT ?_)
 refine sR [hR 6 rfl rfl (q_slice false false kU8 rest (rest.drop (n).toNat) (n).toNat rest.length (lo := some (.tmp 49, n)) (hi := none) Tryz.underlying33 iat_5 rfl rfl rfl (by omega) rfl (by omega) (by omega) (by rw [List.take_length]) (lt_of rfl) trivial)] ?_
 refine sR [] ?_
 refine T.ret ?_
 exact eRt 6 (.one (dU (rest.take (n).toNat))) [0] (congrArg (fun (q1 : List UInt8) => (slV false false kU8 q1 : AV)) (by rfl)) ⟨⟨rfl, (by have e1 : ((rest.drop (n).toNat) : List UInt8) = (rest.drop n.toNat) := (by rfl); have hE := congrArg (fun (q1 : List UInt8) => (.live (.box 160 [dU q1, dI 0]) : HS)) e1; exact Eq.trans (by kernel_rfl) hE)⟩, trivial⟩
theorem take_any_no (rest : List UInt8) (e : Int) (n : Int) (hr : rest.length ≤ 140737488355328) (hn : 0 ≤ n) (hc : ¬ okT rest e n 0) : Holds Tryz.prog 114 ⟨[pv 0 0, vI n, dv (.func (.func 115) #[] #[])], [.box 160 [dU rest, dI e]], dv (.slice none 0 0), [.live (.box 160 [dU rest, dI (rdE rest e n 0)])]⟩ := by
 refine Holds.of Tryz.func114 rfl (N := 54) Tryz.ntmps114 rfl fun w0 B0 S0 U0 => ?_
 show T _ (mkBase 54 1 w0 S0 U0 B0) ⟨[pv 0 0, vI n, dv (.func (.func 115) #[] #[])], [.live (.box 160 [dU rest, dI e])]⟩ _ _
 have htl : (rest.take n.toNat).length ≤ n.toNat := List.length_take_le _ _
 refine sR [] ?_
 refine T.seq ?_
 refine sR [hY0 3,
   hY0 4,
   hY0 5,
   hY0 6,
   hY0 7,
   hP0 8] ?_
 by_cases hq1 : e ≠ 0
 ·refine cT (dT hq1) ?_
  refine sR [] ?_
  refine T.ret (rT ?_)
  exact eRt 6 (.one (.d (.val (.slice none 0 0)))) [0] rfl ⟨⟨rfl, (by have e1 : (e : Int) = (rdE rest e n 0) := (by (simp only [rdE]; rw [if_pos ‹_›])); have hE := congrArg (fun (q1 : Int) => (.live (.box 160 [dU rest, dI q1]) : HS)) e1; exact Eq.trans (by kernel_rfl) hE)⟩, trivial⟩
 refine cF (dF hq1) ?_
 refine T.skip (nT (T.seq ?_))
 refine sR [] ?_
 by_cases hq2 : n > ((rest.length : Nat) : Int)
 ·refine cT (dT hq2) ?_
  refine sR [] ?_
  refine sR [] ?_
  refine T.ret (rT ?_)
  exact eRt 6 (.one (.d (.val (.slice none 0 0)))) [0] rfl ⟨⟨rfl, (by have e1 : (10 : Int) = (rdE rest e n 0) := (by (simp only [rdE]; (rw [if_neg ‹_›]; rw [if_pos ‹_›]))); have hE := congrArg (fun (q1 : Int) => (.live (.box 160 [dU rest, dI q1]) : HS)) e1; exact Eq.trans (by kernel_rfl) hE)⟩, trivial⟩
 exact absurd ⟨by omega, by omega, rfl⟩ hc
theorem take_limit_ok (rest : List UInt8) (e : Int) (n : Int) (most : Int) (hr : rest.length ≤ 140737488355328) (hn : n = 4) (hc : okT rest e n (limE most (rest.take n.toNat))) : Holds Tryz.prog 114 ⟨[pv 0 0, vI n, dv (.func (.func 128) #[.int .i64 most] #[])], [.box 160 [dU rest, dI e]], slV false false kU8 (rest.take n.toNat), [.live (.box 160 [dU (rest.drop n.toNat), dI 0])]⟩ := by
 refine Holds.of Tryz.func114 rfl (N := 54) Tryz.ntmps114 rfl fun w0 B0 S0 U0 => ?_
 show T _ (mkBase 54 1 w0 S0 U0 B0) ⟨[pv 0 0, vI n, dv (.func (.func 128) #[.int .i64 most] #[])], [.live (.box 160 [dU rest, dI e])]⟩ _ _
 have htl : (rest.take n.toNat).length ≤ n.toNat := List.length_take_le _ _
 obtain ⟨hc1, hc2, hc3⟩ := hc
 have htm : (rest.take n.toNat).length = n.toNat := by rw [List.length_take]; omega
 refine sR [] ?_
 refine T.seq ?_
 refine sR [hY0 3,
   hY0 4,
   hY0 5,
   hY0 6,
   hY0 7,
   hP0 8] ?_
 by_cases hq1 : e ≠ 0
 ·exact absurd hc1 hq1
 refine cF (dF hq1) ?_
 refine T.skip (nT (T.seq ?_))
 refine sR [] ?_
 by_cases hq2 : n > ((rest.length : Nat) : Int)
 ·exact absurd hc2 (by omega)
 refine cF (dF hq2) ?_
 refine T.skip (nT ?_)
 refine sR [hR 5 rfl rfl (q_slice false false kU8 rest (rest.take (n).toNat) 0 (n).toNat (lo := none) (hi := some (.tmp 31, n)) Tryz.underlying33 iat_5 rfl rfl rfl rfl (by omega) (by omega) (by omega) rfl (lt_of rfl) trivial)] ?_
 refine T.seq ?_
 refine sR [hR 3 rfl rfl (r_callV (fs := #[.int .i64 most]) (cs := #[]) (wire_may most false false (rest.take (n).toNat) (by omega)) Tryz.func128 rfl (by decide) [] [] (l := [(.tmp 35, slV false false kU8 (rest.take (n).toNat))]) [] rfl 0 0 rfl rfl rfl rfl rfl rfl rfl rfl rfl rfl rfl ⟨.inl ⟨rfl, rfl⟩, ⟨.inl ⟨rfl, rfl⟩, trivial⟩⟩ rfl (fun b hb => by cases hb) (.inl rfl) (lt_of rfl) trivial)] ?_
 refine sR [] ?_
 by_cases hq3 : (limE most (rest.take (n).toNat)) ≠ 0
 ·exact absurd hc3 hq3
 refine cF (dF hq3) ?_
 refine T.skip (nT ?_)
 refine sR [hR 6 rfl rfl (q_slice false false kU8 rest (rest.drop (n).toNat) (n).toNat rest.length (lo := some (.tmp 49, n)) (hi := none) Tryz.underlying33 iat_5 rfl rfl rfl (by omega) rfl (by omega) (by omega) (by rw [List.take_length]) (lt_of rfl) trivial)] ?_
 refine sR [] ?_
 refine T.ret ?_
 exact eRt 6 (.one (dU (rest.take (n).toNat))) [0] (congrArg (fun (q1 : List UInt8) => (slV false false kU8 q1 : AV)) (by rfl)) ⟨⟨rfl, (by have e1 : ((rest.drop (n).toNat) : List UInt8) = (rest.drop n.toNat) := (by rfl); have e2 : (limE most (rest.take (n).toNat) : Int) = 0 := (by exact hc3); have hE := congr (congrArg (fun (q1 : List UInt8) (q2 : Int) => (.live (.box 160 [dU q1, dI q2]) : HS)) e1) e2; exact Eq.trans (by kernel_rfl) hE)⟩, trivial⟩
theorem take_limit_no (rest : List UInt8) (e : Int) (n : Int) (most : Int) (hr : rest.length ≤ 140737488355328) (hn : n = 4) (hc : ¬ okT rest e n (limE most (rest.take n.toNat))) : Holds Tryz.prog 114 ⟨[pv 0 0, vI n, dv (.func (.func 128) #[.int .i64 most] #[])], [.box 160 [dU rest, dI e]], dv (.slice none 0 0), [.live (.box 160 [dU rest, dI (rdE rest e n (limE most (rest.take n.toNat)))])]⟩ := by
 refine Holds.of Tryz.func114 rfl (N := 54) Tryz.ntmps114 rfl fun w0 B0 S0 U0 => ?_
 show T _ (mkBase 54 1 w0 S0 U0 B0) ⟨[pv 0 0, vI n, dv (.func (.func 128) #[.int .i64 most] #[])], [.live (.box 160 [dU rest, dI e])]⟩ _ _
 have htl : (rest.take n.toNat).length ≤ n.toNat := List.length_take_le _ _
 refine sR [] ?_
 refine T.seq ?_
 refine sR [hY0 3,
   hY0 4,
   hY0 5,
   hY0 6,
   hY0 7,
   hP0 8] ?_
 by_cases hq1 : e ≠ 0
 ·refine cT (dT hq1) ?_
  refine sR [] ?_
  refine T.ret (rT ?_)
  exact eRt 6 (.one (.d (.val (.slice none 0 0)))) [0] rfl ⟨⟨rfl, (by have e1 : (e : Int) = (rdE rest e n (limE most (rest.take n.toNat))) := (by (simp only [rdE]; rw [if_pos ‹_›])); have hE := congrArg (fun (q1 : Int) => (.live (.box 160 [dU rest, dI q1]) : HS)) e1; exact Eq.trans (by kernel_rfl) hE)⟩, trivial⟩
 refine cF (dF hq1) ?_
 refine T.skip (nT (T.seq ?_))
 refine sR [] ?_
 by_cases hq2 : n > ((rest.length : Nat) : Int)
 ·refine cT (dT hq2) ?_
  refine sR [] ?_
  refine sR [] ?_
  refine T.ret (rT ?_)
  exact eRt 6 (.one (.d (.val (.slice none 0 0)))) [0] rfl ⟨⟨rfl, (by have e1 : (10 : Int) = (rdE rest e n (limE most (rest.take n.toNat))) := (by (simp only [rdE]; (rw [if_neg ‹_›]; rw [if_pos ‹_›]))); have hE := congrArg (fun (q1 : Int) => (.live (.box 160 [dU rest, dI q1]) : HS)) e1; exact Eq.trans (by kernel_rfl) hE)⟩, trivial⟩
 refine cF (dF hq2) ?_
 refine T.skip (nT ?_)
 refine sR [hR 5 rfl rfl (q_slice false false kU8 rest (rest.take (n).toNat) 0 (n).toNat (lo := none) (hi := some (.tmp 31, n)) Tryz.underlying33 iat_5 rfl rfl rfl rfl (by omega) (by omega) (by omega) rfl (lt_of rfl) trivial)] ?_
 refine T.seq ?_
 refine sR [hR 3 rfl rfl (r_callV (fs := #[.int .i64 most]) (cs := #[]) (wire_may most false false (rest.take (n).toNat) (by omega)) Tryz.func128 rfl (by decide) [] [] (l := [(.tmp 35, slV false false kU8 (rest.take (n).toNat))]) [] rfl 0 0 rfl rfl rfl rfl rfl rfl rfl rfl rfl rfl rfl ⟨.inl ⟨rfl, rfl⟩, ⟨.inl ⟨rfl, rfl⟩, trivial⟩⟩ rfl (fun b hb => by cases hb) (.inl rfl) (lt_of rfl) trivial)] ?_
 refine sR [] ?_
 by_cases hq3 : (limE most (rest.take (n).toNat)) ≠ 0
 ·refine cT (dT hq3) ?_
  refine sR [] ?_
  refine T.ret (rT ?_)
  exact eRt 6 (.one (.d (.val (.slice none 0 0)))) [0] rfl ⟨⟨rfl, (by have e1 : (limE most (rest.take (n).toNat) : Int) = (rdE rest e n (limE most (rest.take n.toNat))) := (by (simp only [rdE]; (rw [if_neg ‹_›]; rw [if_neg ‹_›]))); have hE := congrArg (fun (q1 : Int) => (.live (.box 160 [dU rest, dI q1]) : HS)) e1; exact Eq.trans (by kernel_rfl) hE)⟩, trivial⟩
 exact absurd ⟨by omega, by omega, Classical.not_not.1 hq3⟩ hc
theorem rd_Int (rest : List UInt8) (e : Int) (hr : rest.length ≤ 140737488355328) : Holds Tryz.prog 112 ⟨[pv 0 0], [.box 160 [dU rest, dI e]], vI (rdI rest e), [.live (.box 160 [dU (rdR rest e 8 0), dI (rdE rest e 8 0)])]⟩ := by
 refine Holds.of Tryz.func112 rfl (N := 11) Tryz.ntmps112 rfl fun w0 B0 S0 U0 => ?_
 show T _ (mkBase 11 1 w0 S0 U0 B0) ⟨[pv 0 0], [.live (.box 160 [dU rest, dI e])]⟩ _ _
 have hi8 : numL (rest.take 8) < 18446744073709551616 := numL_lt8 (List.length_take_le _ _)
 refine sR [] ?_
 refine T.seq ?_
 by_cases hq1 : okT rest e 8 0
 ·have hk := id hq1; simp only [okT] at hk
  refine sR [hR 1 rfl rfl (rCa (take_any_ok rest e 8 ‹_› (by omega) ‹_›) Tryz.func114 [0] [(.tmp 4, pv 0 0), (.const (.int .i64 8), vI 8), (.func 115, dv (.func (.func 115) #[] #[]))] 1 1)] ?_
  refine sR [hR 1 rfl rfl (r_neNil (s := dU (rest.take 8)) Tryz.underlying33 (.inr (by (simp [maxLen, -List.getD_eq_getElem?_getD] <;> omega))) (lt_of rfl) ⟨rfl, trivial⟩)] ?_
  refine cT (b := true) rfl ?_
  refine sR [hR 1 rfl rfl (rCa (wire_number false false (rest.take 8) (by (simp [maxLen, -List.getD_eq_getElem?_getD] <;> omega))) Tryz.func127 [] [(.tmp 8, slV false false kU8 (rest.take 8))] 0 0),
    hR 2 rfl rfl (r_conv (u := .int .u64 ((numL (rest.take 8) : Nat) : Int)) (v := .int .i64 (toI64 (numL (rest.take 8)))) (c_i64 ‹_› Tryz.underlying120 Tryz.underlying2) (lt_of rfl) trivial)] ?_
  refine T.ret (rT ?_)
  exact eRt 2 (.one (dI (toI64 (numL (rest.take 8))))) [0] (by have e1 : (rdI rest e : Int) = toI64 (numL (rest.take 8)) := (by (simp only [rdI]; (rw [if_pos ‹_›]; done))); have hE := cI e1; exact hE) ⟨⟨rfl, (by have e1 : ((rest.drop 8) : List UInt8) = (rdR rest e 8 0) := (by (rw [rdR_ok ‹_›]; rfl)); have e2 : (0 : Int) = (rdE rest e 8 0) := (by (rw [rdE_ok ‹_›])); have hE := congr (congrArg (fun (q1 : List UInt8) (q2 : Int) => (.live (.box 160 [dU q1, dI q2]) : HS)) e1) e2; exact Eq.trans (by kernel_rfl) hE)⟩, trivial⟩
 refine sR [hR 1 rfl rfl (rCa (take_any_no rest e 8 ‹_› (by omega) ‹_›) Tryz.func114 [0] [(.tmp 4, pv 0 0), (.const (.int .i64 8), vI 8), (.func 115, dv (.func (.func 115) #[] #[]))] 1 1)] ?_
 refine sR [hR 1 rfl rfl (r_bin (u1 := .slice none 0 0) (u2 := .slice none 0 0) (v := .bool false) (b_neqNilS Tryz.underlying33) (lt_of rfl) ⟨rfl, trivial⟩)] ?_
 refine cF (b := false) rfl ?_
 refine T.skip (nT ?_)
 refine sR [] ?_
 refine T.ret ?_
 exact eRt 2 (.one (dI 0)) [0] (by have e1 : (rdI rest e : Int) = 0 := (by (simp only [rdI]; (rw [if_neg ‹_›]; done))); have hE := cI e1; exact hE) ⟨⟨rfl, (by have e1 : (rest : List UInt8) = (rdR rest e 8 0) := (by (rw [rdR_no ‹_›])); have hE := congrArg (fun (q1 : List UInt8) => (.live (.box 160 [dU q1, dI (rdE rest e 8 0)]) : HS)) e1; exact Eq.trans (by kernel_rfl) hE)⟩, trivial⟩
theorem rd_Count (rest : List UInt8) (e : Int) (most : Int) (hr : rest.length ≤ 140737488355328) : Holds Tryz.prog 113 ⟨[pv 0 0, vI most], [.box 160 [dU rest, dI e]], vI ((rdC rest e most : Nat) : Int), [.live (.box 160 [dU (rdR rest e 4 (limE most (rest.take 4))), dI (rdE rest e 4 (limE most (rest.take 4)))])]⟩ := by
 refine Holds.of Tryz.func113 rfl (N := 15) Tryz.ntmps113 rfl fun w0 B0 S0 U0 => ?_
 show T _ (mkBase 15 1 w0 S0 U0 B0) ⟨[pv 0 0, vI most], [.live (.box 160 [dU rest, dI e])]⟩ _ _
 have hi4 : numL (rest.take 4) < 4294967296 := numL_lt4 (List.length_take_le _ _)
 refine sR [] ?_
 refine T.seq ?_
 by_cases hq1 : okT rest e 4 (limE most (rest.take 4))
 ·have hk := id hq1; simp only [okT] at hk
  refine sR [hR 2 rfl rfl (r_makeFunc (fs := [(.tmp 7, .int .i64 most)]) (cs := []) rfl rfl (lt_of rfl) trivial),
    hR 3 rfl rfl (rCa (take_limit_ok rest e 4 most ‹_› (by omega) ‹_›) Tryz.func114 [0] [(.tmp 6, pv 0 0), (.const (.int .i64 4), vI 4), (.tmp 8, dv (.func (.func 128) #[.int .i64 most] #[]))] 1 1)] ?_
  refine sR [hR 1 rfl rfl (r_neNil (s := dU (rest.take 4)) Tryz.underlying33 (.inr (by (simp [maxLen, -List.getD_eq_getElem?_getD] <;> omega))) (lt_of rfl) ⟨rfl, trivial⟩)] ?_
  refine cT (b := true) rfl ?_
  refine sR [hR 1 rfl rfl (rCa (wire_number false false (rest.take 4) (by (simp [maxLen, -List.getD_eq_getElem?_getD] <;> omega))) Tryz.func127 [] [(.tmp 12, slV false false kU8 (rest.take 4))] 0 0),
    hR 2 rfl rfl (r_conv (u := .int .u64 ((numL (rest.take 4) : Nat) : Int)) (v := .int .i64 ((numL (rest.take 4) : Nat) : Int)) (c_int Tryz.underlying120 Tryz.underlying3 (by rw [IntKind.wrap_i64]; omega)) (lt_of rfl) trivial)] ?_
  refine T.ret (rT ?_)
  exact eRt 4 (.one (dI ((numL (rest.take 4) : Nat) : Int))) [0] (by have e1 : (((rdC rest e most : Nat) : Int) : Int) = ((numL (rest.take 4) : Nat) : Int) := (by (simp only [rdC]; (rw [if_pos ‹_›]; done))); have hE := cI e1; exact hE) ⟨⟨rfl, (by have e1 : ((rest.drop 4) : List UInt8) = (rdR rest e 4 (limE most (rest.take 4))) := (by (rw [rdR_ok ‹_›]; rfl)); have e2 : (0 : Int) = (rdE rest e 4 (limE most (rest.take 4))) := (by (rw [rdE_ok ‹_›])); have hE := congr (congrArg (fun (q1 : List UInt8) (q2 : Int) => (.live (.box 160 [dU q1, dI q2]) : HS)) e1) e2; exact Eq.trans (by kernel_rfl) hE)⟩, trivial⟩
 refine sR [hR 2 rfl rfl (r_makeFunc (fs := [(.tmp 7, .int .i64 most)]) (cs := []) rfl rfl (lt_of rfl) trivial),
   hR 3 rfl rfl (rCa (take_limit_no rest e 4 most ‹_› (by omega) ‹_›) Tryz.func114 [0] [(.tmp 6, pv 0 0), (.const (.int .i64 4), vI 4), (.tmp 8, dv (.func (.func 128) #[.int .i64 most] #[]))] 1 1)] ?_
 refine sR [hR 1 rfl rfl (r_bin (u1 := .slice none 0 0) (u2 := .slice none 0 0) (v := .bool false) (b_neqNilS Tryz.underlying33) (lt_of rfl) ⟨rfl, trivial⟩)] ?_
 refine cF (b := false) rfl ?_
 refine T.skip (nT ?_)
 refine sR [] ?_
 refine T.ret ?_
 exact eRt 4 (.one (dI 0)) [0] (by have e1 : (((rdC rest e most : Nat) : Int) : Int) = 0 := (by (simp only [rdC]; (rw [if_neg ‹_›]; rfl))); have hE := cI e1; exact hE) ⟨⟨rfl, (by have e1 : (rest : List UInt8) = (rdR rest e 4 (limE most (rest.take 4))) := (by (rw [rdR_no ‹_›])); have hE := congrArg (fun (q1 : List UInt8) => (.live (.box 160 [dU q1, dI (rdE rest e 4 (limE most (rest.take 4)))]) : HS)) e1; exact Eq.trans (by kernel_rfl) hE)⟩, trivial⟩
theorem rd_End (rest : List UInt8) (e : Int) (hr : rest.length ≤ 140737488355328) : Holds Tryz.prog 97 ⟨[pv 0 0], [.box 160 [dU rest, dI e]], .tup [], [.live (.box 160 [dU rest, dI (rdX rest e)])]⟩ := by
 refine Holds.of Tryz.func97 rfl (N := 22) Tryz.ntmps97 rfl fun w0 B0 S0 U0 => ?_
 show T _ (mkBase 22 1 w0 S0 U0 B0) ⟨[pv 0 0], [.live (.box 160 [dU rest, dI e])]⟩ _ _
 by_cases hq1 : e = 0
 ·refine sR [hY1 3,
    hY1 4,
    hY1 5,
    hY1 6,
    hY1 7,
    hP1 8,
    hY 10 (dT hq1),
    hY 11 (dT hq1),
    hY 12 (dT hq1),
    hY 13 (dT hq1),
    hY 14 (dT hq1),
    hY 15 (dT hq1),
    hP 16 (dT hq1)] ?_
  by_cases hq2 : ((rest.length : Nat) : Int) > 0
  ·refine cT (dT hq2) ?_
   refine xK [] ?_
   exact tE (.inr rfl) [] trivial [0] rfl rfl rfl rfl rfl rfl ⟨⟨rfl, (by have e1 : (13 : Int) = (rdX rest e) := (by (simp only [rdX]; rw [if_pos ⟨by assumption, by assumption⟩])); have hE := congrArg (fun (q1 : Int) => (.live (.box 160 [dU rest, dI q1]) : HS)) e1; exact Eq.trans (by kernel_rfl) hE)⟩, trivial⟩
  refine cF (dF hq2) ?_
  refine T.skip ?_
  exact tE (.inr rfl) [] trivial [0] rfl rfl rfl rfl rfl rfl ⟨⟨rfl, (by have e1 : (e : Int) = (rdX rest e) := (by (simp only [rdX]; rw [if_neg (fun h => by exact absurd h.2 ‹_›)])); have hE := congrArg (fun (q1 : Int) => (.live (.box 160 [dU rest, dI q1]) : HS)) e1; exact Eq.trans (by kernel_rfl) hE)⟩, trivial⟩
 refine sR [hY1 3,
   hY1 4,
   hY1 5,
   hY1 6,
   hY1 7,
   hP1 8,
   hN 10 true (dF hq1),
   hN 11 true (dF hq1),
   hN 12 true (dF hq1),
   hN 13 true (dF hq1),
   hN 14 true (dF hq1),
   hN 15 true (dF hq1),
   hP 16 (dF hq1)] ?_
 refine cF (b := false) rfl ?_
 refine T.skip ?_
 exact tE (.inr rfl) [] trivial [0] rfl rfl rfl rfl rfl rfl ⟨⟨rfl, (by have e1 : (e : Int) = (rdX rest e) := (by (simp only [rdX]; rw [if_neg (fun h => by exact absurd h.1 ‹_›)])); have hE := congrArg (fun (q1 : Int) => (.live (.box 160 [dU rest, dI q1]) : HS)) e1; exact Eq.trans (by kernel_rfl) hE)⟩, trivial⟩
theorem rd_Err (rest : List UInt8) (e : Int) : Holds Tryz.prog 98 ⟨[pv 0 0], [.box 160 [dU rest, dI e]], vI e, [.live (.box 160 [dU rest, dI e])]⟩ := by
 refine Holds.of Tryz.func98 rfl (N := 9) Tryz.ntmps98 rfl fun w0 B0 S0 U0 => ?_
 show T _ (mkBase 9 1 w0 S0 U0 B0) ⟨[pv 0 0], [.live (.box 160 [dU rest, dI e])]⟩ _ _
 refine sR [] ?_
 refine T.seq ?_
 refine sR [] ?_
 refine cF (b := false) rfl ?_
 refine T.skip (nT ?_)
 refine sR [] ?_
 refine T.ret ?_
 exact eRt 2 (.one (dI e)) [0] rfl (ix trivial)
abbrev Z16 (rest : List UInt8) (e : Int) (most : Int) : HS := .live (.box 160 [dU (rdR rest e 4 (limE most (rest.take 4))), dI (rdE rest e 4 (limE most (rest.take 4)))])
theorem rd_Bytes (rest : List UInt8) (e : Int) (most : Int) (hr : rest.length ≤ 140737488355328) : Holds Tryz.prog 94 ⟨[pv 0 0, vI most], [.box 160 [dU rest, dI e]], ownV 1 kU8 0 (rdY rest e most).length, [.live (.box 160 [dU (rdYR rest e most), dI (rdYE rest e most)]), .live (arrK 5 kU8 (rdY rest e most))]⟩ := by
 refine Holds.of Tryz.func94 rfl (N := 36) Tryz.ntmps94 rfl fun w0 B0 S0 U0 => ?_
 show T _ (mkBase 36 1 w0 S0 U0 B0) ⟨[pv 0 0, vI most], [.live (.box 160 [dU rest, dI e])]⟩ _ _
 have hrc := rdC_lt rest e most
 have hrl := rdR_len rest e 4 (limE most (rest.take 4))
 refine sR [] ?_
 refine T.seq ?_
 refine sR [] ?_
 refine cF (b := false) rfl ?_
 refine T.skip (nT ?_)
 refine sR [] ?_
 refine sR [hR 2 rfl rfl (rCa (rd_Count rest e most ‹_›) Tryz.func113 [0] [(.tmp 14, pv 0 0), (.tmp 15, vI most)] 1 1)] ?_
 refine T.seq ?_
 refine sR [] ?_
 by_cases hq1 : (rdE rest e 4 (limE most (rest.take 4))) ≠ 0
 ·have hy := rdY_fail hq1
  refine cT (dT hq1) ?_
  refine sR [] ?_
  refine T.ret (rT ?_)
  refine eN ⟨[pv 0 0, vI most, aa, aa, dv (.slice none 0 0), slV false false kU8 rest, vI ((rdC rest e most : Nat) : Int), aa, aa, vB false, aa, aa, aa, aa, aa, aa, aa, aa, aa, aa, aa, vB (decide ((rdE rest e 4 (limE most (rest.take 4))) ≠ 0))], [(Z16 rest e most)]⟩ ?_
  refine Ends.turn (s' := ⟨[pv 0 0, vI most, aa, aa, ownV 1 kU8 0 0, slV false false kU8 rest, vI ((rdC rest e most : Nat) : Int), aa, aa, vB false, aa, aa, aa, aa, aa, aa, aa, aa, aa, aa, aa, vB (decide ((rdE rest e 4 (limE most (rest.take 4))) ≠ 0))], [(Z16 rest e most), .live (arrK 5 kU8 ([] : List UInt8))]⟩) (fun _ _ hG => Gs.absent 1 4 5 kU8 rfl rfl hG) ?_
  exact eRt 4 (.one (.own 1 kU8.sz 0 0)) [0, 1] (by have e1 : ((rdY rest e most).length : Nat) = 0 := (by (rw [hy.1]; rfl)); have hE := congrArg (fun (q1 : Nat) => (ownV 1 kU8 0 q1 : AV)) e1; exact hE) ⟨⟨rfl, (by have e1 : ((rdR rest e 4 (limE most (rest.take 4))) : List UInt8) = (rdYR rest e most) := (by (rw [hy.2.1, hy.2.2.2])); have e2 : ((rdE rest e 4 (limE most (rest.take 4))) : Int) = (rdYE rest e most) := (by (rw [hy.2.2.1]; done)); have hE := congr (congrArg (fun (q1 : List UInt8) (q2 : Int) => (.live (.box 160 [dU q1, dI q2]) : HS)) e1) e2; exact Eq.trans (by kernel_rfl) hE)⟩, ⟨⟨rfl, (by have e1 : (([] : List UInt8) : List UInt8) = (rdY rest e most) := (by (rw [hy.1]; done)); have hE := congrArg (fun (q1 : List UInt8) => (.live (arrK 5 kU8 q1) : HS)) e1; exact Eq.trans (by kernel_rfl) hE)⟩, trivial⟩⟩
 have hz := Classical.not_not.1 hq1
 refine cF (dF hq1) ?_
 refine T.skip (nT ?_)
 by_cases hq2 : okT (rdR rest e 4 (limE most (rest.take 4))) (rdE rest e 4 (limE most (rest.take 4))) ((rdC rest e most : Nat) : Int) 0
 ·have hy := rdY_ok hz hq2
  refine sR [hR 2 rfl rfl (rCa (take_any_ok (rdR rest e 4 (limE most (rest.take 4))) (rdE rest e 4 (limE most (rest.take 4))) ((rdC rest e most : Nat) : Int) (by omega) (by omega) ‹_›) Tryz.func114 [0] [(.tmp 22, pv 0 0), (.tmp 23, vI ((rdC rest e most : Nat) : Int)), (.func 115, dv (.func (.func 115) #[] #[]))] 1 1)] ?_
  refine T.seq ?_
  refine sR [] ?_
  refine cF (b := false) rfl ?_
  refine T.skip (nT ?_)
  refine sR [hR 1 rfl rfl (rCa (clone_u8 false false ((rdR rest e 4 (limE most (rest.take 4))).take ((rdC rest e most : Nat) : Int).toNat) (by (simp [maxLen, -List.getD_eq_getElem?_getD] <;> omega))) Tryz.func69 [1] [(.tmp 34, slV false false kU8 ((rdR rest e 4 (limE most (rest.take 4))).take ((rdC rest e most : Nat) : Int).toNat))] 0 1)] ?_
  refine T.ret ?_
  exact eRt 4 (.one (.own 1 kU8.sz 0 ((rdR rest e 4 (limE most (rest.take 4))).take ((rdC rest e most : Nat) : Int).toNat).length)) [0, 1] (by have e1 : ((rdY rest e most).length : Nat) = ((rdR rest e 4 (limE most (rest.take 4))).take ((rdC rest e most : Nat) : Int).toNat).length := (by (rw [hy.1]; done)); have hE := congrArg (fun (q1 : Nat) => (ownV 1 kU8 0 q1 : AV)) e1; exact hE) ⟨⟨rfl, (by have e1 : (((rdR rest e 4 (limE most (rest.take 4))).drop ((rdC rest e most : Nat) : Int).toNat) : List UInt8) = (rdYR rest e most) := (by (rw [hy.2.1]; done)); have e2 : (0 : Int) = (rdYE rest e most) := (by (rw [hy.2.2]; done)); have hE := congr (congrArg (fun (q1 : List UInt8) (q2 : Int) => (.live (.box 160 [dU q1, dI q2]) : HS)) e1) e2; exact Eq.trans (by kernel_rfl) hE)⟩, ⟨⟨rfl, (by have e1 : (((rdR rest e 4 (limE most (rest.take 4))).take ((rdC rest e most : Nat) : Int).toNat) : List UInt8) = (rdY rest e most) := (by (rw [hy.1]; done)); have hE := congrArg (fun (q1 : List UInt8) => (.live (arrK 5 kU8 q1) : HS)) e1; exact Eq.trans (by kernel_rfl) hE)⟩, trivial⟩⟩
 have hy := rdY_short hz hq2
 refine sR [hR 2 rfl rfl (rCa (take_any_no (rdR rest e 4 (limE most (rest.take 4))) (rdE rest e 4 (limE most (rest.take 4))) ((rdC rest e most : Nat) : Int) (by omega) (by omega) ‹_›) Tryz.func114 [0] [(.tmp 22, pv 0 0), (.tmp 23, vI ((rdC rest e most : Nat) : Int)), (.func 115, dv (.func (.func 115) #[] #[]))] 1 1)] ?_
 refine T.seq ?_
 refine sR [] ?_
 by_cases hq3 : (rdE (rdR rest e 4 (limE most (rest.take 4))) (rdE rest e 4 (limE most (rest.take 4))) ((rdC rest e most : Nat) : Int) 0) ≠ 0
 ·refine cT (dT hq3) ?_
  refine xK [] ?_
  refine nT ?_
  refine sR [hR 1 rfl rfl (rCn (clone_u8 false false ([] : List UInt8) (by (simp [maxLen, -List.getD_eq_getElem?_getD] <;> omega))) Tryz.func69 [1] [(.tmp 34, dv (.slice none 0 0))] 0 1 ⟨.inr (.inr ⟨rfl, rfl, rfl⟩), trivial⟩ trivial)] ?_
  refine T.ret ?_
  exact eRt 4 (.one (.own 1 kU8.sz 0 ([] : List UInt8).length)) [0, 1] (by have e1 : ((rdY rest e most).length : Nat) = ([] : List UInt8).length := (by (rw [hy.1]; done)); have hE := congrArg (fun (q1 : Nat) => (ownV 1 kU8 0 q1 : AV)) e1; exact hE) ⟨⟨rfl, (by have e1 : (rest : List UInt8) = (rdYR rest e most) := (by (rw [hy.2.1]; done)); have e2 : ((rdE (rdR rest e 4 (limE most (rest.take 4))) (rdE rest e 4 (limE most (rest.take 4))) ((rdC rest e most : Nat) : Int) 0) : Int) = (rdYE rest e most) := (by (rw [hy.2.2]; done)); have hE := congr (congrArg (fun (q1 : List UInt8) (q2 : Int) => (.live (.box 160 [dU q1, dI q2]) : HS)) e1) e2; exact Eq.trans (by kernel_rfl) hE)⟩, ⟨⟨rfl, (by have e1 : (([] : List UInt8) : List UInt8) = (rdY rest e most) := (by (rw [hy.1]; done)); have hE := congrArg (fun (q1 : List UInt8) => (.live (arrK 5 kU8 q1) : HS)) e1; exact Eq.trans (by kernel_rfl) hE)⟩, trivial⟩⟩
 exact absurd (rdE_no hq2) hq3
section
variable (B : List UInt8) (a : Nat) (m : Nat) (e : Int) (k : Nat)
abbrev Z17 : AV := vI ((m : Nat) : Int)
abbrev Z18 : List HS := [.live (.box 170 [dU B, dI ((a : Nat) : Int), dI e])]
abbrev Z19 : AV := vB (decide (((m : Nat) : Int) > (((B.length : Nat) : Int) - ((a : Nat) : Int))))
abbrev Z1a : List AV := [pv 0 0, (Z17 m), aa, aa, dv (.int .u64 0), vB false, dv (.int .u64 ((numL ((B.drop a).take k) : Nat) : Int)), vI ((k : Nat) : Int), aa, aa, aa, aa, aa, aa, aa, aa, aa, aa, aa, (Z19 B a m)]
abbrev Z1c : AV := vI ((k + 1 : Nat) : Int)
end
theorem ref01_number (B : List UInt8) (a : Nat) (e : Int) (m : Nat) (ha : a ≤ B.length) (hB : B.length ≤ 140737488350000) (hm : m ≤ 8) : Holds Tryz.prog 131 ⟨[pv 0 0, vI ((m : Nat) : Int)], [.box 170 [dU B, dI ((a : Nat) : Int), dI e]], .tup [.one (.d (.val (.int .u64 ((rfN B a m : Nat) : Int)))), .one (dB (decide (a + m ≤ B.length)))], [.live (.box 170 [dU B, dI ((a : Nat) : Int), dI e])]⟩ := by
 refine Holds.of Tryz.func131 rfl (N := 42) Tryz.ntmps131 rfl fun w0 B0 S0 U0 => ?_
 show T _ (mkBase 42 1 w0 S0 U0 B0) ⟨[pv 0 0, (Z17 m)], (Z18 B a e)⟩ _ _
 refine sR [] ?_
 refine T.seq ?_
 refine sD [[], [], [1], [1, 2], [1, 2, 3], [1, 2, 3, 4], [], [6], [6, 7], [6, 7, 8], [1, 2, 3, 4, 5, 6, 7, 8, 9], [0, 1, 2, 3, 4, 5, 6, 7, 8, 9, 10]] [hR 10 rfl rfl (r_bin (u1 := .int .i64 ((B.length : Nat) : Int)) (u2 := .int .i64 ((a : Nat) : Int)) (v := .int .i64 (((B.length : Nat) : Int) - ((a : Nat) : Int))) (b_sub (by rw [IntKind.wrap_i64]; omega)) (lt_of rfl) trivial)] ?_
 by_cases hq1 : ((m : Nat) : Int) > (((B.length : Nat) : Int) - ((a : Nat) : Int))
 ·refine cT (dT hq1) ?_
  refine sR [] ?_
  refine T.ret (rT ?_)
  exact eX [.t 4 (.one (.d (.val (.int .u64 0)))), .t 5 (.one (dB false))] ⟨⟨rfl, by kernel_rfl⟩, ⟨⟨rfl, by kernel_rfl⟩, trivial⟩⟩ [0] (by have e1 : (((rfN B a m : Nat) : Int) : Int) = 0 := (by (simp only [rfN]; rw [if_neg (by omega)]; rfl)); have e2 : ((decide (a + m ≤ B.length)) : Bool) = false := (by exact dF (by omega)); have hE := congr (congrArg (fun (q1 : Int) (q2 : Bool) => (.tup [.one (.d (.val (.int .u64 q1))), .one (dB q2)] : AV)) e1) e2; exact hE) (ix trivial)
 refine cF (dF hq1) ?_
 refine T.skip (nT ?_)
 refine sR [] ?_
 refine T.seq ?_
 refine sR [] ?_
 refine T.block ?_
 refine T.loop (ι := Nat) (fun (k : Nat) => ⟨(Z1a B a m k), (Z18 B a e)⟩) (fun (k : Nat) => (k ≤ m)) (fun (k : Nat) => m - k) (0) (Nat.zero_le _) (fun _ _ hG => Gs.iI [0] (bm 20 524531) (t2 := [pv 0 0, (Z17 m), aa, aa, dv (.int .u64 0), vB false, dv (.int .u64 0), vI 0, aa, aa, aa, aa, aa, aa, aa, aa, aa, aa, aa, (Z19 B a m)]) (congrArg (fun (q1 : Int) => ([pv 0 0, (Z17 m), aa, aa, dv (.int .u64 0), vB false, dv (.int .u64 q1), vI 0, aa, aa, aa, aa, aa, aa, aa, aa, aa, aa, aa, (Z19 B a m)] : List AV)) (by rfl)) rfl hG) ?_
 rintro k hk
 show T _ _ ⟨(Z1a B a m k), (Z18 B a e)⟩ _ _
 replace hk : k ≤ m := hk
 have hk8 : numL ((B.drop a).take k) < 18446744073709551616 := numL_lt8 (Nat.le_trans (List.length_take_le _ _) (by omega))
 refine T.seq ?_
 refine sR [] ?_
 by_cases hq2 : ((k : Nat) : Int) < ((m : Nat) : Int)
 ·have hk7 : numL ((B.drop a).take k) < 72057594037927936 := numL_lt7 (Nat.le_trans (List.length_take_le _ _) (by omega)); have hbt := UInt8.toNat_lt (B.getD (a + k) 0)
  refine cT (dT hq2) ?_
  refine T.skip (nT (T.seq ?_))
  refine T.block ?_
  refine xD [[], [0], [], [2], [2, 3], [2, 3, 4], [], [6], [6, 7], [6, 7, 8], [], [6, 7, 8, 9, 10], [2, 3, 4, 5, 6, 7, 8, 9, 10, 11], [2, 3, 4, 5, 6, 7, 8, 9, 10, 11, 12], [2, 3, 4, 5, 6, 7, 8, 9, 10, 11, 12, 13], [0, 1, 2, 3, 4, 5, 6, 7, 8, 9, 10, 11, 12, 13, 14], [0, 1, 2, 3, 4, 5, 6, 7, 8, 9, 10, 11, 12, 13, 14, 15]] [hR 1 rfl rfl (r_bin (u1 := .int .u64 ((numL ((B.drop a).take k) : Nat) : Int)) (u2 := .int .u64 8) (v := .int .u64 (((numL ((B.drop a).take k)) * 2 ^ 8 : Nat) : Int)) (b_shlN (n := 8) rfl (Nat.le_trans (by omega) (by decide : 64 ≤ _)) (by (rw [IntKind.wrap_u64]; omega))) (lt_of rfl) ⟨rfl, trivial⟩),
    hR 11 rfl rfl (r_bin (u1 := .int .i64 ((a : Nat) : Int)) (u2 := .int .i64 ((k : Nat) : Int)) (v := .int .i64 ((a + k : Nat) : Int)) (b_add (by rw [IntKind.wrap_i64]; omega)) (lt_of rfl) trivial),
    hR 12 rfl rfl (q_index false false kU8 B (a + k) (k := .i64) (i := ((a + k : Nat) : Int)) Tryz.underlying33 iat_5 rfl rfl (by omega) (lt_of rfl) trivial),
    hR 14 rfl rfl (r_conv (u := .int .u8 (((B.getD (a + k) 0).toNat : Nat) : Int)) (v := .int .u64 (((B.getD (a + k) 0).toNat : Nat) : Int)) (c_int Tryz.underlying5 Tryz.underlying120 (by (rw [IntKind.wrap_u64]; omega))) (lt_of rfl) trivial),
    hR 15 rfl rfl (r_bin (u1 := .int .u64 (((numL ((B.drop a).take k)) * 2 ^ 8 : Nat) : Int)) (u2 := .int .u64 (((B.getD (a + k) 0).toNat : Nat) : Int)) (v := .int .u64 ((((numL ((B.drop a).take k)) * 2 ^ 8) ||| (B.getD (a + k) 0).toNat : Nat) : Int)) (b_orU (by omega) (by omega)) (lt_of rfl) trivial)] (by kernel_rfl) (by kernel_rfl) (by kernel_rfl) (by kernel_rfl) (by kernel_rfl) (by kernel_rfl) ?_
  refine nB ?_
  refine nT ?_
  refine xK [hR 1 rfl rfl (r_bin (u1 := .int .i64 ((k : Nat) : Int)) (u2 := .int .i64 1) (v := .int .i64 ((k + 1 : Nat) : Int)) (b_add (by rw [IntKind.wrap_i64]; omega)) (lt_of rfl) ⟨rfl, trivial⟩)] ?_
  refine nL (k + 1) (show (k + 1) ≤ m from (by omega)) (show (m - (k + 1) : Nat) < m - k from (by omega)) (fun _ _ hG => Gs.iI [0] (bm 20 524531) (t2 := [pv 0 0, (Z17 m), aa, aa, dv (.int .u64 0), vB false, dv (.int .u64 ((((numL ((B.drop a).take k)) * 2 ^ 8) ||| (B.getD (a + k) 0).toNat : Nat) : Int)), (Z1c k), aa, aa, aa, aa, aa, aa, aa, aa, aa, aa, aa, (Z19 B a m)]) (by have e1 : (((numL ((B.drop a).take (k + 1)) : Nat) : Int) : Int) = ((((numL ((B.drop a).take k)) * 2 ^ 8) ||| (B.getD (a + k) 0).toNat : Nat) : Int) := (by (rw [numL_dropk (by omega)])); have hE := congrArg (fun (q1 : Int) => ([pv 0 0, (Z17 m), aa, aa, dv (.int .u64 0), vB false, dv (.int .u64 q1), (Z1c k), aa, aa, aa, aa, aa, aa, aa, aa, aa, aa, aa, (Z19 B a m)] : List AV)) e1; exact hE) rfl hG)
 refine cF (dF hq2) ?_
 refine T.exit ?_
 refine xT ?_
 refine xT ?_
 refine xH ?_
 refine nT ?_
 refine sR [] ?_
 refine T.ret ?_
 exact eX [.t 4 (.one (.d (.val (.int .u64 ((numL ((B.drop a).take k) : Nat) : Int))))), .t 5 (.one (dB true))] ⟨⟨rfl, by kernel_rfl⟩, ⟨⟨rfl, by kernel_rfl⟩, trivial⟩⟩ [0] (by have e1 : (((rfN B a m : Nat) : Int) : Int) = ((numL ((B.drop a).take k) : Nat) : Int) := (by (have hke : k = m := (by omega); subst hke; rw [rfN_ok (by omega)])); have e2 : ((decide (a + m ≤ B.length)) : Bool) = true := (by exact dT (by omega)); have hE := congr (congrArg (fun (q1 : Int) (q2 : Bool) => (.tup [.one (.d (.val (.int .u64 q1))), .one (dB q2)] : AV)) e1) e2; exact hE) (ix trivial)
theorem ref01_rInt (B : List UInt8) (a : Nat) (e : Int) (ha : a ≤ B.length) (hB : B.length ≤ 140737488350000) : Holds Tryz.prog 123 ⟨[pv 0 0], [.box 170 [dU B, dI ((a : Nat) : Int), dI e]], vI (rdI (B.drop a) e), [.live (.box 170 [dU B, dI ((rfA B a e 8 0 : Nat) : Int), dI (rdE (B.drop a) e 8 0)])]⟩ := by
 refine Holds.of Tryz.func123 rfl (N := 29) Tryz.ntmps123 rfl fun w0 B0 S0 U0 => ?_
 show T _ (mkBase 29 1 w0 S0 U0 B0) ⟨[pv 0 0], [.live (.box 170 [dU B, dI ((a : Nat) : Int), dI e])]⟩ _ _
 have hn8 := rfN_lt B a (m := 8) (by decide)
 refine sR [] ?_
 refine T.seq ?_
 refine sR [] ?_
 by_cases hq1 : e ≠ 0
 ·have hr := rf_e (B := B) (a := a) hq1 8 0
  refine cT (dT hq1) ?_
  refine sR [] ?_
  refine T.ret (rT ?_)
  exact eRt 2 (.one (dI 0)) [0] (by have e1 : (rdI (B.drop a) e : Int) = 0 := (by (simp only [rdI]; (rw [if_neg hr.1]; done))); have hE := cI e1; exact hE) ⟨⟨rfl, (by have e1 : (((a : Nat) : Int) : Int) = ((rfA B a e 8 0 : Nat) : Int) := (by (rw [rfA_no hr.1])); have e2 : (e : Int) = (rdE (B.drop a) e 8 0) := (by exact hr.2.symm); have hE := congr (congrArg (fun (q1 : Int) (q2 : Int) => (.live (.box 170 [dU B, dI q1, dI q2]) : HS)) e1) e2; exact Eq.trans (by kernel_rfl) hE)⟩, trivial⟩
 refine cF (dF hq1) ?_
 refine T.skip (nT ?_)
 refine sR [hR 1 rfl rfl (rCa (ref01_number B a e 8 ‹_› ‹_› (by omega)) Tryz.func131 [0] [(.tmp 11, pv 0 0), (.const (.int .i64 8), vI 8)] 1 1)] ?_
 refine T.seq ?_
 refine sR [] ?_
 by_cases hq2 : a + 8 ≤ B.length
 ·have hr := rf_ok (n := 8) (k := 8) (m := 0) rfl ‹_› hq2 rfl
  refine cF (cn (dT hq2)) ?_
  refine T.skip (nT ?_)
  refine sR [hR 4 rfl rfl (r_bin (u1 := .int .i64 ((a : Nat) : Int)) (u2 := .int .i64 8) (v := .int .i64 ((a + 8 : Nat) : Int)) (b_add (by rw [IntKind.wrap_i64]; omega)) (lt_of rfl) ⟨rfl, trivial⟩)] ?_
  refine sR [hR 1 rfl rfl (r_conv (u := .int .u64 ((rfN B a 8 : Nat) : Int)) (v := .int .i64 (toI64 (rfN B a 8))) (c_i64 ‹_› Tryz.underlying120 Tryz.underlying2) (lt_of rfl) trivial)] ?_
  refine T.ret ?_
  exact eRt 2 (.one (dI (toI64 (rfN B a 8)))) [0] (by have e1 : (rdI (B.drop a) e : Int) = toI64 (rfN B a 8) := (by (simp only [rdI]; (rw [if_pos hr.1, ← rfN_ok ‹_›]; done))); have hE := cI e1; exact hE) ⟨⟨rfl, (by have e1 : (((a + 8 : Nat) : Int) : Int) = ((rfA B a e 8 0 : Nat) : Int) := (by (rw [rfA_ok hr.1]; rfl)); have e2 : (e : Int) = (rdE (B.drop a) e 8 0) := (by (rw [hr.2]; omega)); have hE := congr (congrArg (fun (q1 : Int) (q2 : Int) => (.live (.box 170 [dU B, dI q1, dI q2]) : HS)) e1) e2; exact Eq.trans (by kernel_rfl) hE)⟩, trivial⟩
 have hr := rf_short (n := 8) (k := 8) rfl ‹_› hq2 ha 0
 refine cT (cn (dF hq2)) ?_
 refine sR [] ?_
 refine sR [] ?_
 refine T.ret (rT ?_)
 exact eRt 2 (.one (dI 0)) [0] (by have e1 : (rdI (B.drop a) e : Int) = 0 := (by (simp only [rdI]; (rw [if_neg hr.1]; done))); have hE := cI e1; exact hE) ⟨⟨rfl, (by have e1 : (((a : Nat) : Int) : Int) = ((rfA B a e 8 0 : Nat) : Int) := (by (rw [rfA_no hr.1])); have e2 : (10 : Int) = (rdE (B.drop a) e 8 0) := (by exact hr.2.symm); have hE := congr (congrArg (fun (q1 : Int) (q2 : Int) => (.live (.box 170 [dU B, dI q1, dI q2]) : HS)) e1) e2; exact Eq.trans (by kernel_rfl) hE)⟩, trivial⟩
end Go.Proofs.YtalapplihdmenaaGreat.Q
