import Derived.Test.YtcpdbbabbnbghaaM09L
namespace Go.Proofs.Ytcpdbbabbnbghaa.Q
open Go Go.RowKit
set_option linter.unusedVariables false
set_option linter.unusedSimpArgs false
set_option maxRecDepth 100000
set_option maxHeartbeats 4000000
-- quaestor/quaestorref01.Same
theorem ref01_Same (ta : Bool) (na : Bool) (tb : Bool) (nb : Bool) (a : List UInt8) (b : List UInt8) : Holds Try.prog 20 ⟨[slV ta na kU8 a, slV tb nb kU8 b], [], dv (.bool (decide (a = b))), []⟩ := by
  refine Holds.of Try.func20 rfl (N := 10) Try.ntmps20 rfl fun w0 B0 S0 U0 => ?_
  show T _ (mkBase 10 0 w0 S0 U0 B0) ⟨[slV ta na kU8 a, slV tb nb kU8 b], []⟩ _ _
  refine T.seq ?_
  refine tR (s1 := ⟨[slV ta na kU8 a, slV tb nb kU8 b, AV.any, AV.any, dv (.bool false)], []⟩) [true, true, false, false, true] []
    (oC (oS rfl rfl (r_assign (av := dv (.bool false)) (lt_of rfl) ⟨rfl, trivial⟩)) (oZ rfl))
    (by kernel_rfl) (by kernel_rfl) ?_
  refine nT ?_
  refine T.seq ?_
  refine tR (s1 := ⟨[slV ta na kU8 a, slV tb nb kU8 b, AV.any, AV.any, dv (.bool (decide (a = b)))], []⟩) [true, true, false, false, true] []
    (oC (oS rfl rfl (r_move (av := slV ta na kU8 a) (lt_of rfl) trivial))
    (oC (oS rfl rfl (q_strOf () a (ys := (.d (dsl ta na kU8 a))) (rhs := []) Try.underlying33 Try.underlying5 Try.underlying9 (src_sl ta na kU8 a) (lt_of rfl) trivial))
    (oC (oS rfl rfl (r_move (av := slV tb nb kU8 b) (lt_of rfl) trivial))
    (oC (oS rfl rfl (q_strOf () b (ys := (.d (dsl tb nb kU8 b))) (rhs := []) Try.underlying33 Try.underlying5 Try.underlying9 (src_sl tb nb kU8 b) (lt_of rfl) trivial))
    (oC (oS rfl rfl (r_bin (u1 := strV a) (u2 := strV b) (v := .bool (decide (a = b))) b_eqlS (lt_of rfl) trivial))
    (oC (oS rfl rfl (r_assign (av := dv (.bool (decide (a = b)))) (lt_of rfl) trivial)) (oZ rfl)))))))
    (by kernel_rfl) (by kernel_rfl) ?_
  refine nT ?_
  refine T.ret ?_
  exact tE (.inl rfl) [.t 4 (.one (.d (.val (.bool (decide (a = b))))))] ⟨⟨rfl, rfl⟩, trivial⟩ [] rfl rfl rfl rfl rfl rfl trivial

theorem iat_5 : Try.prog.info? 5 = some Try.t5 := by kernel_rfl
-- slices.Clip[[]byte,byte]
theorem clip_u8 (tb : Bool) (nb : Bool) (b : List UInt8) : Holds Try.prog 43 ⟨[slV tb nb kU8 b], [], clV tb nb kU8 b, []⟩ := by
  refine Holds.of Try.func43 rfl (N := 9) Try.ntmps43 rfl fun w0 B0 S0 U0 => ?_
  show T _ (mkBase 9 0 w0 S0 U0 B0) ⟨[slV tb nb kU8 b], []⟩ _ _
  refine T.seq ?_
  refine tR (s1 := ⟨[slV tb nb kU8 b, AV.any, dv (.slice none 0 0)], []⟩) [true, false, true] []
    (oC (oS rfl rfl (r_assign (av := dv (.slice none 0 0)) (lt_of rfl) ⟨rfl, trivial⟩)) (oZ rfl))
    (by kernel_rfl) (by kernel_rfl) ?_
  refine nT ?_
  refine T.seq ?_
  refine tR (s1 := ⟨[slV tb nb kU8 b, AV.any, clV tb nb kU8 b], []⟩) [true, false, true] []
    (oC (oS rfl rfl (r_move (av := slV tb nb kU8 b) (lt_of rfl) trivial))
    (oC (oS rfl rfl (r_move (av := slV tb nb kU8 b) (lt_of rfl) trivial))
    (oC (oS rfl rfl (q_len tb nb kU8 b Try.underlying33 (lt_of rfl) trivial))
    (oC (oS rfl rfl (r_move (av := slV tb nb kU8 b) (lt_of rfl) trivial))
    (oC (oS rfl rfl (q_len tb nb kU8 b Try.underlying33 (lt_of rfl) trivial))
    (oC (oS rfl rfl (q_clip tb nb kU8 b (p := ((b.length : Nat) : Int)) (q := ((b.length : Nat) : Int)) Try.underlying33 iat_5 rfl (by first | assumption | omega | (simp only [maxLen, kU8_sz, kSl_sz, k_api_Step_sz, k_quaestorlaw09_Claim_sz]; omega) | (simp only [maxLen, kU8_sz, kSl_sz, k_api_Step_sz, k_quaestorlaw09_Claim_sz, List.length_append, List.length_cons, List.length_nil, List.length_take, List.length_drop, List.length_set]; omega) | decide) (by first | assumption | omega | (simp only [maxLen, kU8_sz, kSl_sz, k_api_Step_sz, k_quaestorlaw09_Claim_sz]; omega) | (simp only [maxLen, kU8_sz, kSl_sz, k_api_Step_sz, k_quaestorlaw09_Claim_sz, List.length_append, List.length_cons, List.length_nil, List.length_take, List.length_drop, List.length_set]; omega) | decide) (lt_of rfl) trivial))
    (oC (oS rfl rfl (r_assign (av := clV tb nb kU8 b) (lt_of rfl) trivial)) (oZ rfl))))))))
    (by kernel_rfl) (by kernel_rfl) ?_
  refine nT ?_
  refine T.ret ?_
  exact tE (.inl rfl) [.t 2 (.one (.cl tb nb kU8.sz b.length (elOf kU8 b)))] ⟨⟨rfl, rfl⟩, trivial⟩ [] rfl rfl rfl rfl rfl rfl trivial

theorem zero_5 : Zero Try.prog 5 [.int .u8 0] := ⟨_, _, iat_5, rfl, rfl⟩
theorem elem_33 : Elem Try.prog 33 5 1 1 := ⟨Try.underlying33, _, _, iat_5, rfl, rfl, rfl, rfl, by decide⟩
-- quaestor/wire.spell
theorem wire_spell (tb : Bool) (nb : Bool) (b : List UInt8) (n : Nat) (m : Nat) (hb : b.length ≤ 140737488355000) (hn : n < 18446744073709551616) (hm : m ≤ 7) : Holds Try.prog 39 ⟨[slV tb nb kU8 b, dv (.int .u64 ((n : Nat) : Int)), dv (.int .i64 ((m + 1 : Nat) : Int))], [], ownV 0 kU8 0 (b ++ (spellB n (m + 1))).length, [.live (arrK 5 kU8 (b ++ (spellB n (m + 1))))]⟩ := by
  refine Holds.of Try.func39 rfl (N := 22) Try.ntmps39 rfl fun w0 B0 S0 U0 => ?_
  show T _ (mkBase 22 0 w0 S0 U0 B0) ⟨[slV tb nb kU8 b, dv (.int .u64 ((n : Nat) : Int)), dv (.int .i64 ((m + 1 : Nat) : Int))], []⟩ _ _
  refine T.seq ?_
  refine tR (s1 := ⟨[slV tb nb kU8 b, dv (.int .u64 ((n : Nat) : Int)), dv (.int .i64 ((m + 1 : Nat) : Int)), AV.any, AV.any, AV.any, dv (.slice none 0 0)], []⟩) [true, true, true, false, false, false, true] []
    (oC (oS rfl rfl (r_assign (av := dv (.slice none 0 0)) (lt_of rfl) ⟨rfl, trivial⟩)) (oZ rfl))
    (by kernel_rfl) (by kernel_rfl) ?_
  refine nT ?_
  refine T.seq ?_
  refine tR (s1 := ⟨[clV tb nb kU8 b, dv (.int .u64 ((n : Nat) : Int)), dv (.int .i64 ((m + 1 : Nat) : Int)), AV.any, AV.any, AV.any, dv (.slice none 0 0)], []⟩) [true, true, true, false, false, false, true] []
    (oC (oS rfl rfl (r_move (av := slV tb nb kU8 b) (lt_of rfl) trivial))
    (oC (oS rfl rfl (r_call (clip_u8 tb nb b ) Try.func43 rfl (by decide) [] [] (l := [(.tmp 7, slV tb nb kU8 b)]) [] rfl 0 0 rfl rfl rfl rfl rfl rfl rfl rfl rfl ⟨.inl ⟨rfl, rfl⟩, trivial⟩ rfl (fun b hb => by cases hb) (.inl rfl) (lt_of rfl) trivial))
    (oC (oS rfl rfl (r_assign (av := clV tb nb kU8 b) (lt_of rfl) trivial)) (oZ rfl))))
    (by kernel_rfl) (by kernel_rfl) ?_
  refine nT ?_
  refine T.seq ?_
  refine T.block ?_
  refine T.ofTL ?_
  refine TL.peel ?_
  refine T.seq ?_
  refine T.seq ?_
  refine tR (s1 := ⟨[clV tb nb kU8 b, dv (.int .u64 ((n : Nat) : Int)), dv (.int .i64 ((m + 1 : Nat) : Int)), AV.any, AV.any, AV.any, dv (.slice none 0 0), AV.any, AV.any, AV.any, dv (.bool (decide (((m + 1 : Nat) : Int) > 0)))], []⟩) [true, true, true, false, false, false, true, false, false, false, true] []
    (oC (oS rfl rfl (r_move (av := dv (.int .i64 ((m + 1 : Nat) : Int))) (lt_of rfl) trivial))
    (oC (oS rfl rfl (r_bin (u1 := .int .i64 ((m + 1 : Nat) : Int)) (u2 := .int .i64 0) (v := .bool (decide (((m + 1 : Nat) : Int) > 0))) b_gtr (lt_of rfl) ⟨rfl, trivial⟩)) (oZ rfl)))
    (by kernel_rfl) (by kernel_rfl) ?_
  refine nT ?_
  by_cases hq1 : ((m + 1 : Nat) : Int) > 0
  · refine T.condT (b := (decide (((m + 1 : Nat) : Int) > 0))) rfl (decide_eq_true hq1) ?_
    refine T.skip ?_
    refine nT ?_
    refine T.block ?_
    refine T.seq ?_
    refine tR (s1 := ⟨[clV tb nb kU8 b, dv (.int .u64 ((n : Nat) : Int)), dv (.int .i64 ((m : Nat) : Int)), AV.any, AV.any, AV.any, dv (.slice none 0 0), AV.any, AV.any, AV.any, dv (.bool (decide (((m + 1 : Nat) : Int) > 0)))], []⟩) [true, true, true, false, false, false, true, false, false, false, true] []
      (oC (oS rfl rfl (r_move (av := dv (.int .i64 ((m + 1 : Nat) : Int))) (lt_of rfl) trivial))
      (oC (oS rfl rfl (r_bin (u1 := .int .i64 ((m + 1 : Nat) : Int)) (u2 := .int .i64 1) (v := .int .i64 ((m : Nat) : Int)) (b_sub (by rw [IntKind.wrap_i64]; omega)) (lt_of rfl) ⟨rfl, trivial⟩))
      (oC (oS rfl rfl (r_assign (av := dv (.int .i64 ((m : Nat) : Int))) (lt_of rfl) trivial)) (oZ rfl))))
      (by kernel_rfl) (by kernel_rfl) ?_
    refine nT ?_
    refine tR (s1 := ⟨[ownV 1 kU8 0 (b ++ [(UInt8.ofNat (n / 2 ^ (8 * m)))]).length, dv (.int .u64 ((n : Nat) : Int)), dv (.int .i64 ((m : Nat) : Int)), AV.any, AV.any, AV.any, dv (.slice none 0 0), AV.any, AV.any, AV.any, dv (.bool (decide (((m + 1 : Nat) : Int) > 0)))], [.live (arrK 5 kU8 [(UInt8.ofNat (n / 2 ^ (8 * m)))]), .live (arrK 5 kU8 (b ++ [(UInt8.ofNat (n / 2 ^ (8 * m)))]))]⟩) [true, true, true, false, false, false, true, false, false, false, true] [true, true]
      (oC (oS rfl rfl (r_move (av := clV tb nb kU8 b) (lt_of rfl) trivial))
      (oC (oS rfl rfl (r_move (av := dv (.int .u64 ((n : Nat) : Int))) (lt_of rfl) trivial))
      (oC (oS rfl rfl (r_move (av := dv (.int .i64 ((m : Nat) : Int))) (lt_of rfl) trivial))
      (oC (oS rfl rfl (r_bin (u1 := .int .i64 8) (u2 := .int .i64 ((m : Nat) : Int)) (v := .int .i64 ((8 * m : Nat) : Int)) (b_mul (by rw [IntKind.wrap_i64]; omega)) (lt_of rfl) ⟨rfl, trivial⟩))
      (oC (oS rfl rfl (r_bin (u1 := .int .u64 ((n : Nat) : Int)) (u2 := .int .i64 ((8 * m : Nat) : Int)) (v := .int .u64 ((n / 2 ^ (8 * m) : Nat) : Int)) (b_shrN (n := 8 * m) rfl (Nat.le_trans (by first | assumption | omega | (simp only [maxLen, kU8_sz, kSl_sz, k_api_Step_sz, k_quaestorlaw09_Claim_sz]; omega) | (simp only [maxLen, kU8_sz, kSl_sz, k_api_Step_sz, k_quaestorlaw09_Claim_sz, List.length_append, List.length_cons, List.length_nil, List.length_take, List.length_drop, List.length_set]; omega) | decide) (by decide : 64 ≤ _))) (lt_of rfl) trivial))
      (oC (oS rfl rfl (r_conv (u := .int .u64 ((n / 2 ^ (8 * m) : Nat) : Int)) (v := .int .u8 (((UInt8.ofNat (n / 2 ^ (8 * m))).toNat : Nat) : Int)) (c_byte Try.underlying58 Try.underlying5) (lt_of rfl) trivial))
      (oC (oS rfl rfl (q_buildSlice 0 5 kU8 kU8_ok [(UInt8.ofNat (n / 2 ^ (8 * m)))] [⟨0, .tmp 18, .one (.d (.val (.int .u8 (((UInt8.ofNat (n / 2 ^ (8 * m))).toNat : Nat) : Int)))), 0⟩] (cs := [.d (.val (.int .u8 (((UInt8.ofNat (n / 2 ^ (8 * m))).toNat : Nat) : Int)))]) Try.underlying33 iat_5 rfl zero_5 rfl rfl rfl (Nat.le_of_ble_eq_true rfl) (part_cons rfl rfl (Nat.le_of_ble_eq_true rfl) part_ok) rfl ⟨(.inl rfl), trivial⟩ (lt_of rfl) trivial))
      (oC (oS rfl rfl (q_appendC 1 5 1 tb nb kU8 kU8_ok b [(UInt8.ofNat (n / 2 ^ (8 * m)))] (b ++ [(UInt8.ofNat (n / 2 ^ (8 * m)))]) (sy := (.own 0 kU8.sz 0 [(UInt8.ofNat (n / 2 ^ (8 * m)))].length)) (rhs := [(0, .live (arrK 5 kU8 [(UInt8.ofNat (n / 2 ^ (8 * m)))]))]) elem_33 (by first | assumption | omega | (simp only [maxLen, kU8_sz, kSl_sz, k_api_Step_sz, k_quaestorlaw09_Claim_sz]; omega) | (simp only [maxLen, kU8_sz, kSl_sz, k_api_Step_sz, k_quaestorlaw09_Claim_sz, List.length_append, List.length_cons, List.length_nil, List.length_take, List.length_drop, List.length_set]; omega) | decide) (src_own 0 5 kU8 [(UInt8.ofNat (n / 2 ^ (8 * m)))]) rfl (by first | assumption | omega | (simp only [maxLen, kU8_sz, kSl_sz, k_api_Step_sz, k_quaestorlaw09_Claim_sz]; omega) | (simp only [maxLen, kU8_sz, kSl_sz, k_api_Step_sz, k_quaestorlaw09_Claim_sz, List.length_append, List.length_cons, List.length_nil, List.length_take, List.length_drop, List.length_set]; omega) | decide) (by first | assumption | omega | (simp only [maxLen, kU8_sz, kSl_sz, k_api_Step_sz, k_quaestorlaw09_Claim_sz]; omega) | (simp only [maxLen, kU8_sz, kSl_sz, k_api_Step_sz, k_quaestorlaw09_Claim_sz, List.length_append, List.length_cons, List.length_nil, List.length_take, List.length_drop, List.length_set]; omega) | decide) (lt_of rfl) trivial))
      (oC (oS rfl rfl (r_assign (av := ownV 1 kU8 0 (b ++ [(UInt8.ofNat (n / 2 ^ (8 * m)))]).length) (lt_of rfl) trivial)) (oZ rfl))))))))))
      (by kernel_rfl) (by kernel_rfl) ?_
    refine nB ?_
    refine nP ?_
    refine TL.loop (ι := Nat × (List UInt8)) (fun (x_ : Nat × (List UInt8)) => ⟨[ownV 0 kU8 0 x_.2.length, dv (.int .u64 ((n : Nat) : Int)), dv (.int .i64 ((x_.1 : Nat) : Int))], [.live (arrK 5 kU8 x_.2)]⟩) (fun (x_ : Nat × (List UInt8)) => (x_.1 ≤ m) ∧ (x_.2 ++ spellB n x_.1 = b ++ spellB n (m + 1))) (fun (x_ : Nat × (List UInt8)) => x_.1) (m, b ++ [UInt8.ofNat (n / 2 ^ (8 * m))]) ⟨(Nat.le_refl _), (by rw [List.append_assoc]; rfl)⟩ (fun _ _ hG => Gs.into2 (s := ⟨[ownV 1 kU8 0 (b ++ [(UInt8.ofNat (n / 2 ^ (8 * m)))]).length, dv (.int .u64 ((n : Nat) : Int)), dv (.int .i64 ((m : Nat) : Int)), AV.any, AV.any, AV.any, dv (.slice none 0 0), AV.any, AV.any, AV.any, dv (.bool (decide (((m + 1 : Nat) : Int) > 0)))], [.live (arrK 5 kU8 [(UInt8.ofNat (n / 2 ^ (8 * m)))]), .live (arrK 5 kU8 (b ++ [(UInt8.ofNat (n / 2 ^ (8 * m)))]))]⟩) (s' := ⟨[ownV 0 kU8 0 (b ++ [UInt8.ofNat (n / 2 ^ (8 * m))]).length, dv (.int .u64 ((n : Nat) : Int)), dv (.int .i64 ((m : Nat) : Int))], [.live (arrK 5 kU8 (b ++ [UInt8.ofNat (n / 2 ^ (8 * m))]))]⟩) [1] [true, true, true] (t1 := [ownV 1 kU8 0 (b ++ [UInt8.ofNat (n / 2 ^ (8 * m))]).length, dv (.int .u64 ((n : Nat) : Int)), dv (.int .i64 ((m : Nat) : Int))]) (t2 := [ownV 1 kU8 0 (b ++ [(UInt8.ofNat (n / 2 ^ (8 * m)))]).length, dv (.int .u64 ((n : Nat) : Int)), dv (.int .i64 ((m : Nat) : Int))]) (h1 := [.live (arrK 5 kU8 (b ++ [UInt8.ofNat (n / 2 ^ (8 * m))]))]) (h2 := [.live (arrK 5 kU8 (b ++ [(UInt8.ofNat (n / 2 ^ (8 * m)))]))]) (by have e1 : ((b ++ [UInt8.ofNat (n / 2 ^ (8 * m))]).length : Nat) = (b ++ [(UInt8.ofNat (n / 2 ^ (8 * m)))]).length := (by rfl); have hE := congrArg (fun (q1 : Nat) => ([ownV 1 kU8 0 q1, dv (.int .u64 ((n : Nat) : Int)), dv (.int .i64 ((m : Nat) : Int))] : List AV)) e1; exact hE) (by have e1 : (b ++ [UInt8.ofNat (n / 2 ^ (8 * m))] : List UInt8) = b ++ [(UInt8.ofNat (n / 2 ^ (8 * m)))] := (by rfl); have hE := congrArg (fun (q1 : List UInt8) => ([.live (arrK 5 kU8 q1)] : List HS)) e1; exact hE) (by kernel_rfl) (by kernel_rfl) (by kernel_rfl) (by kernel_rfl) (by kernel_rfl) (by kernel_rfl) (by kernel_rfl) (by kernel_rfl) (by kernel_rfl) (by kernel_rfl) (by kernel_rfl) hG) ?_
    rintro ⟨j, acc⟩ ⟨hj, he⟩
    show T _ _ ⟨[ownV 0 kU8 0 acc.length, dv (.int .u64 ((n : Nat) : Int)), dv (.int .i64 ((j : Nat) : Int))], [.live (arrK 5 kU8 acc)]⟩ _ _
    replace hj : j ≤ m := hj
    replace he : acc ++ spellB n j = b ++ spellB n (m + 1) := he
    have hacc := spell_lenE he
    refine T.seq ?_
    refine T.seq ?_
    refine tR (s1 := ⟨[ownV 0 kU8 0 acc.length, dv (.int .u64 ((n : Nat) : Int)), dv (.int .i64 ((j : Nat) : Int)), AV.any, AV.any, AV.any, AV.any, AV.any, AV.any, AV.any, dv (.bool (decide (((j : Nat) : Int) > 0)))], [.live (arrK 5 kU8 acc)]⟩) [true, true, true, false, false, false, false, false, false, false, true] [true]
      (oC (oS rfl rfl (r_move (av := dv (.int .i64 ((j : Nat) : Int))) (lt_of rfl) trivial))
      (oC (oS rfl rfl (r_bin (u1 := .int .i64 ((j : Nat) : Int)) (u2 := .int .i64 0) (v := .bool (decide (((j : Nat) : Int) > 0))) b_gtr (lt_of rfl) ⟨rfl, trivial⟩)) (oZ rfl)))
      (by kernel_rfl) (by kernel_rfl) ?_
    refine nT ?_
    by_cases hq2 : ((j : Nat) : Int) > 0
    · refine T.condT (b := (decide (((j : Nat) : Int) > 0))) rfl (decide_eq_true hq2) ?_
      refine T.skip ?_
      refine nT ?_
      refine T.block ?_
      refine T.seq ?_
      refine tR (s1 := ⟨[ownV 0 kU8 0 acc.length, dv (.int .u64 ((n : Nat) : Int)), dv (.int .i64 ((j - 1 : Nat) : Int)), AV.any, AV.any, AV.any, AV.any, AV.any, AV.any, AV.any, dv (.bool (decide (((j : Nat) : Int) > 0)))], [.live (arrK 5 kU8 acc)]⟩) [true, true, true, false, false, false, false, false, false, false, true] [true]
        (oC (oS rfl rfl (r_move (av := dv (.int .i64 ((j : Nat) : Int))) (lt_of rfl) trivial))
        (oC (oS rfl rfl (r_bin (u1 := .int .i64 ((j : Nat) : Int)) (u2 := .int .i64 1) (v := .int .i64 ((j - 1 : Nat) : Int)) (b_sub (by rw [IntKind.wrap_i64]; omega)) (lt_of rfl) ⟨rfl, trivial⟩))
        (oC (oS rfl rfl (r_assign (av := dv (.int .i64 ((j - 1 : Nat) : Int))) (lt_of rfl) trivial)) (oZ rfl))))
        (by kernel_rfl) (by kernel_rfl) ?_
      refine nT ?_
      refine tR (s1 := ⟨[ownV 2 kU8 0 (acc ++ [(UInt8.ofNat (n / 2 ^ (8 * (j - 1))))]).length, dv (.int .u64 ((n : Nat) : Int)), dv (.int .i64 ((j - 1 : Nat) : Int)), AV.any, AV.any, AV.any, AV.any, AV.any, AV.any, AV.any, dv (.bool (decide (((j : Nat) : Int) > 0)))], [.dead, .live (arrK 5 kU8 [(UInt8.ofNat (n / 2 ^ (8 * (j - 1))))]), .live (arrK 5 kU8 (acc ++ [(UInt8.ofNat (n / 2 ^ (8 * (j - 1))))]))]⟩) [true, true, true, false, false, false, false, false, false, false, true] [true, true, true]
        (oC (oS rfl rfl (r_move (av := ownV 0 kU8 0 acc.length) (lt_of rfl) trivial))
        (oC (oS rfl rfl (r_move (av := dv (.int .u64 ((n : Nat) : Int))) (lt_of rfl) trivial))
        (oC (oS rfl rfl (r_move (av := dv (.int .i64 ((j - 1 : Nat) : Int))) (lt_of rfl) trivial))
        (oC (oS rfl rfl (r_bin (u1 := .int .i64 8) (u2 := .int .i64 ((j - 1 : Nat) : Int)) (v := .int .i64 ((8 * (j - 1) : Nat) : Int)) (b_mul (by rw [IntKind.wrap_i64]; omega)) (lt_of rfl) ⟨rfl, trivial⟩))
        (oC (oS rfl rfl (r_bin (u1 := .int .u64 ((n : Nat) : Int)) (u2 := .int .i64 ((8 * (j - 1) : Nat) : Int)) (v := .int .u64 ((n / 2 ^ (8 * (j - 1)) : Nat) : Int)) (b_shrN (n := 8 * (j - 1)) rfl (Nat.le_trans (by first | assumption | omega | (simp only [maxLen, kU8_sz, kSl_sz, k_api_Step_sz, k_quaestorlaw09_Claim_sz]; omega) | (simp only [maxLen, kU8_sz, kSl_sz, k_api_Step_sz, k_quaestorlaw09_Claim_sz, List.length_append, List.length_cons, List.length_nil, List.length_take, List.length_drop, List.length_set]; omega) | decide) (by decide : 64 ≤ _))) (lt_of rfl) trivial))
        (oC (oS rfl rfl (r_conv (u := .int .u64 ((n / 2 ^ (8 * (j - 1)) : Nat) : Int)) (v := .int .u8 (((UInt8.ofNat (n / 2 ^ (8 * (j - 1)))).toNat : Nat) : Int)) (c_byte Try.underlying58 Try.underlying5) (lt_of rfl) trivial))
        (oC (oS rfl rfl (q_buildSlice 1 5 kU8 kU8_ok [(UInt8.ofNat (n / 2 ^ (8 * (j - 1))))] [⟨0, .tmp 18, .one (.d (.val (.int .u8 (((UInt8.ofNat (n / 2 ^ (8 * (j - 1)))).toNat : Nat) : Int)))), 0⟩] (cs := [.d (.val (.int .u8 (((UInt8.ofNat (n / 2 ^ (8 * (j - 1)))).toNat : Nat) : Int)))]) Try.underlying33 iat_5 rfl zero_5 rfl rfl rfl (Nat.le_of_ble_eq_true rfl) (part_cons rfl rfl (Nat.le_of_ble_eq_true rfl) part_ok) rfl ⟨(.inl rfl), trivial⟩ (lt_of rfl) trivial))
        (oC (oS rfl rfl (q_appendO 0 2 5 1 kU8 kU8_ok acc [(UInt8.ofNat (n / 2 ^ (8 * (j - 1))))] (acc ++ [(UInt8.ofNat (n / 2 ^ (8 * (j - 1))))]) acc.length (sy := (.own 1 kU8.sz 0 [(UInt8.ofNat (n / 2 ^ (8 * (j - 1))))].length)) (rhs := [(1, .live (arrK 5 kU8 [(UInt8.ofNat (n / 2 ^ (8 * (j - 1))))]))]) elem_33 (by first | assumption | omega | (simp only [maxLen, kU8_sz, kSl_sz, k_api_Step_sz, k_quaestorlaw09_Claim_sz]; omega) | (simp only [maxLen, kU8_sz, kSl_sz, k_api_Step_sz, k_quaestorlaw09_Claim_sz, List.length_append, List.length_cons, List.length_nil, List.length_take, List.length_drop, List.length_set]; omega) | decide) (src_own 1 5 kU8 [(UInt8.ofNat (n / 2 ^ (8 * (j - 1))))]) (by rw [List.take_length]) (by first | assumption | omega | (simp only [maxLen, kU8_sz, kSl_sz, k_api_Step_sz, k_quaestorlaw09_Claim_sz]; omega) | (simp only [maxLen, kU8_sz, kSl_sz, k_api_Step_sz, k_quaestorlaw09_Claim_sz, List.length_append, List.length_cons, List.length_nil, List.length_take, List.length_drop, List.length_set]; omega) | decide) (by first | assumption | omega | (simp only [maxLen, kU8_sz, kSl_sz, k_api_Step_sz, k_quaestorlaw09_Claim_sz]; omega) | (simp only [maxLen, kU8_sz, kSl_sz, k_api_Step_sz, k_quaestorlaw09_Claim_sz, List.length_append, List.length_cons, List.length_nil, List.length_take, List.length_drop, List.length_set]; omega) | decide) (lt_of rfl) trivial))
        (oC (oS rfl rfl (r_assign (av := ownV 2 kU8 0 (acc ++ [(UInt8.ofNat (n / 2 ^ (8 * (j - 1))))]).length) (lt_of rfl) trivial)) (oZ rfl))))))))))
        (by kernel_rfl) (by kernel_rfl) ?_
      refine nB ?_
      refine nL (j - 1, acc ++ [UInt8.ofNat (n / 2 ^ (8 * (j - 1)))]) ⟨(show (j - 1) ≤ m from (by omega)), (show (acc ++ [UInt8.ofNat (n / 2 ^ (8 * (j - 1)))]) ++ spellB n (j - 1) = b ++ spellB n (m + 1) from (spell_step he (by omega)))⟩ (show ((j - 1) : Nat) < j from (by omega)) (fun _ _ hG => Gs.into2 (s := ⟨[ownV 2 kU8 0 (acc ++ [(UInt8.ofNat (n / 2 ^ (8 * (j - 1))))]).length, dv (.int .u64 ((n : Nat) : Int)), dv (.int .i64 ((j - 1 : Nat) : Int)), AV.any, AV.any, AV.any, AV.any, AV.any, AV.any, AV.any, dv (.bool (decide (((j : Nat) : Int) > 0)))], [.dead, .live (arrK 5 kU8 [(UInt8.ofNat (n / 2 ^ (8 * (j - 1))))]), .live (arrK 5 kU8 (acc ++ [(UInt8.ofNat (n / 2 ^ (8 * (j - 1))))]))]⟩) (s' := ⟨[ownV 0 kU8 0 (acc ++ [UInt8.ofNat (n / 2 ^ (8 * (j - 1)))]).length, dv (.int .u64 ((n : Nat) : Int)), dv (.int .i64 ((j - 1 : Nat) : Int))], [.live (arrK 5 kU8 (acc ++ [UInt8.ofNat (n / 2 ^ (8 * (j - 1)))]))]⟩) [2] [true, true, true] (t1 := [ownV 2 kU8 0 (acc ++ [UInt8.ofNat (n / 2 ^ (8 * (j - 1)))]).length, dv (.int .u64 ((n : Nat) : Int)), dv (.int .i64 ((j - 1 : Nat) : Int))]) (t2 := [ownV 2 kU8 0 (acc ++ [(UInt8.ofNat (n / 2 ^ (8 * (j - 1))))]).length, dv (.int .u64 ((n : Nat) : Int)), dv (.int .i64 ((j - 1 : Nat) : Int))]) (h1 := [.live (arrK 5 kU8 (acc ++ [UInt8.ofNat (n / 2 ^ (8 * (j - 1)))]))]) (h2 := [.live (arrK 5 kU8 (acc ++ [(UInt8.ofNat (n / 2 ^ (8 * (j - 1))))]))]) (by have e1 : ((acc ++ [UInt8.ofNat (n / 2 ^ (8 * (j - 1)))]).length : Nat) = (acc ++ [(UInt8.ofNat (n / 2 ^ (8 * (j - 1))))]).length := (by rfl); have hE := congrArg (fun (q1 : Nat) => ([ownV 2 kU8 0 q1, dv (.int .u64 ((n : Nat) : Int)), dv (.int .i64 ((j - 1 : Nat) : Int))] : List AV)) e1; exact hE) (by have e1 : (acc ++ [UInt8.ofNat (n / 2 ^ (8 * (j - 1)))] : List UInt8) = acc ++ [(UInt8.ofNat (n / 2 ^ (8 * (j - 1))))] := (by rfl); have hE := congrArg (fun (q1 : List UInt8) => ([.live (arrK 5 kU8 q1)] : List HS)) e1; exact hE) (by kernel_rfl) (by kernel_rfl) (by kernel_rfl) (by kernel_rfl) (by kernel_rfl) (by kernel_rfl) (by kernel_rfl) (by kernel_rfl) (by kernel_rfl) (by kernel_rfl) (by kernel_rfl) hG)
    · refine T.condF (b := (decide (((j : Nat) : Int) > 0))) rfl (decide_eq_false hq2) ?_
      refine T.exit ?_
      refine xT ?_
      refine xT ?_
      refine xH ?_
      refine nT ?_
      refine T.seq ?_
      refine tR (s1 := ⟨[ownV 0 kU8 0 acc.length, dv (.int .u64 ((n : Nat) : Int)), dv (.int .i64 ((j : Nat) : Int)), AV.any, AV.any, AV.any, ownV 0 kU8 0 acc.length, AV.any, AV.any, AV.any, dv (.bool (decide (((j : Nat) : Int) > 0)))], [.live (arrK 5 kU8 acc)]⟩) [true, true, true, false, false, false, true, false, false, false, true] [true]
        (oC (oS rfl rfl (r_move (av := ownV 0 kU8 0 acc.length) (lt_of rfl) trivial))
        (oC (oS rfl rfl (r_assign (av := ownV 0 kU8 0 acc.length) (lt_of rfl) trivial)) (oZ rfl)))
        (by kernel_rfl) (by kernel_rfl) ?_
      refine nT ?_
      refine T.ret ?_
      exact tE (.inl rfl) [.t 6 (.one (.own 0 kU8.sz 0 acc.length))] ⟨⟨rfl, rfl⟩, trivial⟩ [0] (by have e1 : ((b ++ (spellB n (m + 1))).length : Nat) = acc.length := (by first | rfl | exact (spell_end he (by omega)).symm | (rw [spell_end he (by omega)])); have hE := congrArg (fun (q1 : Nat) => (ownV 0 kU8 0 q1 : AV)) e1; exact hE) rfl rfl rfl rfl rfl ⟨⟨rfl, (by have e1 : (acc : List UInt8) = b ++ (spellB n (m + 1)) := (by first | rfl | exact (spell_end he (by omega)).symm | (rw [spell_end he (by omega)])); have hE := congrArg (fun (q1 : List UInt8) => (.live (arrK 5 kU8 q1) : HS)) e1; exact hE)⟩, trivial⟩
  · exact absurd (by omega) hq1

-- quaestor/wire.PutCount
theorem wire_PutCount (tb : Bool) (nb : Bool) (b : List UInt8) (n : Int) (hb : b.length ≤ 140737488355000) : Holds Try.prog 33 ⟨[slV tb nb kU8 b, dv (.int .i64 n)], [], ownV 0 kU8 0 (b ++ cntB n).length, [.live (arrK 5 kU8 (b ++ cntB n))]⟩ := by
  refine Holds.of Try.func33 rfl (N := 11) Try.ntmps33 rfl fun w0 B0 S0 U0 => ?_
  show T _ (mkBase 11 0 w0 S0 U0 B0) ⟨[slV tb nb kU8 b, dv (.int .i64 n)], []⟩ _ _
  have hn := cntN_lt n
  refine T.seq ?_
  refine tR (s1 := ⟨[slV tb nb kU8 b, dv (.int .i64 n), AV.any, AV.any, dv (.slice none 0 0)], []⟩) [true, true, false, false, true] []
    (oC (oS rfl rfl (r_assign (av := dv (.slice none 0 0)) (lt_of rfl) ⟨rfl, trivial⟩)) (oZ rfl))
    (by kernel_rfl) (by kernel_rfl) ?_
  refine nT ?_
  refine T.seq ?_
  refine tR (s1 := ⟨[slV tb nb kU8 b, dv (.int .i64 n), AV.any, AV.any, ownV 0 kU8 0 (b ++ (spellB (cntN n) 4)).length], [.live (arrK 5 kU8 (b ++ (spellB (cntN n) 4)))]⟩) [true, true, false, false, true] [true]
    (oC (oS rfl rfl (r_move (av := slV tb nb kU8 b) (lt_of rfl) trivial))
    (oC (oS rfl rfl (r_move (av := dv (.int .i64 n)) (lt_of rfl) trivial))
    (oC (oS rfl rfl (r_max (k := .i64) (a := n) (b := 0) (lt_of rfl) ⟨rfl, trivial⟩))
    (oC (oS rfl rfl (r_min (k := .i64) (a := max n 0) (b := 4294967295) (lt_of rfl) ⟨rfl, trivial⟩))
    (oC (oS rfl rfl (r_conv (u := .int .i64 (min (max n 0) 4294967295)) (v := .int .u64 ((cntN n : Nat) : Int)) (c_int Try.underlying3 Try.underlying58 (by rw [IntKind.wrap_u64]; unfold cntN; omega)) (lt_of rfl) trivial))
    (oC (oS rfl rfl (r_call (wire_spell tb nb b (cntN n) 3 (by first | assumption | omega | (simp only [maxLen, kU8_sz, kSl_sz, k_api_Step_sz, k_quaestorlaw09_Claim_sz]; omega) | (simp only [maxLen, kU8_sz, kSl_sz, k_api_Step_sz, k_quaestorlaw09_Claim_sz, List.length_append, List.length_cons, List.length_nil, List.length_take, List.length_drop, List.length_set]; omega) | decide) (by first | assumption | omega | (simp only [maxLen, kU8_sz, kSl_sz, k_api_Step_sz, k_quaestorlaw09_Claim_sz]; omega) | (simp only [maxLen, kU8_sz, kSl_sz, k_api_Step_sz, k_quaestorlaw09_Claim_sz, List.length_append, List.length_cons, List.length_nil, List.length_take, List.length_drop, List.length_set]; omega) | decide) (by first | assumption | omega | (simp only [maxLen, kU8_sz, kSl_sz, k_api_Step_sz, k_quaestorlaw09_Claim_sz]; omega) | (simp only [maxLen, kU8_sz, kSl_sz, k_api_Step_sz, k_quaestorlaw09_Claim_sz, List.length_append, List.length_cons, List.length_nil, List.length_take, List.length_drop, List.length_set]; omega) | decide)) Try.func39 rfl (by decide) [0] [] (l := [(.tmp 5, slV tb nb kU8 b), (.tmp 9, dv (.int .u64 ((cntN n : Nat) : Int))), (.const (.int .i64 4), dv (.int .i64 4))]) [] rfl 0 1 rfl rfl rfl rfl rfl rfl rfl rfl rfl ⟨.inl ⟨rfl, rfl⟩, ⟨.inl ⟨rfl, rfl⟩, ⟨.inl ⟨rfl, rfl⟩, trivial⟩⟩⟩ rfl (fun b hb => by cases hb) (.inl rfl) (lt_of rfl) ⟨rfl, trivial⟩))
    (oC (oS rfl rfl (r_assign (av := ownV 0 kU8 0 (b ++ (spellB (cntN n) 4)).length) (lt_of rfl) trivial)) (oZ rfl))))))))
    (by kernel_rfl) (by kernel_rfl) ?_
  refine nT ?_
  refine T.ret ?_
  exact tE (.inl rfl) [.t 4 (.one (.own 0 kU8.sz 0 (b ++ (spellB (cntN n) 4)).length))] ⟨⟨rfl, rfl⟩, trivial⟩ [0] (by have e1 : ((b ++ cntB n).length : Nat) = (b ++ (spellB (cntN n) 4)).length := (by first | rfl | (simp; done)); have hE := congrArg (fun (q1 : Nat) => (ownV 0 kU8 0 q1 : AV)) e1; exact hE) rfl rfl rfl rfl rfl ⟨⟨rfl, (by have e1 : (b ++ (spellB (cntN n) 4) : List UInt8) = b ++ cntB n := (by first | rfl | (simp; done)); have hE := congrArg (fun (q1 : List UInt8) => (.live (arrK 5 kU8 q1) : HS)) e1; exact hE)⟩, trivial⟩
end Go.Proofs.Ytcpdbbabbnbghaa.Q
