import Derived.Test.YtacikihlgpnjhaaM10
namespace Go.Proofs.Ytacikihlgpnjhaa.Q
open Go Go.RowKit
set_option linter.unusedVariables false
set_option linter.unusedSimpArgs false
set_option maxRecDepth 100000
set_option maxHeartbeats 4000000
-- quaestor/quaestorref01.Same
theorem ref01_Same (ta : Bool) (na : Bool) (tb : Bool) (nb : Bool) (a : List UInt8) (b : List UInt8) : Holds Try.prog 9 ⟨[slV ta na kU8 a, slV tb nb kU8 b], [], dv (.bool (decide (a = b))), []⟩ := by
  refine Holds.of Try.func9 rfl (N := 10) Try.ntmps9 rfl fun w0 B0 S0 U0 => ?_
  show T _ (mkBase 10 0 w0 S0 U0 B0) ⟨[slV ta na kU8 a, slV tb nb kU8 b], []⟩ _ _
  refine T.seq ?_
  refine xR [] (by kernel_rfl) (by kernel_rfl) ?_
  refine nT ?_
  refine T.seq ?_
  refine xR [hR 1 rfl rfl (q_strOf () a (ys := (.d (dsl ta na kU8 a))) (rhs := []) Try.underlying29 Try.underlying5 Try.underlying9 (src_sl ta na kU8 a) (lt_of rfl) trivial),
    hR 3 rfl rfl (q_strOf () b (ys := (.d (dsl tb nb kU8 b))) (rhs := []) Try.underlying29 Try.underlying5 Try.underlying9 (src_sl tb nb kU8 b) (lt_of rfl) trivial)] (by kernel_rfl) (by kernel_rfl) ?_
  refine nT ?_
  refine T.ret ?_
  exact tE (.inl rfl) [.t 4 (.one (.d (.val (.bool (decide (a = b))))))] ⟨⟨rfl, by kernel_rfl⟩, trivial⟩ [] rfl rfl rfl rfl rfl rfl trivial

theorem iat_5 : Try.prog.info? 5 = some Try.t5 := by kernel_rfl
theorem zero_5 : Zero Try.prog 5 [.int .u8 0] := ⟨_, _, iat_5, rfl, rfl⟩
theorem elem_29 : Elem Try.prog 29 5 1 1 := ⟨Try.underlying29, _, _, iat_5, rfl, rfl, rfl, rfl, by decide⟩
-- slices.Clone[[]byte,byte]
theorem clone_u8 (ta : Bool) (na : Bool) (a : List UInt8) (hp : a.length ≤ 140737488355328) : Holds Try.prog 64 ⟨[slV ta na kU8 a], [], ownV 0 kU8 0 a.length, [.live (arrK 5 kU8 a)]⟩ := by
  refine Holds.of Try.func64 rfl (N := 8) Try.ntmps64 rfl fun w0 B0 S0 U0 => ?_
  show T _ (mkBase 8 0 w0 S0 U0 B0) ⟨[slV ta na kU8 a], []⟩ _ _
  cases na
  · refine T.nilOr (k := 0) rfl (fun h0 => ?_) ?_
    · have h0 := List.eq_nil_of_length_eq_zero h0
      subst h0
      show T _ _ ⟨[dv (.slice none 0 0)], []⟩ _ _
      refine T.seq ?_
      refine xR [] (by kernel_rfl) (by kernel_rfl) ?_
      refine nT ?_
      refine T.seq ?_
      refine T.seq ?_
      refine xR [hR 1 rfl rfl (r_bin (u1 := .slice none 0 0) (u2 := .slice none 0 0) (v := .bool true) (b_eqlNilS Try.underlying29) (lt_of rfl) ⟨rfl, trivial⟩)] (by kernel_rfl) (by kernel_rfl) ?_
      refine nT ?_
      refine T.condT (b := true) (by kernel_rfl) rfl ?_
      refine T.seq ?_
      refine xR [] (by kernel_rfl) (by kernel_rfl) ?_
      refine nT ?_
      refine T.ret ?_
      refine rT ?_
      refine Ends.turn (s' := ⟨[dv (.slice none 0 0), aa, dv (.slice none 0 0), aa, dv (.bool true)], []⟩) (fun _ _ hG => Gs.norm (by kernel_rfl) hG) ?_
      refine Ends.turn (s' := ⟨[dv (.slice none 0 0), aa, ownV 0 kU8 0 0, aa, dv (.bool true)], [.live (arrK 5 kU8 ([] : List UInt8))]⟩) (fun _ _ hG => Gs.absent 0 2 5 kU8 rfl rfl hG) ?_
      exact tE (.inl rfl) [.t 2 (.one (.own 0 kU8.sz 0 0))] ⟨⟨rfl, by kernel_rfl⟩, trivial⟩ [0] (by have e1 : (([] : List UInt8).length : Nat) = 0 := (by first | rfl | (simp; done)); have hE := congrArg (fun (q1 : Nat) => (ownV 0 kU8 0 q1 : AV)) e1; exact hE) rfl rfl rfl rfl rfl ⟨⟨rfl, (by kernel_rfl)⟩, trivial⟩
    · show T _ _ ⟨[slV ta true kU8 a], []⟩ _ _
      refine T.seq ?_
      refine xR [] (by kernel_rfl) (by kernel_rfl) ?_
      refine nT ?_
      refine T.seq ?_
      refine T.seq ?_
      refine xR [hR 1 rfl rfl (r_eqNil (s := .d (dsl ta true kU8 a)) Try.underlying29 (.inl rfl) (lt_of rfl) ⟨rfl, trivial⟩)] (by kernel_rfl) (by kernel_rfl) ?_
      refine nT ?_
      refine T.condF (b := false) (by kernel_rfl) rfl ?_
      refine T.skip ?_
      refine nT ?_
      refine T.seq ?_
      refine xR [hR 0 rfl rfl (q_buildSlice 0 5 kU8 kU8_ok ([] : List UInt8) [] (cs := []) Try.underlying29 iat_5 rfl zero_5 rfl rfl rfl (Nat.le_of_ble_eq_true rfl) part_ok rfl trivial (lt_of rfl) trivial),
        hR 2 rfl rfl (q_appendO 0 1 5 1 kU8 kU8_ok ([] : List UInt8) a a ([] : List UInt8).length (sy := (.d (dsl ta true kU8 a))) (rhs := []) elem_29 (by first | assumption | omega | (unfold maxLen; omega) | (simp [maxLen, -List.getD_eq_getElem?_getD] <;> omega) | decide) (src_sl ta true kU8 a) (by simp) (by first | assumption | omega | (unfold maxLen; omega) | (simp [maxLen, -List.getD_eq_getElem?_getD] <;> omega) | decide) (by first | assumption | omega | (unfold maxLen; omega) | (simp [maxLen, -List.getD_eq_getElem?_getD] <;> omega) | decide) (lt_of rfl) trivial)] (by kernel_rfl) (by kernel_rfl) ?_
      refine nT ?_
      refine T.ret ?_
      exact tE (.inl rfl) [.t 2 (.one (.own 1 kU8.sz 0 a.length))] ⟨⟨rfl, by kernel_rfl⟩, trivial⟩ [1] rfl rfl rfl rfl rfl rfl ⟨⟨rfl, (by kernel_rfl)⟩, trivial⟩
  · refine T.seq ?_
    refine xR [] (by kernel_rfl) (by kernel_rfl) ?_
    refine nT ?_
    refine T.seq ?_
    refine T.seq ?_
    refine xR [hR 1 rfl rfl (r_eqNil (s := .d (dsl ta true kU8 a)) Try.underlying29 (.inl rfl) (lt_of rfl) ⟨rfl, trivial⟩)] (by kernel_rfl) (by kernel_rfl) ?_
    refine nT ?_
    refine T.condF (b := false) (by kernel_rfl) rfl ?_
    refine T.skip ?_
    refine nT ?_
    refine T.seq ?_
    refine xR [hR 0 rfl rfl (q_buildSlice 0 5 kU8 kU8_ok ([] : List UInt8) [] (cs := []) Try.underlying29 iat_5 rfl zero_5 rfl rfl rfl (Nat.le_of_ble_eq_true rfl) part_ok rfl trivial (lt_of rfl) trivial),
      hR 2 rfl rfl (q_appendO 0 1 5 1 kU8 kU8_ok ([] : List UInt8) a a ([] : List UInt8).length (sy := (.d (dsl ta true kU8 a))) (rhs := []) elem_29 (by first | assumption | omega | (unfold maxLen; omega) | (simp [maxLen, -List.getD_eq_getElem?_getD] <;> omega) | decide) (src_sl ta true kU8 a) (by simp) (by first | assumption | omega | (unfold maxLen; omega) | (simp [maxLen, -List.getD_eq_getElem?_getD] <;> omega) | decide) (by first | assumption | omega | (unfold maxLen; omega) | (simp [maxLen, -List.getD_eq_getElem?_getD] <;> omega) | decide) (lt_of rfl) trivial)] (by kernel_rfl) (by kernel_rfl) ?_
    refine nT ?_
    refine T.ret ?_
    exact tE (.inl rfl) [.t 2 (.one (.own 1 kU8.sz 0 a.length))] ⟨⟨rfl, by kernel_rfl⟩, trivial⟩ [1] rfl rfl rfl rfl rfl rfl ⟨⟨rfl, (by kernel_rfl)⟩, trivial⟩

-- slices.Clip[[]byte,byte]
theorem clip_u8 (tb : Bool) (nb : Bool) (b : List UInt8) : Holds Try.prog 72 ⟨[slV tb nb kU8 b], [], clV tb nb kU8 b, []⟩ := by
  refine Holds.of Try.func72 rfl (N := 9) Try.ntmps72 rfl fun w0 B0 S0 U0 => ?_
  show T _ (mkBase 9 0 w0 S0 U0 B0) ⟨[slV tb nb kU8 b], []⟩ _ _
  refine T.seq ?_
  refine xR [] (by kernel_rfl) (by kernel_rfl) ?_
  refine nT ?_
  refine T.seq ?_
  refine xR [hR 5 rfl rfl (q_clip tb nb kU8 b (p := ((b.length : Nat) : Int)) (q := ((b.length : Nat) : Int)) Try.underlying29 iat_5 rfl (by first | assumption | omega | (unfold maxLen; omega) | (simp [maxLen, -List.getD_eq_getElem?_getD] <;> omega) | decide) (by first | assumption | omega | (unfold maxLen; omega) | (simp [maxLen, -List.getD_eq_getElem?_getD] <;> omega) | decide) (lt_of rfl) trivial)] (by kernel_rfl) (by kernel_rfl) ?_
  refine nT ?_
  refine T.ret ?_
  exact tE (.inl rfl) [.t 2 (.one (.cl tb nb kU8.sz b.length (elOf kU8 b)))] ⟨⟨rfl, by kernel_rfl⟩, trivial⟩ [] rfl rfl rfl rfl rfl rfl trivial

-- quaestor/wire.spell
theorem wire_spell (tb : Bool) (nb : Bool) (b : List UInt8) (n : Nat) (m : Nat) (hb : b.length ≤ 140737488355000) (hn : n < 18446744073709551616) (hm : m ≤ 7) : Holds Try.prog 69 ⟨[slV tb nb kU8 b, dv (.int .u64 ((n : Nat) : Int)), dv (.int .i64 ((m + 1 : Nat) : Int))], [], ownV 0 kU8 0 (b ++ (spellB n (m + 1))).length, [.live (arrK 5 kU8 (b ++ (spellB n (m + 1))))]⟩ := by
  refine Holds.of Try.func69 rfl (N := 22) Try.ntmps69 rfl fun w0 B0 S0 U0 => ?_
  show T _ (mkBase 22 0 w0 S0 U0 B0) ⟨[slV tb nb kU8 b, dv (.int .u64 ((n : Nat) : Int)), dv (.int .i64 ((m + 1 : Nat) : Int))], []⟩ _ _
  refine T.seq ?_
  refine xR [] (by kernel_rfl) (by kernel_rfl) ?_
  refine nT ?_
  refine T.seq ?_
  refine xR [hR 1 rfl rfl (r_call (clip_u8 tb nb b ) Try.func72 rfl (by decide) [] [] (l := [(.tmp 7, slV tb nb kU8 b)]) [] rfl 0 0 rfl rfl rfl rfl rfl rfl rfl rfl rfl ⟨.inl ⟨rfl, rfl⟩, trivial⟩ rfl (fun b hb => by cases hb) (.inl rfl) (lt_of rfl) trivial)] (by kernel_rfl) (by kernel_rfl) ?_
  refine nT ?_
  refine T.seq ?_
  refine T.block ?_
  refine T.ofTL ?_
  refine TL.peel ?_
  refine T.seq ?_
  refine T.seq ?_
  refine xR [] (by kernel_rfl) (by kernel_rfl) ?_
  refine nT ?_
  by_cases hq1 : ((m + 1 : Nat) : Int) > 0
  · refine T.condT (by kernel_rfl) (decide_eq_true hq1) ?_
    refine T.skip ?_
    refine nT ?_
    refine T.block ?_
    refine T.seq ?_
    refine xR [hR 1 rfl rfl (r_bin (u1 := .int .i64 ((m + 1 : Nat) : Int)) (u2 := .int .i64 1) (v := .int .i64 ((m : Nat) : Int)) (b_sub (by rw [IntKind.wrap_i64]; omega)) (lt_of rfl) ⟨rfl, trivial⟩)] (by kernel_rfl) (by kernel_rfl) ?_
    refine nT ?_
    refine xR [hR 3 rfl rfl (r_bin (u1 := .int .i64 8) (u2 := .int .i64 ((m : Nat) : Int)) (v := .int .i64 ((8 * m : Nat) : Int)) (b_mul (by rw [IntKind.wrap_i64]; omega)) (lt_of rfl) ⟨rfl, trivial⟩),
      hR 4 rfl rfl (r_bin (u1 := .int .u64 ((n : Nat) : Int)) (u2 := .int .i64 ((8 * m : Nat) : Int)) (v := .int .u64 ((n / 2 ^ (8 * m) : Nat) : Int)) (b_shrN (n := 8 * m) rfl (Nat.le_trans (by first | assumption | omega | (unfold maxLen; omega) | (simp [maxLen, -List.getD_eq_getElem?_getD] <;> omega) | decide) (by decide : 64 ≤ _))) (lt_of rfl) trivial),
      hR 5 rfl rfl (r_conv (u := .int .u64 ((n / 2 ^ (8 * m) : Nat) : Int)) (v := .int .u8 (((UInt8.ofNat (n / 2 ^ (8 * m))).toNat : Nat) : Int)) (c_byte Try.underlying79 Try.underlying5) (lt_of rfl) trivial),
      hR 6 rfl rfl (q_buildSlice 0 5 kU8 kU8_ok [(UInt8.ofNat (n / 2 ^ (8 * m)))] [⟨0, .tmp 18, .one (.d (.val (.int .u8 (((UInt8.ofNat (n / 2 ^ (8 * m))).toNat : Nat) : Int)))), 0⟩] (cs := [.d (.val (.int .u8 (((UInt8.ofNat (n / 2 ^ (8 * m))).toNat : Nat) : Int)))]) Try.underlying29 iat_5 rfl zero_5 rfl rfl rfl (Nat.le_of_ble_eq_true rfl) (part_cons rfl rfl (Nat.le_of_ble_eq_true rfl) part_ok) rfl ⟨(.inl rfl), trivial⟩ (lt_of rfl) trivial),
      hR 7 rfl rfl (q_appendC 1 5 1 tb nb kU8 kU8_ok b [(UInt8.ofNat (n / 2 ^ (8 * m)))] (b ++ [(UInt8.ofNat (n / 2 ^ (8 * m)))]) (sy := (.own 0 kU8.sz 0 [(UInt8.ofNat (n / 2 ^ (8 * m)))].length)) (rhs := [(0, .live (arrK 5 kU8 [(UInt8.ofNat (n / 2 ^ (8 * m)))]))]) elem_29 (by first | assumption | omega | (unfold maxLen; omega) | (simp [maxLen, -List.getD_eq_getElem?_getD] <;> omega) | decide) (src_own 0 5 kU8 [(UInt8.ofNat (n / 2 ^ (8 * m)))]) rfl (by first | assumption | omega | (unfold maxLen; omega) | (simp [maxLen, -List.getD_eq_getElem?_getD] <;> omega) | decide) (by first | assumption | omega | (unfold maxLen; omega) | (simp [maxLen, -List.getD_eq_getElem?_getD] <;> omega) | decide) (lt_of rfl) trivial)] (by kernel_rfl) (by kernel_rfl) ?_
    refine nB ?_
    refine nP ?_
    refine TL.loop (ι := Nat × (List UInt8)) (fun (x_ : Nat × (List UInt8)) => ⟨[ownV 0 kU8 0 x_.2.length, dv (.int .u64 ((n : Nat) : Int)), dv (.int .i64 ((x_.1 : Nat) : Int))], [.live (arrK 5 kU8 x_.2)]⟩) (fun (x_ : Nat × (List UInt8)) => (x_.1 ≤ m) ∧ (x_.2 ++ spellB n x_.1 = b ++ spellB n (m + 1))) (fun (x_ : Nat × (List UInt8)) => x_.1) (m, b ++ [UInt8.ofNat (n / 2 ^ (8 * m))]) ⟨(Nat.le_refl _), (by rw [List.append_assoc]; rfl)⟩ (fun _ _ hG => Gs.into2 (s' := ⟨[ownV 0 kU8 0 (b ++ [UInt8.ofNat (n / 2 ^ (8 * m))]).length, dv (.int .u64 ((n : Nat) : Int)), dv (.int .i64 ((m : Nat) : Int))], [.live (arrK 5 kU8 (b ++ [UInt8.ofNat (n / 2 ^ (8 * m))]))]⟩) [1] [true, true, true] (t1 := [ownV 1 kU8 0 (b ++ [UInt8.ofNat (n / 2 ^ (8 * m))]).length, dv (.int .u64 ((n : Nat) : Int)), dv (.int .i64 ((m : Nat) : Int))]) (t2 := [ownV 1 kU8 0 (b ++ [(UInt8.ofNat (n / 2 ^ (8 * m)))]).length, dv (.int .u64 ((n : Nat) : Int)), dv (.int .i64 ((m : Nat) : Int))]) (h1 := [.live (arrK 5 kU8 (b ++ [UInt8.ofNat (n / 2 ^ (8 * m))]))]) (h2 := [.live (arrK 5 kU8 (b ++ [(UInt8.ofNat (n / 2 ^ (8 * m)))]))]) (by have e1 : ((b ++ [UInt8.ofNat (n / 2 ^ (8 * m))]).length : Nat) = (b ++ [(UInt8.ofNat (n / 2 ^ (8 * m)))]).length := (by rfl); have hE := congrArg (fun (q1 : Nat) => ([ownV 1 kU8 0 q1, dv (.int .u64 ((n : Nat) : Int)), dv (.int .i64 ((m : Nat) : Int))] : List AV)) e1; exact hE) (by have e1 : (b ++ [UInt8.ofNat (n / 2 ^ (8 * m))] : List UInt8) = b ++ [(UInt8.ofNat (n / 2 ^ (8 * m)))] := (by rfl); have hE := congrArg (fun (q1 : List UInt8) => ([.live (arrK 5 kU8 q1)] : List HS)) e1; exact hE) (by kernel_rfl) (by kernel_rfl) (by kernel_rfl) (by kernel_rfl) (by kernel_rfl) (by kernel_rfl) (by kernel_rfl) (by kernel_rfl) (by kernel_rfl) (by kernel_rfl) (by kernel_rfl) hG) ?_
    rintro ⟨j, acc⟩ ⟨hj, he⟩
    show T _ _ ⟨[ownV 0 kU8 0 acc.length, dv (.int .u64 ((n : Nat) : Int)), dv (.int .i64 ((j : Nat) : Int))], [.live (arrK 5 kU8 acc)]⟩ _ _
    replace hj : j ≤ m := hj
    replace he : acc ++ spellB n j = b ++ spellB n (m + 1) := he
    have hacc := spell_lenE he
    refine T.seq ?_
    refine T.seq ?_
    refine xR [] (by kernel_rfl) (by kernel_rfl) ?_
    refine nT ?_
    by_cases hq2 : ((j : Nat) : Int) > 0
    · refine T.condT (by kernel_rfl) (decide_eq_true hq2) ?_
      refine T.skip ?_
      refine nT ?_
      refine T.block ?_
      refine T.seq ?_
      refine xR [hR 1 rfl rfl (r_bin (u1 := .int .i64 ((j : Nat) : Int)) (u2 := .int .i64 1) (v := .int .i64 ((j - 1 : Nat) : Int)) (b_sub (by rw [IntKind.wrap_i64]; omega)) (lt_of rfl) ⟨rfl, trivial⟩)] (by kernel_rfl) (by kernel_rfl) ?_
      refine nT ?_
      refine xR [hR 3 rfl rfl (r_bin (u1 := .int .i64 8) (u2 := .int .i64 ((j - 1 : Nat) : Int)) (v := .int .i64 ((8 * (j - 1) : Nat) : Int)) (b_mul (by rw [IntKind.wrap_i64]; omega)) (lt_of rfl) ⟨rfl, trivial⟩),
        hR 4 rfl rfl (r_bin (u1 := .int .u64 ((n : Nat) : Int)) (u2 := .int .i64 ((8 * (j - 1) : Nat) : Int)) (v := .int .u64 ((n / 2 ^ (8 * (j - 1)) : Nat) : Int)) (b_shrN (n := 8 * (j - 1)) rfl (Nat.le_trans (by first | assumption | omega | (unfold maxLen; omega) | (simp [maxLen, -List.getD_eq_getElem?_getD] <;> omega) | decide) (by decide : 64 ≤ _))) (lt_of rfl) trivial),
        hR 5 rfl rfl (r_conv (u := .int .u64 ((n / 2 ^ (8 * (j - 1)) : Nat) : Int)) (v := .int .u8 (((UInt8.ofNat (n / 2 ^ (8 * (j - 1)))).toNat : Nat) : Int)) (c_byte Try.underlying79 Try.underlying5) (lt_of rfl) trivial),
        hR 6 rfl rfl (q_buildSlice 1 5 kU8 kU8_ok [(UInt8.ofNat (n / 2 ^ (8 * (j - 1))))] [⟨0, .tmp 18, .one (.d (.val (.int .u8 (((UInt8.ofNat (n / 2 ^ (8 * (j - 1)))).toNat : Nat) : Int)))), 0⟩] (cs := [.d (.val (.int .u8 (((UInt8.ofNat (n / 2 ^ (8 * (j - 1)))).toNat : Nat) : Int)))]) Try.underlying29 iat_5 rfl zero_5 rfl rfl rfl (Nat.le_of_ble_eq_true rfl) (part_cons rfl rfl (Nat.le_of_ble_eq_true rfl) part_ok) rfl ⟨(.inl rfl), trivial⟩ (lt_of rfl) trivial),
        hR 7 rfl rfl (q_appendO 0 2 5 1 kU8 kU8_ok acc [(UInt8.ofNat (n / 2 ^ (8 * (j - 1))))] (acc ++ [(UInt8.ofNat (n / 2 ^ (8 * (j - 1))))]) acc.length (sy := (.own 1 kU8.sz 0 [(UInt8.ofNat (n / 2 ^ (8 * (j - 1))))].length)) (rhs := [(1, .live (arrK 5 kU8 [(UInt8.ofNat (n / 2 ^ (8 * (j - 1))))]))]) elem_29 (by first | assumption | omega | (unfold maxLen; omega) | (simp [maxLen, -List.getD_eq_getElem?_getD] <;> omega) | decide) (src_own 1 5 kU8 [(UInt8.ofNat (n / 2 ^ (8 * (j - 1))))]) (by rw [List.take_length]) (by first | assumption | omega | (unfold maxLen; omega) | (simp [maxLen, -List.getD_eq_getElem?_getD] <;> omega) | decide) (by first | assumption | omega | (unfold maxLen; omega) | (simp [maxLen, -List.getD_eq_getElem?_getD] <;> omega) | decide) (lt_of rfl) trivial)] (by kernel_rfl) (by kernel_rfl) ?_
      refine nB ?_
      refine nL (j - 1, acc ++ [UInt8.ofNat (n / 2 ^ (8 * (j - 1)))]) ⟨(show (j - 1) ≤ m from (by omega)), (show (acc ++ [UInt8.ofNat (n / 2 ^ (8 * (j - 1)))]) ++ spellB n (j - 1) = b ++ spellB n (m + 1) from (spell_step he (by omega)))⟩ (show ((j - 1) : Nat) < j from (by omega)) (fun _ _ hG => Gs.into2 (s' := ⟨[ownV 0 kU8 0 (acc ++ [UInt8.ofNat (n / 2 ^ (8 * (j - 1)))]).length, dv (.int .u64 ((n : Nat) : Int)), dv (.int .i64 ((j - 1 : Nat) : Int))], [.live (arrK 5 kU8 (acc ++ [UInt8.ofNat (n / 2 ^ (8 * (j - 1)))]))]⟩) [2] [true, true, true] (t1 := [ownV 2 kU8 0 (acc ++ [UInt8.ofNat (n / 2 ^ (8 * (j - 1)))]).length, dv (.int .u64 ((n : Nat) : Int)), dv (.int .i64 ((j - 1 : Nat) : Int))]) (t2 := [ownV 2 kU8 0 (acc ++ [(UInt8.ofNat (n / 2 ^ (8 * (j - 1))))]).length, dv (.int .u64 ((n : Nat) : Int)), dv (.int .i64 ((j - 1 : Nat) : Int))]) (h1 := [.live (arrK 5 kU8 (acc ++ [UInt8.ofNat (n / 2 ^ (8 * (j - 1)))]))]) (h2 := [.live (arrK 5 kU8 (acc ++ [(UInt8.ofNat (n / 2 ^ (8 * (j - 1))))]))]) (by have e1 : ((acc ++ [UInt8.ofNat (n / 2 ^ (8 * (j - 1)))]).length : Nat) = (acc ++ [(UInt8.ofNat (n / 2 ^ (8 * (j - 1))))]).length := (by rfl); have hE := congrArg (fun (q1 : Nat) => ([ownV 2 kU8 0 q1, dv (.int .u64 ((n : Nat) : Int)), dv (.int .i64 ((j - 1 : Nat) : Int))] : List AV)) e1; exact hE) (by have e1 : (acc ++ [UInt8.ofNat (n / 2 ^ (8 * (j - 1)))] : List UInt8) = acc ++ [(UInt8.ofNat (n / 2 ^ (8 * (j - 1))))] := (by rfl); have hE := congrArg (fun (q1 : List UInt8) => ([.live (arrK 5 kU8 q1)] : List HS)) e1; exact hE) (by kernel_rfl) (by kernel_rfl) (by kernel_rfl) (by kernel_rfl) (by kernel_rfl) (by kernel_rfl) (by kernel_rfl) (by kernel_rfl) (by kernel_rfl) (by kernel_rfl) (by kernel_rfl) hG)
    · refine T.condF (by kernel_rfl) (decide_eq_false hq2) ?_
      refine T.exit ?_
      refine xT ?_
      refine xT ?_
      refine xH ?_
      refine nT ?_
      refine T.seq ?_
      refine xR [] (by kernel_rfl) (by kernel_rfl) ?_
      refine nT ?_
      refine T.ret ?_
      exact tE (.inl rfl) [.t 6 (.one (.own 0 kU8.sz 0 acc.length))] ⟨⟨rfl, by kernel_rfl⟩, trivial⟩ [0] (by have e1 : ((b ++ (spellB n (m + 1))).length : Nat) = acc.length := (by first | rfl | exact (spell_end he (by omega)).symm | (rw [spell_end he (by omega)])); have hE := congrArg (fun (q1 : Nat) => (ownV 0 kU8 0 q1 : AV)) e1; exact hE) rfl rfl rfl rfl rfl ⟨⟨rfl, (by have e1 : (acc : List UInt8) = b ++ (spellB n (m + 1)) := (by first | rfl | exact (spell_end he (by omega)).symm | (rw [spell_end he (by omega)])); have hE := congrArg (fun (q1 : List UInt8) => (.live (arrK 5 kU8 q1) : HS)) e1; exact Eq.trans (by kernel_rfl) hE)⟩, trivial⟩
  · exact absurd (by omega) hq1

-- quaestor/wire.PutInt
theorem wire_PutInt (tb : Bool) (nb : Bool) (b : List UInt8) (n : Int) (hb : b.length ≤ 140737488355000) : Holds Try.prog 50 ⟨[slV tb nb kU8 b, dv (.int .i64 n)], [], ownV 0 kU8 0 (b ++ intB n).length, [.live (arrK 5 kU8 (b ++ intB n))]⟩ := by
  refine Holds.of Try.func50 rfl (N := 9) Try.ntmps50 rfl fun w0 B0 S0 U0 => ?_
  show T _ (mkBase 9 0 w0 S0 U0 B0) ⟨[slV tb nb kU8 b, dv (.int .i64 n)], []⟩ _ _
  have hn := u64_lt n
  refine T.seq ?_
  refine xR [] (by kernel_rfl) (by kernel_rfl) ?_
  refine nT ?_
  refine T.seq ?_
  refine xR [hR 2 rfl rfl (r_conv (u := .int .i64 n) (v := .int .u64 ((u64 n : Nat) : Int)) (c_u64 Try.underlying2 Try.underlying79) (lt_of rfl) trivial),
    hR 3 rfl rfl (r_call (wire_spell tb nb b (u64 n) 7 (by first | assumption | omega | (unfold maxLen; omega) | (simp [maxLen, -List.getD_eq_getElem?_getD] <;> omega) | decide) (by first | assumption | omega | (unfold maxLen; omega) | (simp [maxLen, -List.getD_eq_getElem?_getD] <;> omega) | decide) (by first | assumption | omega | (unfold maxLen; omega) | (simp [maxLen, -List.getD_eq_getElem?_getD] <;> omega) | decide)) Try.func69 rfl (by decide) [0] [] (l := [(.tmp 5, slV tb nb kU8 b), (.tmp 7, dv (.int .u64 ((u64 n : Nat) : Int))), (.const (.int .i64 8), dv (.int .i64 8))]) [] rfl 0 1 rfl rfl rfl rfl rfl rfl rfl rfl rfl ⟨.inl ⟨rfl, rfl⟩, ⟨.inl ⟨rfl, rfl⟩, ⟨.inl ⟨rfl, rfl⟩, trivial⟩⟩⟩ rfl (fun b hb => by cases hb) (.inl rfl) (lt_of rfl) ⟨rfl, trivial⟩)] (by kernel_rfl) (by kernel_rfl) ?_
  refine nT ?_
  refine T.ret ?_
  exact tE (.inl rfl) [.t 4 (.one (.own 0 kU8.sz 0 (b ++ (spellB (u64 n) 8)).length))] ⟨⟨rfl, by kernel_rfl⟩, trivial⟩ [0] (by have e1 : ((b ++ intB n).length : Nat) = (b ++ (spellB (u64 n) 8)).length := (by first | rfl | (simp; done)); have hE := congrArg (fun (q1 : Nat) => (ownV 0 kU8 0 q1 : AV)) e1; exact hE) rfl rfl rfl rfl rfl ⟨⟨rfl, (by have e1 : (b ++ (spellB (u64 n) 8) : List UInt8) = b ++ intB n := (by first | rfl | (simp; done)); have hE := congrArg (fun (q1 : List UInt8) => (.live (arrK 5 kU8 q1) : HS)) e1; exact Eq.trans (by kernel_rfl) hE)⟩, trivial⟩

-- quaestor/wire.PutCount
theorem wire_PutCount (tb : Bool) (nb : Bool) (b : List UInt8) (n : Int) (hb : b.length ≤ 140737488355000) : Holds Try.prog 49 ⟨[slV tb nb kU8 b, dv (.int .i64 n)], [], ownV 0 kU8 0 (b ++ cntB n).length, [.live (arrK 5 kU8 (b ++ cntB n))]⟩ := by
  refine Holds.of Try.func49 rfl (N := 11) Try.ntmps49 rfl fun w0 B0 S0 U0 => ?_
  show T _ (mkBase 11 0 w0 S0 U0 B0) ⟨[slV tb nb kU8 b, dv (.int .i64 n)], []⟩ _ _
  have hn := cntN_lt n
  refine T.seq ?_
  refine xR [] (by kernel_rfl) (by kernel_rfl) ?_
  refine nT ?_
  refine T.seq ?_
  refine xR [hR 2 rfl rfl (r_max (k := .i64) (a := n) (b := 0) (lt_of rfl) ⟨rfl, trivial⟩),
    hR 3 rfl rfl (r_min (k := .i64) (a := max n 0) (b := 4294967295) (lt_of rfl) ⟨rfl, trivial⟩),
    hR 4 rfl rfl (r_conv (u := .int .i64 (min (max n 0) 4294967295)) (v := .int .u64 ((cntN n : Nat) : Int)) (c_int Try.underlying3 Try.underlying79 (by rw [IntKind.wrap_u64]; unfold cntN; omega)) (lt_of rfl) trivial),
    hR 5 rfl rfl (r_call (wire_spell tb nb b (cntN n) 3 (by first | assumption | omega | (unfold maxLen; omega) | (simp [maxLen, -List.getD_eq_getElem?_getD] <;> omega) | decide) (by first | assumption | omega | (unfold maxLen; omega) | (simp [maxLen, -List.getD_eq_getElem?_getD] <;> omega) | decide) (by first | assumption | omega | (unfold maxLen; omega) | (simp [maxLen, -List.getD_eq_getElem?_getD] <;> omega) | decide)) Try.func69 rfl (by decide) [0] [] (l := [(.tmp 5, slV tb nb kU8 b), (.tmp 9, dv (.int .u64 ((cntN n : Nat) : Int))), (.const (.int .i64 4), dv (.int .i64 4))]) [] rfl 0 1 rfl rfl rfl rfl rfl rfl rfl rfl rfl ⟨.inl ⟨rfl, rfl⟩, ⟨.inl ⟨rfl, rfl⟩, ⟨.inl ⟨rfl, rfl⟩, trivial⟩⟩⟩ rfl (fun b hb => by cases hb) (.inl rfl) (lt_of rfl) ⟨rfl, trivial⟩)] (by kernel_rfl) (by kernel_rfl) ?_
  refine nT ?_
  refine T.ret ?_
  exact tE (.inl rfl) [.t 4 (.one (.own 0 kU8.sz 0 (b ++ (spellB (cntN n) 4)).length))] ⟨⟨rfl, by kernel_rfl⟩, trivial⟩ [0] (by have e1 : ((b ++ cntB n).length : Nat) = (b ++ (spellB (cntN n) 4)).length := (by first | rfl | (simp; done)); have hE := congrArg (fun (q1 : Nat) => (ownV 0 kU8 0 q1 : AV)) e1; exact hE) rfl rfl rfl rfl rfl ⟨⟨rfl, (by have e1 : (b ++ (spellB (cntN n) 4) : List UInt8) = b ++ cntB n := (by first | rfl | (simp; done)); have hE := congrArg (fun (q1 : List UInt8) => (.live (arrK 5 kU8 q1) : HS)) e1; exact Eq.trans (by kernel_rfl) hE)⟩, trivial⟩

-- quaestor/wire.PutBytes
theorem wire_PutBytes (tb : Bool) (nb : Bool) (b : List UInt8) (tx : Bool) (nx : Bool) (x : List UInt8) (hb : b.length + x.length ≤ 140737488355000) : Holds Try.prog 29 ⟨[slV tb nb kU8 b, slV tx nx kU8 x], [], ownV 0 kU8 0 (b ++ bytesB x).length, [.live (arrK 5 kU8 (b ++ bytesB x))]⟩ := by
  refine Holds.of Try.func29 rfl (N := 11) Try.ntmps29 rfl fun w0 B0 S0 U0 => ?_
  show T _ (mkBase 11 0 w0 S0 U0 B0) ⟨[slV tb nb kU8 b, slV tx nx kU8 x], []⟩ _ _
  have hcl := cnt_len ((x.length : Nat) : Int)
  refine T.seq ?_
  refine xR [] (by kernel_rfl) (by kernel_rfl) ?_
  refine nT ?_
  refine T.seq ?_
  refine xR [hR 3 rfl rfl (r_call (wire_PutCount tb nb b ((x.length : Nat) : Int) (by first | assumption | omega | (unfold maxLen; omega) | (simp [maxLen, -List.getD_eq_getElem?_getD] <;> omega) | decide)) Try.func49 rfl (by decide) [0] [] (l := [(.tmp 5, slV tb nb kU8 b), (.tmp 7, dv (.int .i64 ((x.length : Nat) : Int)))]) [] rfl 0 1 rfl rfl rfl rfl rfl rfl rfl rfl rfl ⟨.inl ⟨rfl, rfl⟩, ⟨.inl ⟨rfl, rfl⟩, trivial⟩⟩ rfl (fun b hb => by cases hb) (.inl rfl) (lt_of rfl) trivial),
    hR 5 rfl rfl (q_appendO 0 1 5 1 kU8 kU8_ok (b ++ cntB ((x.length : Nat) : Int)) x (b ++ cntB ((x.length : Nat) : Int) ++ x) (b ++ cntB ((x.length : Nat) : Int)).length (sy := (.d (dsl tx nx kU8 x))) (rhs := []) elem_29 (by first | assumption | omega | (unfold maxLen; omega) | (simp [maxLen, -List.getD_eq_getElem?_getD] <;> omega) | decide) (src_sl tx nx kU8 x) (by rw [List.take_length]) (by first | assumption | omega | (unfold maxLen; omega) | (simp [maxLen, -List.getD_eq_getElem?_getD] <;> omega) | decide) (by first | assumption | omega | (unfold maxLen; omega) | (simp [maxLen, -List.getD_eq_getElem?_getD] <;> omega) | decide) (lt_of rfl) trivial)] (by kernel_rfl) (by kernel_rfl) ?_
  refine nT ?_
  refine T.ret ?_
  exact tE (.inl rfl) [.t 4 (.one (.own 1 kU8.sz 0 (b ++ cntB ((x.length : Nat) : Int) ++ x).length))] ⟨⟨rfl, by kernel_rfl⟩, trivial⟩ [1] (by have e1 : ((b ++ bytesB x).length : Nat) = (b ++ cntB ((x.length : Nat) : Int) ++ x).length := (by first | rfl | (simp only [bytesB, List.append_assoc])); have hE := congrArg (fun (q1 : Nat) => (ownV 1 kU8 0 q1 : AV)) e1; exact hE) rfl rfl rfl rfl rfl ⟨⟨rfl, (by have e1 : (b ++ cntB ((x.length : Nat) : Int) ++ x : List UInt8) = b ++ bytesB x := (by first | rfl | (simp only [bytesB, List.append_assoc])); have hE := congrArg (fun (q1 : List UInt8) => (.live (arrK 5 kU8 q1) : HS)) e1; exact Eq.trans (by kernel_rfl) hE)⟩, trivial⟩

-- quaestor/quaestorref01.bits
theorem ref01_bits (tb : Bool) (nb : Bool) (b : List UInt8) (n : Nat) (m : Nat) (hb : b.length ≤ 140737488355000) (hn : n < 18446744073709551616) (hm : m ≤ 8) : Holds Try.prog 52 ⟨[slV tb nb kU8 b, dv (.int .u64 ((n : Nat) : Int)), dv (.int .i64 ((m : Nat) : Int))], [], ownV 0 kU8 0 (b ++ (spellB n m)).length, [.live (arrK 5 kU8 (b ++ (spellB n m)))]⟩ := by
  refine Holds.of Try.func52 rfl (N := 27) Try.ntmps52 rfl fun w0 B0 S0 U0 => ?_
  show T _ (mkBase 27 0 w0 S0 U0 B0) ⟨[slV tb nb kU8 b, dv (.int .u64 ((n : Nat) : Int)), dv (.int .i64 ((m : Nat) : Int))], []⟩ _ _
  refine T.seq ?_
  refine xR [] (by kernel_rfl) (by kernel_rfl) ?_
  refine nT ?_
  refine T.seq ?_
  refine xR [hR 0 rfl rfl (q_buildSlice 0 5 kU8 kU8_ok ([] : List UInt8) [] (cs := []) Try.underlying29 iat_5 rfl zero_5 rfl rfl rfl (Nat.le_of_ble_eq_true rfl) part_ok rfl trivial (lt_of rfl) trivial),
    hR 2 rfl rfl (q_appendO 0 1 5 1 kU8 kU8_ok ([] : List UInt8) b b ([] : List UInt8).length (sy := (.d (dsl tb nb kU8 b))) (rhs := []) elem_29 (by first | assumption | omega | (unfold maxLen; omega) | (simp [maxLen, -List.getD_eq_getElem?_getD] <;> omega) | decide) (src_sl tb nb kU8 b) (by simp) (by first | assumption | omega | (unfold maxLen; omega) | (simp [maxLen, -List.getD_eq_getElem?_getD] <;> omega) | decide) (by first | assumption | omega | (unfold maxLen; omega) | (simp [maxLen, -List.getD_eq_getElem?_getD] <;> omega) | decide) (lt_of rfl) trivial)] (by kernel_rfl) (by kernel_rfl) ?_
  refine nT ?_
  refine T.seq ?_
  refine T.seq ?_
  refine xR [hR 1 rfl rfl (r_bin (u1 := .int .i64 ((m : Nat) : Int)) (u2 := .int .i64 1) (v := .int .i64 (((m : Nat) : Int) - 1)) (b_sub (by rw [IntKind.wrap_i64]; omega)) (lt_of rfl) ⟨rfl, trivial⟩)] (by kernel_rfl) (by kernel_rfl) ?_
  refine nT ?_
  refine T.block ?_
  refine T.loop (ι := Nat × (List UInt8)) (fun (x_ : Nat × (List UInt8)) => ⟨[slV tb nb kU8 b, dv (.int .u64 ((n : Nat) : Int)), dv (.int .i64 ((m : Nat) : Int)), aa, aa, aa, dv (.slice none 0 0), ownV 1 kU8 0 x_.2.length, dv (.int .i64 (((x_.1 : Nat) : Int) - 1))], [.dead, .live (arrK 5 kU8 x_.2)]⟩) (fun (x_ : Nat × (List UInt8)) => (x_.1 ≤ m) ∧ (x_.2 ++ spellB n x_.1 = b ++ spellB n m)) (fun (x_ : Nat × (List UInt8)) => x_.1) (m, b) ⟨(Nat.le_refl _), rfl⟩ (fun _ _ hG => Gs.into2 (s' := ⟨[slV tb nb kU8 b, dv (.int .u64 ((n : Nat) : Int)), dv (.int .i64 ((m : Nat) : Int)), aa, aa, aa, dv (.slice none 0 0), ownV 1 kU8 0 b.length, dv (.int .i64 (((m : Nat) : Int) - 1))], [.dead, .live (arrK 5 kU8 b)]⟩) [3, 1] (bm 9 455) (t1 := [slV tb nb kU8 b, dv (.int .u64 ((n : Nat) : Int)), dv (.int .i64 ((m : Nat) : Int)), aa, aa, aa, dv (.slice none 0 0), ownV 1 kU8 0 b.length, dv (.int .i64 (((m : Nat) : Int) - 1))]) (h1 := [.dead, .live (arrK 5 kU8 b)]) rfl rfl (by kernel_rfl) (by kernel_rfl) (by kernel_rfl) (by kernel_rfl) (by kernel_rfl) (by kernel_rfl) (by kernel_rfl) (by kernel_rfl) (by kernel_rfl) (by kernel_rfl) (by kernel_rfl) hG) ?_
  rintro ⟨j, acc⟩ ⟨hj, he⟩
  show T _ _ ⟨[slV tb nb kU8 b, dv (.int .u64 ((n : Nat) : Int)), dv (.int .i64 ((m : Nat) : Int)), aa, aa, aa, dv (.slice none 0 0), ownV 1 kU8 0 acc.length, dv (.int .i64 (((j : Nat) : Int) - 1))], [.dead, .live (arrK 5 kU8 acc)]⟩ _ _
  replace hj : j ≤ m := hj
  replace he : acc ++ spellB n j = b ++ spellB n m := he
  have hacc := spell_lenE he
  refine T.seq ?_
  refine T.seq ?_
  refine xR [] (by kernel_rfl) (by kernel_rfl) ?_
  refine nT ?_
  by_cases hq1 : (((j : Nat) : Int) - 1) ≥ 0
  · refine T.condT (by kernel_rfl) (decide_eq_true hq1) ?_
    refine T.skip ?_
    refine nT ?_
    refine T.seq ?_
    refine T.block ?_
    refine xR [hR 3 rfl rfl (r_bin (u1 := .int .i64 8) (u2 := .int .i64 (((j : Nat) : Int) - 1)) (v := .int .i64 (8 * (((j : Nat) : Int) - 1))) (b_mul (by rw [IntKind.wrap_i64]; omega)) (lt_of rfl) ⟨rfl, trivial⟩),
      hR 4 rfl rfl (r_bin (u1 := .int .u64 ((n : Nat) : Int)) (u2 := .int .i64 (8 * (((j : Nat) : Int) - 1))) (v := .int .u64 ((n / 2 ^ (8 * (((j : Nat) : Int) - 1)).toNat : Nat) : Int)) (b_shrN (n := (8 * (((j : Nat) : Int) - 1)).toNat) (by omega) (Nat.le_trans (by first | assumption | omega | (unfold maxLen; omega) | (simp [maxLen, -List.getD_eq_getElem?_getD] <;> omega) | decide) (by decide : 64 ≤ _))) (lt_of rfl) trivial),
      hR 5 rfl rfl (r_conv (u := .int .u64 ((n / 2 ^ (8 * (((j : Nat) : Int) - 1)).toNat : Nat) : Int)) (v := .int .u8 (((UInt8.ofNat (n / 2 ^ (8 * (((j : Nat) : Int) - 1)).toNat)).toNat : Nat) : Int)) (c_byte Try.underlying79 Try.underlying5) (lt_of rfl) trivial),
      hR 6 rfl rfl (q_buildSlice 2 5 kU8 kU8_ok [(UInt8.ofNat (n / 2 ^ (8 * (((j : Nat) : Int) - 1)).toNat))] [⟨0, .tmp 23, .one (.d (.val (.int .u8 (((UInt8.ofNat (n / 2 ^ (8 * (((j : Nat) : Int) - 1)).toNat)).toNat : Nat) : Int)))), 0⟩] (cs := [.d (.val (.int .u8 (((UInt8.ofNat (n / 2 ^ (8 * (((j : Nat) : Int) - 1)).toNat)).toNat : Nat) : Int)))]) Try.underlying29 iat_5 rfl zero_5 rfl rfl rfl (Nat.le_of_ble_eq_true rfl) (part_cons rfl rfl (Nat.le_of_ble_eq_true rfl) part_ok) rfl ⟨(.inl rfl), trivial⟩ (lt_of rfl) trivial),
      hR 7 rfl rfl (q_appendO 1 3 5 1 kU8 kU8_ok acc [(UInt8.ofNat (n / 2 ^ (8 * (((j : Nat) : Int) - 1)).toNat))] (acc ++ [(UInt8.ofNat (n / 2 ^ (8 * (((j : Nat) : Int) - 1)).toNat))]) acc.length (sy := (.own 2 kU8.sz 0 [(UInt8.ofNat (n / 2 ^ (8 * (((j : Nat) : Int) - 1)).toNat))].length)) (rhs := [(2, .live (arrK 5 kU8 [(UInt8.ofNat (n / 2 ^ (8 * (((j : Nat) : Int) - 1)).toNat))]))]) elem_29 (by first | assumption | omega | (unfold maxLen; omega) | (simp [maxLen, -List.getD_eq_getElem?_getD] <;> omega) | decide) (src_own 2 5 kU8 [(UInt8.ofNat (n / 2 ^ (8 * (((j : Nat) : Int) - 1)).toNat))]) (by rw [List.take_length]) (by first | assumption | omega | (unfold maxLen; omega) | (simp [maxLen, -List.getD_eq_getElem?_getD] <;> omega) | decide) (by first | assumption | omega | (unfold maxLen; omega) | (simp [maxLen, -List.getD_eq_getElem?_getD] <;> omega) | decide) (lt_of rfl) trivial)] (by kernel_rfl) (by kernel_rfl) ?_
    refine nB ?_
    refine nT ?_
    refine xR [hR 1 rfl rfl (r_bin (u1 := .int .i64 (((j : Nat) : Int) - 1)) (u2 := .int .i64 1) (v := .int .i64 ((((j : Nat) : Int) - 1) - 1)) (b_sub (by rw [IntKind.wrap_i64]; omega)) (lt_of rfl) ⟨rfl, trivial⟩)] (by kernel_rfl) (by kernel_rfl) ?_
    refine nL (j - 1, acc ++ [UInt8.ofNat (n / 2 ^ (8 * (((j : Nat) : Int) - 1)).toNat)]) ⟨(show (j - 1) ≤ m from (by omega)), (show (acc ++ [UInt8.ofNat (n / 2 ^ (8 * (((j : Nat) : Int) - 1)).toNat)]) ++ spellB n (j - 1) = b ++ spellB n m from (spell_stepI he (by omega)))⟩ (show ((j - 1) : Nat) < j from (by omega)) (fun _ _ hG => Gs.into2 (s' := ⟨[slV tb nb kU8 b, dv (.int .u64 ((n : Nat) : Int)), dv (.int .i64 ((m : Nat) : Int)), aa, aa, aa, dv (.slice none 0 0), ownV 1 kU8 0 (acc ++ [UInt8.ofNat (n / 2 ^ (8 * (((j : Nat) : Int) - 1)).toNat)]).length, dv (.int .i64 (((j - 1 : Nat) : Int) - 1))], [.dead, .live (arrK 5 kU8 (acc ++ [UInt8.ofNat (n / 2 ^ (8 * (((j : Nat) : Int) - 1)).toNat)]))]⟩) [5, 3] (bm 9 455) (t1 := [slV tb nb kU8 b, dv (.int .u64 ((n : Nat) : Int)), dv (.int .i64 ((m : Nat) : Int)), aa, aa, aa, dv (.slice none 0 0), ownV 3 kU8 0 (acc ++ [UInt8.ofNat (n / 2 ^ (8 * (((j : Nat) : Int) - 1)).toNat)]).length, dv (.int .i64 (((j - 1 : Nat) : Int) - 1))]) (t2 := [slV tb nb kU8 b, dv (.int .u64 ((n : Nat) : Int)), dv (.int .i64 ((m : Nat) : Int)), aa, aa, aa, dv (.slice none 0 0), ownV 3 kU8 0 (acc ++ [(UInt8.ofNat (n / 2 ^ (8 * (((j : Nat) : Int) - 1)).toNat))]).length, dv (.int .i64 ((((j : Nat) : Int) - 1) - 1))]) (h1 := [.dead, .live (arrK 5 kU8 (acc ++ [UInt8.ofNat (n / 2 ^ (8 * (((j : Nat) : Int) - 1)).toNat)]))]) (h2 := [.dead, .live (arrK 5 kU8 (acc ++ [(UInt8.ofNat (n / 2 ^ (8 * (((j : Nat) : Int) - 1)).toNat))]))]) (by have e1 : ((acc ++ [UInt8.ofNat (n / 2 ^ (8 * (((j : Nat) : Int) - 1)).toNat)]).length : Nat) = (acc ++ [(UInt8.ofNat (n / 2 ^ (8 * (((j : Nat) : Int) - 1)).toNat))]).length := (by first | rfl | omega); have e2 : (((j - 1 : Nat) : Int) - 1 : Int) = (((j : Nat) : Int) - 1) - 1 := (by first | rfl | omega); have hE := congr (congrArg (fun (q1 : Nat) (q2 : Int) => ([slV tb nb kU8 b, dv (.int .u64 ((n : Nat) : Int)), dv (.int .i64 ((m : Nat) : Int)), aa, aa, aa, dv (.slice none 0 0), ownV 3 kU8 0 q1, dv (.int .i64 q2)] : List AV)) e1) e2; exact hE) (by have e1 : (acc ++ [UInt8.ofNat (n / 2 ^ (8 * (((j : Nat) : Int) - 1)).toNat)] : List UInt8) = acc ++ [(UInt8.ofNat (n / 2 ^ (8 * (((j : Nat) : Int) - 1)).toNat))] := (by first | rfl | omega); have hE := congrArg (fun (q1 : List UInt8) => ([.dead, .live (arrK 5 kU8 q1)] : List HS)) e1; exact hE) (by kernel_rfl) (by kernel_rfl) (by kernel_rfl) (by kernel_rfl) (by kernel_rfl) (by kernel_rfl) (by kernel_rfl) (by kernel_rfl) (by kernel_rfl) (by kernel_rfl) (by kernel_rfl) hG)
  · refine T.condF (by kernel_rfl) (decide_eq_false hq1) ?_
    refine T.exit ?_
    refine xT ?_
    refine xT ?_
    refine xH ?_
    refine nT ?_
    refine T.seq ?_
    refine xR [] (by kernel_rfl) (by kernel_rfl) ?_
    refine nT ?_
    refine T.ret ?_
    exact tE (.inl rfl) [.t 6 (.one (.own 1 kU8.sz 0 acc.length))] ⟨⟨rfl, by kernel_rfl⟩, trivial⟩ [1] (by have e1 : ((b ++ (spellB n m)).length : Nat) = acc.length := (by first | rfl | exact (spell_end he (by omega)).symm | (rw [spell_end he (by omega)])); have hE := congrArg (fun (q1 : Nat) => (ownV 1 kU8 0 q1 : AV)) e1; exact hE) rfl rfl rfl rfl rfl ⟨⟨rfl, (by have e1 : (acc : List UInt8) = b ++ (spellB n m) := (by first | rfl | exact (spell_end he (by omega)).symm | (rw [spell_end he (by omega)])); have hE := congrArg (fun (q1 : List UInt8) => (.live (arrK 5 kU8 q1) : HS)) e1; exact Eq.trans (by kernel_rfl) hE)⟩, trivial⟩

-- quaestor/quaestorref01.Int
theorem ref01_Int (tb : Bool) (nb : Bool) (b : List UInt8) (n : Int) (hb : b.length ≤ 140737488355000) : Holds Try.prog 31 ⟨[slV tb nb kU8 b, dv (.int .i64 n)], [], ownV 0 kU8 0 (b ++ intB n).length, [.live (arrK 5 kU8 (b ++ intB n))]⟩ := by
  refine Holds.of Try.func31 rfl (N := 9) Try.ntmps31 rfl fun w0 B0 S0 U0 => ?_
  show T _ (mkBase 9 0 w0 S0 U0 B0) ⟨[slV tb nb kU8 b, dv (.int .i64 n)], []⟩ _ _
  have hn := u64_lt n
  refine T.seq ?_
  refine xR [] (by kernel_rfl) (by kernel_rfl) ?_
  refine nT ?_
  refine T.seq ?_
  refine xR [hR 2 rfl rfl (r_conv (u := .int .i64 n) (v := .int .u64 ((u64 n : Nat) : Int)) (c_u64 Try.underlying2 Try.underlying79) (lt_of rfl) trivial),
    hR 3 rfl rfl (r_call (ref01_bits tb nb b (u64 n) 8 (by first | assumption | omega | (unfold maxLen; omega) | (simp [maxLen, -List.getD_eq_getElem?_getD] <;> omega) | decide) (by first | assumption | omega | (unfold maxLen; omega) | (simp [maxLen, -List.getD_eq_getElem?_getD] <;> omega) | decide) (by first | assumption | omega | (unfold maxLen; omega) | (simp [maxLen, -List.getD_eq_getElem?_getD] <;> omega) | decide)) Try.func52 rfl (by decide) [0] [] (l := [(.tmp 5, slV tb nb kU8 b), (.tmp 7, dv (.int .u64 ((u64 n : Nat) : Int))), (.const (.int .i64 8), dv (.int .i64 8))]) [] rfl 0 1 rfl rfl rfl rfl rfl rfl rfl rfl rfl ⟨.inl ⟨rfl, rfl⟩, ⟨.inl ⟨rfl, rfl⟩, ⟨.inl ⟨rfl, rfl⟩, trivial⟩⟩⟩ rfl (fun b hb => by cases hb) (.inl rfl) (lt_of rfl) ⟨rfl, trivial⟩)] (by kernel_rfl) (by kernel_rfl) ?_
  refine nT ?_
  refine T.ret ?_
  exact tE (.inl rfl) [.t 4 (.one (.own 0 kU8.sz 0 (b ++ (spellB (u64 n) 8)).length))] ⟨⟨rfl, by kernel_rfl⟩, trivial⟩ [0] (by have e1 : ((b ++ intB n).length : Nat) = (b ++ (spellB (u64 n) 8)).length := (by first | rfl | (simp; done)); have hE := congrArg (fun (q1 : Nat) => (ownV 0 kU8 0 q1 : AV)) e1; exact hE) rfl rfl rfl rfl rfl ⟨⟨rfl, (by have e1 : (b ++ (spellB (u64 n) 8) : List UInt8) = b ++ intB n := (by first | rfl | (simp; done)); have hE := congrArg (fun (q1 : List UInt8) => (.live (arrK 5 kU8 q1) : HS)) e1; exact Eq.trans (by kernel_rfl) hE)⟩, trivial⟩

-- quaestor/quaestorref01.Count
theorem ref01_Count (tb : Bool) (nb : Bool) (b : List UInt8) (n : Int) (hb : b.length ≤ 140737488355000) : Holds Try.prog 51 ⟨[slV tb nb kU8 b, dv (.int .i64 n)], [], ownV 0 kU8 0 (b ++ cntB n).length, [.live (arrK 5 kU8 (b ++ cntB n))]⟩ := by
  refine Holds.of Try.func51 rfl (N := 11) Try.ntmps51 rfl fun w0 B0 S0 U0 => ?_
  show T _ (mkBase 11 0 w0 S0 U0 B0) ⟨[slV tb nb kU8 b, dv (.int .i64 n)], []⟩ _ _
  have hn := cntN_lt n
  refine T.seq ?_
  refine xR [] (by kernel_rfl) (by kernel_rfl) ?_
  refine nT ?_
  refine T.seq ?_
  refine xR [hR 2 rfl rfl (r_min (k := .i64) (a := n) (b := 4294967295) (lt_of rfl) ⟨rfl, trivial⟩),
    hR 3 rfl rfl (r_max (k := .i64) (a := 0) (b := min n 4294967295) (lt_of rfl) ⟨rfl, trivial⟩),
    hR 4 rfl rfl (r_conv (u := .int .i64 (max 0 (min n 4294967295))) (v := .int .u64 ((cntN n : Nat) : Int)) (c_int Try.underlying3 Try.underlying79 (by rw [IntKind.wrap_u64]; unfold cntN; omega)) (lt_of rfl) trivial),
    hR 5 rfl rfl (r_call (ref01_bits tb nb b (cntN n) 4 (by first | assumption | omega | (unfold maxLen; omega) | (simp [maxLen, -List.getD_eq_getElem?_getD] <;> omega) | decide) (by first | assumption | omega | (unfold maxLen; omega) | (simp [maxLen, -List.getD_eq_getElem?_getD] <;> omega) | decide) (by first | assumption | omega | (unfold maxLen; omega) | (simp [maxLen, -List.getD_eq_getElem?_getD] <;> omega) | decide)) Try.func52 rfl (by decide) [0] [] (l := [(.tmp 5, slV tb nb kU8 b), (.tmp 9, dv (.int .u64 ((cntN n : Nat) : Int))), (.const (.int .i64 4), dv (.int .i64 4))]) [] rfl 0 1 rfl rfl rfl rfl rfl rfl rfl rfl rfl ⟨.inl ⟨rfl, rfl⟩, ⟨.inl ⟨rfl, rfl⟩, ⟨.inl ⟨rfl, rfl⟩, trivial⟩⟩⟩ rfl (fun b hb => by cases hb) (.inl rfl) (lt_of rfl) ⟨rfl, trivial⟩)] (by kernel_rfl) (by kernel_rfl) ?_
  refine nT ?_
  refine T.ret ?_
  exact tE (.inl rfl) [.t 4 (.one (.own 0 kU8.sz 0 (b ++ (spellB (cntN n) 4)).length))] ⟨⟨rfl, by kernel_rfl⟩, trivial⟩ [0] (by have e1 : ((b ++ cntB n).length : Nat) = (b ++ (spellB (cntN n) 4)).length := (by first | rfl | (simp; done)); have hE := congrArg (fun (q1 : Nat) => (ownV 0 kU8 0 q1 : AV)) e1; exact hE) rfl rfl rfl rfl rfl ⟨⟨rfl, (by have e1 : (b ++ (spellB (cntN n) 4) : List UInt8) = b ++ cntB n := (by first | rfl | (simp; done)); have hE := congrArg (fun (q1 : List UInt8) => (.live (arrK 5 kU8 q1) : HS)) e1; exact Eq.trans (by kernel_rfl) hE)⟩, trivial⟩

-- quaestor/quaestorref01.Bytes
theorem ref01_Bytes (tb : Bool) (nb : Bool) (b : List UInt8) (tx : Bool) (nx : Bool) (x : List UInt8) (hb : b.length + x.length ≤ 140737488355000) : Holds Try.prog 30 ⟨[slV tb nb kU8 b, slV tx nx kU8 x], [], ownV 0 kU8 0 (b ++ bytesB x).length, [.live (arrK 5 kU8 (b ++ bytesB x))]⟩ := by
  refine Holds.of Try.func30 rfl (N := 13) Try.ntmps30 rfl fun w0 B0 S0 U0 => ?_
  show T _ (mkBase 13 0 w0 S0 U0 B0) ⟨[slV tb nb kU8 b, slV tx nx kU8 x], []⟩ _ _
  have hcl := cnt_len ((x.length : Nat) : Int)
  refine T.seq ?_
  refine xR [] (by kernel_rfl) (by kernel_rfl) ?_
  refine nT ?_
  refine T.seq ?_
  refine xR [hR 3 rfl rfl (r_call (ref01_Count tb nb b ((x.length : Nat) : Int) (by first | assumption | omega | (unfold maxLen; omega) | (simp [maxLen, -List.getD_eq_getElem?_getD] <;> omega) | decide)) Try.func51 rfl (by decide) [0] [] (l := [(.tmp 6, slV tb nb kU8 b), (.tmp 8, dv (.int .i64 ((x.length : Nat) : Int)))]) [] rfl 0 1 rfl rfl rfl rfl rfl rfl rfl rfl rfl ⟨.inl ⟨rfl, rfl⟩, ⟨.inl ⟨rfl, rfl⟩, trivial⟩⟩ rfl (fun b hb => by cases hb) (.inl rfl) (lt_of rfl) trivial)] (by kernel_rfl) (by kernel_rfl) ?_
  refine nT ?_
  refine T.seq ?_
  refine xR [hR 2 rfl rfl (q_appendO 0 1 5 1 kU8 kU8_ok (b ++ cntB ((x.length : Nat) : Int)) x (b ++ cntB ((x.length : Nat) : Int) ++ x) (b ++ cntB ((x.length : Nat) : Int)).length (sy := (.d (dsl tx nx kU8 x))) (rhs := []) elem_29 (by first | assumption | omega | (unfold maxLen; omega) | (simp [maxLen, -List.getD_eq_getElem?_getD] <;> omega) | decide) (src_sl tx nx kU8 x) (by rw [List.take_length]) (by first | assumption | omega | (unfold maxLen; omega) | (simp [maxLen, -List.getD_eq_getElem?_getD] <;> omega) | decide) (by first | assumption | omega | (unfold maxLen; omega) | (simp [maxLen, -List.getD_eq_getElem?_getD] <;> omega) | decide) (lt_of rfl) trivial)] (by kernel_rfl) (by kernel_rfl) ?_
  refine nT ?_
  refine T.ret ?_
  exact tE (.inl rfl) [.t 4 (.one (.own 1 kU8.sz 0 (b ++ cntB ((x.length : Nat) : Int) ++ x).length))] ⟨⟨rfl, by kernel_rfl⟩, trivial⟩ [1] (by have e1 : ((b ++ bytesB x).length : Nat) = (b ++ cntB ((x.length : Nat) : Int) ++ x).length := (by first | rfl | (simp only [bytesB, List.append_assoc])); have hE := congrArg (fun (q1 : Nat) => (ownV 1 kU8 0 q1 : AV)) e1; exact hE) rfl rfl rfl rfl rfl ⟨⟨rfl, (by have e1 : (b ++ cntB ((x.length : Nat) : Int) ++ x : List UInt8) = b ++ bytesB x := (by first | rfl | (simp only [bytesB, List.append_assoc])); have hE := congrArg (fun (q1 : List UInt8) => (.live (arrK 5 kU8 q1) : HS)) e1; exact Eq.trans (by kernel_rfl) hE)⟩, trivial⟩
end Go.Proofs.Ytacikihlgpnjhaa.Q
