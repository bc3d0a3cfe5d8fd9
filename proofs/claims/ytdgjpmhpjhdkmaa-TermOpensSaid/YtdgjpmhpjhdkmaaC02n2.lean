import Derived.Test.YtdgjpmhpjhdkmaaC02n1
namespace Go.Proofs.Ytdgjpmhpjhdkmaa.Q
open Go Go.RowKit
set_option linter.unusedVariables false
set_option linter.unusedSimpArgs false
set_option maxRecDepth 100000
set_option maxHeartbeats 4000000
-- quaestor/quaestorref01.Bytes
theorem ref01_Bytes (tb : Bool) (nb : Bool) (b : List UInt8) (tx : Bool) (nx : Bool) (x : List UInt8) (hb : b.length + x.length ≤ 140737488355000) : Holds Try.prog 25 ⟨[slV tb nb kU8 b, slV tx nx kU8 x], [], ownV 0 kU8 0 (b ++ bytesB x).length, [.live (arrK 5 kU8 (b ++ bytesB x))]⟩ := by
  refine Holds.of Try.func25 rfl (N := 13) Try.ntmps25 rfl fun w0 B0 S0 U0 => ?_
  show T _ (mkBase 13 0 w0 S0 U0 B0) ⟨[slV tb nb kU8 b, slV tx nx kU8 x], []⟩ _ _
  have hcl := cnt_len ((x.length : Nat) : Int)
  refine T.seq ?_
  refine tR (s1 := ⟨[slV tb nb kU8 b, slV tx nx kU8 x, AV.any, AV.any, dv (.slice none 0 0)], []⟩) [true, true, false, false, true] []
    (oC (oS rfl rfl (r_assign (av := dv (.slice none 0 0)) (lt_of rfl) ⟨rfl, trivial⟩)) (oZ rfl))
    (by kernel_rfl) (by kernel_rfl) ?_
  refine nT ?_
  refine T.seq ?_
  refine tR (s1 := ⟨[slV tb nb kU8 b, slV tx nx kU8 x, AV.any, AV.any, dv (.slice none 0 0), ownV 0 kU8 0 (b ++ cntB ((x.length : Nat) : Int)).length], [.live (arrK 5 kU8 (b ++ cntB ((x.length : Nat) : Int)))]⟩) [true, true, false, false, true, true] [true]
    (oC (oS rfl rfl (r_move (av := slV tb nb kU8 b) (lt_of rfl) trivial))
    (oC (oS rfl rfl (r_move (av := slV tx nx kU8 x) (lt_of rfl) trivial))
    (oC (oS rfl rfl (q_len tx nx kU8 x Try.underlying37 (lt_of rfl) trivial))
    (oC (oS rfl rfl (r_call (ref01_Count tb nb b ((x.length : Nat) : Int) (by first | assumption | omega | (simp only [maxLen, kU8_sz, kSl_sz, k_arr_2_uint8_sz, k_arr_2_api_Digest_sz]; omega) | (simp only [maxLen, kU8_sz, kSl_sz, k_arr_2_uint8_sz, k_arr_2_api_Digest_sz, List.length_append, List.length_cons, List.length_nil, List.length_take, List.length_drop, List.length_set]; omega) | decide)) Try.func24 rfl (by decide) [0] [] (l := [(.tmp 6, slV tb nb kU8 b), (.tmp 8, dv (.int .i64 ((x.length : Nat) : Int)))]) [] rfl 0 1 rfl rfl rfl rfl rfl rfl rfl rfl rfl ⟨.inl ⟨rfl, rfl⟩, ⟨.inl ⟨rfl, rfl⟩, trivial⟩⟩ rfl (fun b hb => by cases hb) (.inl rfl) (lt_of rfl) trivial))
    (oC (oS rfl rfl (r_assign (av := ownV 0 kU8 0 (b ++ cntB ((x.length : Nat) : Int)).length) (lt_of rfl) trivial)) (oZ rfl))))))
    (by kernel_rfl) (by kernel_rfl) ?_
  refine nT ?_
  refine T.seq ?_
  refine tR (s1 := ⟨[slV tb nb kU8 b, slV tx nx kU8 x, AV.any, AV.any, ownV 1 kU8 0 (b ++ cntB ((x.length : Nat) : Int) ++ x).length, ownV 0 kU8 0 (b ++ cntB ((x.length : Nat) : Int)).length], [.dead, .live (arrK 5 kU8 (b ++ cntB ((x.length : Nat) : Int) ++ x))]⟩) [true, true, false, false, true, true] [true, true]
    (oC (oS rfl rfl (r_move (av := ownV 0 kU8 0 (b ++ cntB ((x.length : Nat) : Int)).length) (lt_of rfl) trivial))
    (oC (oS rfl rfl (r_move (av := slV tx nx kU8 x) (lt_of rfl) trivial))
    (oC (oS rfl rfl (q_appendO 0 1 5 1 kU8 kU8_ok (b ++ cntB ((x.length : Nat) : Int)) x (b ++ cntB ((x.length : Nat) : Int) ++ x) (b ++ cntB ((x.length : Nat) : Int)).length (sy := (.d (dsl tx nx kU8 x))) (rhs := []) elem_37 (by first | assumption | omega | (simp only [maxLen, kU8_sz, kSl_sz, k_arr_2_uint8_sz, k_arr_2_api_Digest_sz]; omega) | (simp only [maxLen, kU8_sz, kSl_sz, k_arr_2_uint8_sz, k_arr_2_api_Digest_sz, List.length_append, List.length_cons, List.length_nil, List.length_take, List.length_drop, List.length_set]; omega) | decide) (src_sl tx nx kU8 x) (by rw [List.take_length]) (by first | assumption | omega | (simp only [maxLen, kU8_sz, kSl_sz, k_arr_2_uint8_sz, k_arr_2_api_Digest_sz]; omega) | (simp only [maxLen, kU8_sz, kSl_sz, k_arr_2_uint8_sz, k_arr_2_api_Digest_sz, List.length_append, List.length_cons, List.length_nil, List.length_take, List.length_drop, List.length_set]; omega) | decide) (by first | assumption | omega | (simp only [maxLen, kU8_sz, kSl_sz, k_arr_2_uint8_sz, k_arr_2_api_Digest_sz]; omega) | (simp only [maxLen, kU8_sz, kSl_sz, k_arr_2_uint8_sz, k_arr_2_api_Digest_sz, List.length_append, List.length_cons, List.length_nil, List.length_take, List.length_drop, List.length_set]; omega) | decide) (lt_of rfl) trivial))
    (oC (oS rfl rfl (r_assign (av := ownV 1 kU8 0 (b ++ cntB ((x.length : Nat) : Int) ++ x).length) (lt_of rfl) trivial)) (oZ rfl)))))
    (by kernel_rfl) (by kernel_rfl) ?_
  refine nT ?_
  refine T.ret ?_
  exact tE (.inl rfl) [.t 4 (.one (.own 1 kU8.sz 0 (b ++ cntB ((x.length : Nat) : Int) ++ x).length))] ⟨⟨rfl, rfl⟩, trivial⟩ [1] (by have e1 : ((b ++ bytesB x).length : Nat) = (b ++ cntB ((x.length : Nat) : Int) ++ x).length := (by first | rfl | (simp only [bytesB, List.append_assoc])); have hE := congrArg (fun (q1 : Nat) => (ownV 1 kU8 0 q1 : AV)) e1; exact hE) rfl rfl rfl rfl rfl ⟨⟨rfl, (by have e1 : (b ++ cntB ((x.length : Nat) : Int) ++ x : List UInt8) = b ++ bytesB x := (by first | rfl | (simp only [bytesB, List.append_assoc])); have hE := congrArg (fun (q1 : List UInt8) => (.live (arrK 5 kU8 q1) : HS)) e1; exact hE)⟩, trivial⟩

theorem wide_5 : Wide Try.prog 5 none := ⟨_, Try.underlying5, (fun _ h => by cases h), (fun _ _ h => by cases h)⟩
-- quaestor/wire.number
theorem wire_number (tb : Bool) (nb : Bool) (b : List UInt8) (hb : b.length ≤ 8) : Holds Try.prog 39 ⟨[slV tb nb kU8 b], [], dv (.int .u64 ((numL b : Nat) : Int)), []⟩ := by
  refine Holds.of Try.func39 rfl (N := 18) Try.ntmps39 rfl fun w0 B0 S0 U0 => ?_
  show T _ (mkBase 18 0 w0 S0 U0 B0) ⟨[slV tb nb kU8 b], []⟩ _ _
  refine T.seq ?_
  refine tR (s1 := ⟨[slV tb nb kU8 b, AV.any, dv (.int .u64 0)], []⟩) [true, false, true] []
    (oC (oS rfl rfl (r_assign (av := dv (.int .u64 0)) (lt_of rfl) ⟨rfl, trivial⟩)) (oZ rfl))
    (by kernel_rfl) (by kernel_rfl) ?_
  refine nT ?_
  refine T.seq ?_
  refine T.seq ?_
  refine tR (s1 := ⟨[slV tb nb kU8 b, AV.any, dv (.int .u64 0), AV.any, AV.any, slV tb nb kU8 b, dv (.int .i64 ((b.length : Nat) : Int)), dv (.int .i64 0)], []⟩) [true, false, true, false, false, true, true, true] []
    (oC (oS rfl rfl (r_move (av := slV tb nb kU8 b) (lt_of rfl) trivial))
    (oC (oS rfl rfl (q_len tb nb kU8 b Try.underlying37 (lt_of rfl) trivial))
    (oC (oS rfl rfl (r_move (av := dv (.int .i64 0)) (lt_of rfl) ⟨rfl, trivial⟩)) (oZ rfl))))
    (by kernel_rfl) (by kernel_rfl) ?_
  refine nT ?_
  refine T.block ?_
  refine T.loop (ι := Nat) (fun (k : Nat) => ⟨[slV tb nb kU8 b, AV.any, dv (.int .u64 ((numL (b.take k) : Nat) : Int)), AV.any, AV.any, slV tb nb kU8 b, dv (.int .i64 ((b.length : Nat) : Int)), dv (.int .i64 ((k : Nat) : Int))], []⟩) (fun (k : Nat) => (k ≤ b.length)) (fun (k : Nat) => b.length - k) (0) (Nat.zero_le _) (fun _ _ hG => Gs.into2 (s := ⟨[slV tb nb kU8 b, AV.any, dv (.int .u64 0), AV.any, AV.any, slV tb nb kU8 b, dv (.int .i64 ((b.length : Nat) : Int)), dv (.int .i64 0)], []⟩) (s' := ⟨[slV tb nb kU8 b, AV.any, dv (.int .u64 ((numL (b.take 0) : Nat) : Int)), AV.any, AV.any, slV tb nb kU8 b, dv (.int .i64 ((b.length : Nat) : Int)), dv (.int .i64 0)], []⟩) [] [true, false, true, false, false, true, true, true] (t1 := [slV tb nb kU8 b, AV.any, dv (.int .u64 ((numL (b.take 0) : Nat) : Int)), AV.any, AV.any, slV tb nb kU8 b, dv (.int .i64 ((b.length : Nat) : Int)), dv (.int .i64 0)]) (t2 := [slV tb nb kU8 b, AV.any, dv (.int .u64 0), AV.any, AV.any, slV tb nb kU8 b, dv (.int .i64 ((b.length : Nat) : Int)), dv (.int .i64 0)]) (h1 := []) (h2 := []) (by have e1 : (((numL (b.take 0) : Nat) : Int) : Int) = 0 := (by rfl); have hE := congrArg (fun (q1 : Int) => ([slV tb nb kU8 b, AV.any, dv (.int .u64 q1), AV.any, AV.any, slV tb nb kU8 b, dv (.int .i64 ((b.length : Nat) : Int)), dv (.int .i64 0)] : List AV)) e1; exact hE) rfl (by kernel_rfl) (by kernel_rfl) (by kernel_rfl) (by kernel_rfl) (by kernel_rfl) (by kernel_rfl) (by kernel_rfl) (by kernel_rfl) (by kernel_rfl) (by kernel_rfl) (by kernel_rfl) hG) ?_
  rintro k hk
  show T _ _ ⟨[slV tb nb kU8 b, AV.any, dv (.int .u64 ((numL (b.take k) : Nat) : Int)), AV.any, AV.any, slV tb nb kU8 b, dv (.int .i64 ((b.length : Nat) : Int)), dv (.int .i64 ((k : Nat) : Int))], []⟩ _ _
  replace hk : k ≤ b.length := hk
  have hk8 : numL (b.take k) < 18446744073709551616 := numL_lt8 (by simp only [List.length_take]; omega)
  refine T.seq ?_
  refine tR (s1 := ⟨[slV tb nb kU8 b, AV.any, dv (.int .u64 ((numL (b.take k) : Nat) : Int)), AV.any, AV.any, slV tb nb kU8 b, dv (.int .i64 ((b.length : Nat) : Int)), dv (.int .i64 ((k : Nat) : Int)), dv (.bool (decide (((k : Nat) : Int) < ((b.length : Nat) : Int))))], []⟩) [true, false, true, false, false, true, true, true, true] []
    (oC (oS rfl rfl (r_bin (u1 := .int .i64 ((k : Nat) : Int)) (u2 := .int .i64 ((b.length : Nat) : Int)) (v := .bool (decide (((k : Nat) : Int) < ((b.length : Nat) : Int)))) b_lss (lt_of rfl) trivial)) (oZ rfl))
    (by kernel_rfl) (by kernel_rfl) ?_
  refine nT ?_
  refine T.seq ?_
  by_cases hq1 : ((k : Nat) : Int) < ((b.length : Nat) : Int)
  · have hk7 : numL (b.take k) < 72057594037927936 := numL_lt7 (by simp only [List.length_take]; omega); have hbt := UInt8.toNat_lt (b.getD k 0)
    refine T.condT (b := (decide (((k : Nat) : Int) < ((b.length : Nat) : Int)))) rfl (decide_eq_true hq1) ?_
    refine T.skip ?_
    refine nT ?_
    refine T.seq ?_
    refine T.block ?_
    refine T.seq ?_
    refine tR (s1 := ⟨[slV tb nb kU8 b, AV.any, dv (.int .u64 ((numL (b.take k) : Nat) : Int)), AV.any, dv (.int .u8 (((b.getD k 0).toNat : Nat) : Int)), slV tb nb kU8 b, dv (.int .i64 ((b.length : Nat) : Int)), dv (.int .i64 ((k : Nat) : Int)), dv (.bool (decide (((k : Nat) : Int) < ((b.length : Nat) : Int))))], []⟩) [true, false, true, false, true, true, true, true, true] []
      (oC (oS rfl rfl (q_index tb nb kU8 b k (k := .i64) (i := ((k : Nat) : Int)) Try.underlying37 iat_5 rfl rfl (by first | assumption | omega | (simp only [maxLen, kU8_sz, kSl_sz, k_arr_2_uint8_sz, k_arr_2_api_Digest_sz]; omega) | (simp only [maxLen, kU8_sz, kSl_sz, k_arr_2_uint8_sz, k_arr_2_api_Digest_sz, List.length_append, List.length_cons, List.length_nil, List.length_take, List.length_drop, List.length_set]; omega) | decide) (lt_of rfl) trivial))
      (oC (oS rfl rfl (r_loadE (tag := tb) (n := 1) (el := kU8.cell (b.getD k kU8.z)) (e0 := .val (.int .u8 (((b.getD k 0).toNat : Nat) : Int))) wide_5 (by decide) rfl (lt_of rfl) trivial))
      (oC (oS rfl rfl (r_assign (av := dv (.int .u8 (((b.getD k 0).toNat : Nat) : Int))) (lt_of rfl) trivial)) (oZ rfl))))
      (by kernel_rfl) (by kernel_rfl) ?_
    refine nT ?_
    refine tR (s1 := ⟨[slV tb nb kU8 b, AV.any, dv (.int .u64 ((((numL (b.take k)) * 2 ^ 8) ||| (b.getD k 0).toNat : Nat) : Int)), AV.any, dv (.int .u8 (((b.getD k 0).toNat : Nat) : Int)), slV tb nb kU8 b, dv (.int .i64 ((b.length : Nat) : Int)), dv (.int .i64 ((k : Nat) : Int)), dv (.bool (decide (((k : Nat) : Int) < ((b.length : Nat) : Int))))], []⟩) [true, false, true, false, true, true, true, true, true] []
      (oC (oS rfl rfl (r_move (av := dv (.int .u64 ((numL (b.take k) : Nat) : Int))) (lt_of rfl) trivial))
      (oC (oS rfl rfl (r_bin (u1 := .int .u64 ((numL (b.take k) : Nat) : Int)) (u2 := .int .u64 8) (v := .int .u64 (((numL (b.take k)) * 2 ^ 8 : Nat) : Int)) (b_shlN (n := 8) rfl (Nat.le_trans (by first | assumption | omega | (simp only [maxLen, kU8_sz, kSl_sz, k_arr_2_uint8_sz, k_arr_2_api_Digest_sz]; omega) | (simp only [maxLen, kU8_sz, kSl_sz, k_arr_2_uint8_sz, k_arr_2_api_Digest_sz, List.length_append, List.length_cons, List.length_nil, List.length_take, List.length_drop, List.length_set]; omega) | decide) (by decide : 64 ≤ _)) (by first | rfl | (rw [IntKind.wrap_u64]; omega))) (lt_of rfl) ⟨rfl, trivial⟩))
      (oC (oS rfl rfl (r_move (av := dv (.int .u8 (((b.getD k 0).toNat : Nat) : Int))) (lt_of rfl) trivial))
      (oC (oS rfl rfl (r_conv (u := .int .u8 (((b.getD k 0).toNat : Nat) : Int)) (v := .int .u64 (((b.getD k 0).toNat : Nat) : Int)) (c_int Try.underlying5 Try.underlying56 (by first | rfl | (rw [IntKind.wrap_u64]; omega))) (lt_of rfl) trivial))
      (oC (oS rfl rfl (r_bin (u1 := .int .u64 (((numL (b.take k)) * 2 ^ 8 : Nat) : Int)) (u2 := .int .u64 (((b.getD k 0).toNat : Nat) : Int)) (v := .int .u64 ((((numL (b.take k)) * 2 ^ 8) ||| (b.getD k 0).toNat : Nat) : Int)) (b_orU (by first | assumption | omega | (simp only [maxLen, kU8_sz, kSl_sz, k_arr_2_uint8_sz, k_arr_2_api_Digest_sz]; omega) | (simp only [maxLen, kU8_sz, kSl_sz, k_arr_2_uint8_sz, k_arr_2_api_Digest_sz, List.length_append, List.length_cons, List.length_nil, List.length_take, List.length_drop, List.length_set]; omega) | decide) (by first | assumption | omega | (simp only [maxLen, kU8_sz, kSl_sz, k_arr_2_uint8_sz, k_arr_2_api_Digest_sz]; omega) | (simp only [maxLen, kU8_sz, kSl_sz, k_arr_2_uint8_sz, k_arr_2_api_Digest_sz, List.length_append, List.length_cons, List.length_nil, List.length_take, List.length_drop, List.length_set]; omega) | decide)) (lt_of rfl) trivial))
      (oC (oS rfl rfl (r_assign (av := dv (.int .u64 ((((numL (b.take k)) * 2 ^ 8) ||| (b.getD k 0).toNat : Nat) : Int))) (lt_of rfl) trivial)) (oZ rfl)))))))
      (by kernel_rfl) (by kernel_rfl) ?_
    refine nB ?_
    refine nT ?_
    refine tR (s1 := ⟨[slV tb nb kU8 b, AV.any, dv (.int .u64 ((((numL (b.take k)) * 2 ^ 8) ||| (b.getD k 0).toNat : Nat) : Int)), AV.any, dv (.int .u8 (((b.getD k 0).toNat : Nat) : Int)), slV tb nb kU8 b, dv (.int .i64 ((b.length : Nat) : Int)), dv (.int .i64 ((k + 1 : Nat) : Int)), dv (.bool (decide (((k : Nat) : Int) < ((b.length : Nat) : Int))))], []⟩) [true, false, true, false, true, true, true, true, true] []
      (oC (oS rfl rfl (r_bin (u1 := .int .i64 ((k : Nat) : Int)) (u2 := .int .i64 1) (v := .int .i64 ((k + 1 : Nat) : Int)) (b_add (by rw [IntKind.wrap_i64]; omega)) (lt_of rfl) ⟨rfl, trivial⟩))
      (oC (oS rfl rfl (r_move (av := dv (.int .i64 ((k + 1 : Nat) : Int))) (lt_of rfl) trivial)) (oZ rfl)))
      (by kernel_rfl) (by kernel_rfl) ?_
    refine nL (k + 1) (show (k + 1) ≤ b.length from (by omega)) (show (b.length - (k + 1) : Nat) < b.length - k from (by omega)) (fun _ _ hG => Gs.into2 (s := ⟨[slV tb nb kU8 b, AV.any, dv (.int .u64 ((((numL (b.take k)) * 2 ^ 8) ||| (b.getD k 0).toNat : Nat) : Int)), AV.any, dv (.int .u8 (((b.getD k 0).toNat : Nat) : Int)), slV tb nb kU8 b, dv (.int .i64 ((b.length : Nat) : Int)), dv (.int .i64 ((k + 1 : Nat) : Int)), dv (.bool (decide (((k : Nat) : Int) < ((b.length : Nat) : Int))))], []⟩) (s' := ⟨[slV tb nb kU8 b, AV.any, dv (.int .u64 ((numL (b.take (k + 1)) : Nat) : Int)), AV.any, AV.any, slV tb nb kU8 b, dv (.int .i64 ((b.length : Nat) : Int)), dv (.int .i64 ((k + 1 : Nat) : Int))], []⟩) [] [true, false, true, false, false, true, true, true] (t1 := [slV tb nb kU8 b, AV.any, dv (.int .u64 ((numL (b.take (k + 1)) : Nat) : Int)), AV.any, AV.any, slV tb nb kU8 b, dv (.int .i64 ((b.length : Nat) : Int)), dv (.int .i64 ((k + 1 : Nat) : Int))]) (t2 := [slV tb nb kU8 b, AV.any, dv (.int .u64 ((((numL (b.take k)) * 2 ^ 8) ||| (b.getD k 0).toNat : Nat) : Int)), AV.any, AV.any, slV tb nb kU8 b, dv (.int .i64 ((b.length : Nat) : Int)), dv (.int .i64 ((k + 1 : Nat) : Int))]) (h1 := []) (h2 := []) (by have e1 : (((numL (b.take (k + 1)) : Nat) : Int) : Int) = ((((numL (b.take k)) * 2 ^ 8) ||| (b.getD k 0).toNat : Nat) : Int) := (by first | rfl | (rw [numL_take (by omega)])); have hE := congrArg (fun (q1 : Int) => ([slV tb nb kU8 b, AV.any, dv (.int .u64 q1), AV.any, AV.any, slV tb nb kU8 b, dv (.int .i64 ((b.length : Nat) : Int)), dv (.int .i64 ((k + 1 : Nat) : Int))] : List AV)) e1; exact hE) rfl (by kernel_rfl) (by kernel_rfl) (by kernel_rfl) (by kernel_rfl) (by kernel_rfl) (by kernel_rfl) (by kernel_rfl) (by kernel_rfl) (by kernel_rfl) (by kernel_rfl) (by kernel_rfl) hG)
  · refine T.condF (b := (decide (((k : Nat) : Int) < ((b.length : Nat) : Int)))) rfl (decide_eq_false hq1) ?_
    refine T.exit ?_
    refine xT ?_
    refine xT ?_
    refine xH ?_
    refine nT ?_
    refine T.seq ?_
    refine tR (s1 := ⟨[slV tb nb kU8 b, AV.any, dv (.int .u64 ((numL (b.take k) : Nat) : Int)), AV.any, AV.any, slV tb nb kU8 b, dv (.int .i64 ((b.length : Nat) : Int)), dv (.int .i64 ((k : Nat) : Int)), dv (.bool (decide (((k : Nat) : Int) < ((b.length : Nat) : Int))))], []⟩) [true, false, true, false, false, true, true, true, true] []
      (oC (oS rfl rfl (r_move (av := dv (.int .u64 ((numL (b.take k) : Nat) : Int))) (lt_of rfl) trivial))
      (oC (oS rfl rfl (r_assign (av := dv (.int .u64 ((numL (b.take k) : Nat) : Int))) (lt_of rfl) trivial)) (oZ rfl)))
      (by kernel_rfl) (by kernel_rfl) ?_
    refine nT ?_
    refine T.ret ?_
    exact tE (.inl rfl) [.t 2 (.one (.d (.val (.int .u64 ((numL (b.take k) : Nat) : Int)))))] ⟨⟨rfl, rfl⟩, trivial⟩ [] (by have e1 : (((numL b : Nat) : Int) : Int) = ((numL (b.take k) : Nat) : Int) := (by first | rfl | (rw [List.take_of_length_le (by omega)])); have hE := congrArg (fun (q1 : Int) => (dv (.int .u64 q1) : AV)) e1; exact hE) rfl rfl rfl rfl rfl trivial

-- quaestor/wire.any
theorem wire_any (tb : Bool) (nb : Bool) (b : List UInt8) : Holds Try.prog 40 ⟨[slV tb nb kU8 b], [], dv (.int .i64 0), []⟩ := by
  refine Holds.of Try.func40 rfl (N := 3) Try.ntmps40 rfl fun w0 B0 S0 U0 => ?_
  show T _ (mkBase 3 0 w0 S0 U0 B0) ⟨[slV tb nb kU8 b], []⟩ _ _
  refine T.seq ?_
  refine tR (s1 := ⟨[AV.any, AV.any, dv (.int .i64 0)], []⟩) [false, false, true] []
    (oC (oS rfl rfl (r_assign (av := dv (.int .i64 0)) (lt_of rfl) ⟨rfl, trivial⟩)) (oZ rfl))
    (by kernel_rfl) (by kernel_rfl) ?_
  refine nT ?_
  refine T.seq ?_
  refine tR (s1 := ⟨[AV.any, AV.any, dv (.int .i64 0)], []⟩) [false, false, true] []
    (oC (oS rfl rfl (r_assign (av := dv (.int .i64 0)) (lt_of rfl) ⟨rfl, trivial⟩)) (oZ rfl))
    (by kernel_rfl) (by kernel_rfl) ?_
  refine nT ?_
  refine T.ret ?_
  exact tE (.inl rfl) [.t 2 (.one (.d (.val (.int .i64 0))))] ⟨⟨rfl, rfl⟩, trivial⟩ [] rfl rfl rfl rfl rfl rfl trivial

-- (quaestor/wire.limit).may
theorem wire_may (most : Int) (tb : Bool) (nb : Bool) (b : List UInt8) (hb : b.length ≤ 4) : Holds Try.prog 38 ⟨[dv (.int .i64 most), slV tb nb kU8 b], [], dv (.int .i64 (limE most b)), []⟩ := by
  refine Holds.of Try.func38 rfl (N := 11) Try.ntmps38 rfl fun w0 B0 S0 U0 => ?_
  show T _ (mkBase 11 0 w0 S0 U0 B0) ⟨[dv (.int .i64 most), slV tb nb kU8 b], []⟩ _ _
  have hnb := numL_lt4 hb
  refine T.seq ?_
  refine tR (s1 := ⟨[dv (.int .i64 most), slV tb nb kU8 b, AV.any, AV.any, dv (.int .i64 0)], []⟩) [true, true, false, false, true] []
    (oC (oS rfl rfl (r_assign (av := dv (.int .i64 0)) (lt_of rfl) ⟨rfl, trivial⟩)) (oZ rfl))
    (by kernel_rfl) (by kernel_rfl) ?_
  refine nT ?_
  refine T.seq ?_
  refine T.seq ?_
  refine tR (s1 := ⟨[dv (.int .i64 most), slV tb nb kU8 b, AV.any, AV.any, dv (.int .i64 0), AV.any, AV.any, AV.any, AV.any, AV.any, dv (.bool (decide (((numL b : Nat) : Int) > (max most 0))))], []⟩) [true, true, false, false, true, false, false, false, false, false, true] []
    (oC (oS rfl rfl (r_move (av := slV tb nb kU8 b) (lt_of rfl) trivial))
    (oC (oS rfl rfl (r_call (wire_number tb nb b (by first | assumption | omega | (simp only [maxLen, kU8_sz, kSl_sz, k_arr_2_uint8_sz, k_arr_2_api_Digest_sz]; omega) | (simp only [maxLen, kU8_sz, kSl_sz, k_arr_2_uint8_sz, k_arr_2_api_Digest_sz, List.length_append, List.length_cons, List.length_nil, List.length_take, List.length_drop, List.length_set]; omega) | decide)) Try.func39 rfl (by decide) [] [] (l := [(.tmp 5, slV tb nb kU8 b)]) [] rfl 0 0 rfl rfl rfl rfl rfl rfl rfl rfl rfl ⟨.inl ⟨rfl, rfl⟩, trivial⟩ rfl (fun b hb => by cases hb) (.inl rfl) (lt_of rfl) trivial))
    (oC (oS rfl rfl (r_conv (u := .int .u64 ((numL b : Nat) : Int)) (v := .int .i64 ((numL b : Nat) : Int)) (c_int Try.underlying56 Try.underlying3 (by rw [IntKind.wrap_i64]; omega)) (lt_of rfl) trivial))
    (oC (oS rfl rfl (r_move (av := dv (.int .i64 most)) (lt_of rfl) trivial))
    (oC (oS rfl rfl (r_max (k := .i64) (a := most) (b := 0) (lt_of rfl) ⟨rfl, trivial⟩))
    (oC (oS rfl rfl (r_bin (u1 := .int .i64 ((numL b : Nat) : Int)) (u2 := .int .i64 (max most 0)) (v := .bool (decide (((numL b : Nat) : Int) > (max most 0)))) b_gtr (lt_of rfl) trivial)) (oZ rfl)))))))
    (by kernel_rfl) (by kernel_rfl) ?_
  refine nT ?_
  by_cases hq1 : ((numL b : Nat) : Int) > (max most 0)
  · refine T.condT (b := (decide (((numL b : Nat) : Int) > (max most 0)))) rfl (decide_eq_true hq1) ?_
    refine T.seq ?_
    refine tR (s1 := ⟨[dv (.int .i64 most), slV tb nb kU8 b, AV.any, AV.any, dv (.int .i64 11), AV.any, AV.any, AV.any, AV.any, AV.any, dv (.bool (decide (((numL b : Nat) : Int) > (max most 0))))], []⟩) [true, true, false, false, true, false, false, false, false, false, true] []
      (oC (oS rfl rfl (r_assign (av := dv (.int .i64 11)) (lt_of rfl) ⟨rfl, trivial⟩)) (oZ rfl))
      (by kernel_rfl) (by kernel_rfl) ?_
    refine nT ?_
    refine T.ret ?_
    refine rT ?_
    exact tE (.inl rfl) [.t 4 (.one (.d (.val (.int .i64 11))))] ⟨⟨rfl, rfl⟩, trivial⟩ [] (by have e1 : (limE most b : Int) = 11 := (by first | rfl | (simp only [limE]; first | rw [if_pos (by assumption)] | rw [if_neg (by assumption)])); have hE := congrArg (fun (q1 : Int) => (dv (.int .i64 q1) : AV)) e1; exact hE) rfl rfl rfl rfl rfl trivial
  · refine T.condF (b := (decide (((numL b : Nat) : Int) > (max most 0)))) rfl (decide_eq_false hq1) ?_
    refine T.skip ?_
    refine nT ?_
    refine T.seq ?_
    refine tR (s1 := ⟨[dv (.int .i64 most), slV tb nb kU8 b, AV.any, AV.any, dv (.int .i64 0), AV.any, AV.any, AV.any, AV.any, AV.any, dv (.bool (decide (((numL b : Nat) : Int) > (max most 0))))], []⟩) [true, true, false, false, true, false, false, false, false, false, true] []
      (oC (oS rfl rfl (r_assign (av := dv (.int .i64 0)) (lt_of rfl) ⟨rfl, trivial⟩)) (oZ rfl))
      (by kernel_rfl) (by kernel_rfl) ?_
    refine nT ?_
    refine T.ret ?_
    exact tE (.inl rfl) [.t 4 (.one (.d (.val (.int .i64 0))))] ⟨⟨rfl, rfl⟩, trivial⟩ [] (by have e1 : (limE most b : Int) = 0 := (by first | rfl | (simp only [limE]; first | rw [if_pos (by assumption)] | rw [if_neg (by assumption)])); have hE := congrArg (fun (q1 : Int) => (dv (.int .i64 q1) : AV)) e1; exact hE) rfl rfl rfl rfl rfl trivial
end Go.Proofs.Ytdgjpmhpjhdkmaa.Q
