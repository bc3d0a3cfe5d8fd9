import Derived.Test.YtdgjpmhpjhdkmaaC02n14
namespace Go.Proofs.Ytdgjpmhpjhdkmaa.Q
open Go Go.RowKit
set_option linter.unusedVariables false
set_option linter.unusedSimpArgs false
set_option maxRecDepth 100000
set_option maxHeartbeats 4000000
-- quaestor/quaestorlaw02.TermOpens
theorem law_TermOpens (d : List UInt8) : Holds Try.prog 4 ⟨[dv (strV d)], [], dv (.bool true), []⟩ := by
  refine Holds.of Try.func4 rfl (N := 40) Try.ntmps4 rfl fun w0 B0 S0 U0 => ?_
  show T _ (mkBase 40 0 w0 S0 U0 B0) ⟨[dv (strV d)], []⟩ _ _
  refine T.seq ?_
  refine tR (s1 := ⟨[dv (strV d), AV.any, dv (.bool false)], []⟩) [true, false, true] []
    (oC (oS rfl rfl (r_assign (av := dv (.bool false)) (lt_of rfl) ⟨rfl, trivial⟩)) (oZ rfl))
    (by kernel_rfl) (by kernel_rfl) ?_
  refine nT ?_
  refine T.seq ?_
  refine T.seq ?_
  refine tR (s1 := ⟨[dv (strV d), AV.any, dv (.bool false), AV.any, AV.any, AV.any, AV.any, AV.any, AV.any, AV.any, AV.any, dv (.bool (decide (((d.length : Nat) : Int) > 20000)))], []⟩) [true, false, true, false, false, false, false, false, false, false, false, true] []
    (oC (oS rfl rfl (r_move (av := dv (strV d)) (lt_of rfl) trivial))
    (oC (oS rfl rfl (q_lenStr d Try.underlying25 (lt_of rfl) trivial))
    (oC (oS rfl rfl (r_bin (u1 := .int .i64 ((d.length : Nat) : Int)) (u2 := .int .i64 20000) (v := .bool (decide (((d.length : Nat) : Int) > 20000))) b_gtr (lt_of rfl) ⟨rfl, trivial⟩)) (oZ rfl))))
    (by kernel_rfl) (by kernel_rfl) ?_
  refine nT ?_
  by_cases hq1 : ((d.length : Nat) : Int) > 20000
  · refine T.condT (b := (decide (((d.length : Nat) : Int) > 20000))) rfl (decide_eq_true hq1) ?_
    refine T.seq ?_
    refine tR (s1 := ⟨[dv (strV d), AV.any, dv (.bool true), AV.any, AV.any, AV.any, AV.any, AV.any, AV.any, AV.any, AV.any, dv (.bool (decide (((d.length : Nat) : Int) > 20000)))], []⟩) [true, false, true, false, false, false, false, false, false, false, false, true] []
      (oC (oS rfl rfl (r_assign (av := dv (.bool true)) (lt_of rfl) ⟨rfl, trivial⟩)) (oZ rfl))
      (by kernel_rfl) (by kernel_rfl) ?_
    refine nT ?_
    refine T.ret ?_
    refine rT ?_
    exact tE (.inl rfl) [.t 2 (.one (.d (.val (.bool true))))] ⟨⟨rfl, rfl⟩, trivial⟩ [] rfl rfl rfl rfl rfl rfl trivial
  · have hpl : (opP d).length ≤ 9223372036854775807 := opP_len (by omega)
    refine T.condF (b := (decide (((d.length : Nat) : Int) > 20000))) rfl (decide_eq_false hq1) ?_
    refine T.skip ?_
    refine nT ?_
    refine T.seq ?_
    refine tR (s1 := ⟨[dv (strV d), AV.any, dv (.bool false), dv (.int .u8 (((opT d).toNat : Nat) : Int)), slV false false (kSl false kU8) (opP d), dv (.bool (decide (okO d))), AV.any, AV.any, AV.any, AV.any, AV.any, dv (.bool (decide (((d.length : Nat) : Int) > 20000)))], []⟩) [true, false, true, true, true, true, false, false, false, false, false, true] []
      (oC (oS rfl rfl (r_move (av := dv (strV d)) (lt_of rfl) trivial))
      (oC (oS rfl rfl (r_call (term_Open d (by first | assumption | omega | (simp only [maxLen, kU8_sz, kSl_sz, k_arr_2_uint8_sz, k_arr_2_api_Digest_sz]; omega) | (simp only [maxLen, kU8_sz, kSl_sz, k_arr_2_uint8_sz, k_arr_2_api_Digest_sz, List.length_append, List.length_cons, List.length_nil, List.length_take, List.length_drop, List.length_set]; omega) | decide)) Try.func15 rfl (by decide) [] [] (l := [(.tmp 13, dv (strV d))]) [] rfl 0 0 rfl rfl rfl rfl rfl rfl rfl rfl rfl ⟨.inl ⟨rfl, rfl⟩, trivial⟩ rfl (fun b hb => by cases hb) (.inl rfl) (lt_of rfl) trivial))
      (oC (oS rfl rfl (r_move (av := .tup [.one (.d (.val (.int .u8 (((opT d).toNat : Nat) : Int)))), .one (.d (dsl false false (kSl false kU8) (opP d))), .one (.d (.val (.bool (decide (okO d)))))]) (lt_of rfl) trivial))
      (oC (oS rfl rfl (r_extract (l := [.one (.d (.val (.int .u8 (((opT d).toNat : Nat) : Int)))), .one (.d (dsl false false (kSl false kU8) (opP d))), .one (.d (.val (.bool (decide (okO d)))))]) (tv := .one (.d (.val (.int .u8 (((opT d).toNat : Nat) : Int))))) rfl (lt_of rfl) trivial))
      (oC (oS rfl rfl (r_extract (l := [.one (.d (.val (.int .u8 (((opT d).toNat : Nat) : Int)))), .one (.d (dsl false false (kSl false kU8) (opP d))), .one (.d (.val (.bool (decide (okO d)))))]) (tv := .one (.d (dsl false false (kSl false kU8) (opP d)))) rfl (lt_of rfl) trivial))
      (oC (oS rfl rfl (r_extract (l := [.one (.d (.val (.int .u8 (((opT d).toNat : Nat) : Int)))), .one (.d (dsl false false (kSl false kU8) (opP d))), .one (.d (.val (.bool (decide (okO d)))))]) (tv := .one (.d (.val (.bool (decide (okO d)))))) rfl (lt_of rfl) trivial))
      (oC (oS rfl rfl (r_assign (av := dv (.int .u8 (((opT d).toNat : Nat) : Int))) (lt_of rfl) trivial))
      (oC (oS rfl rfl (r_assign (av := slV false false (kSl false kU8) (opP d)) (lt_of rfl) trivial))
      (oC (oS rfl rfl (r_assign (av := dv (.bool (decide (okO d)))) (lt_of rfl) trivial)) (oZ rfl))))))))))
      (by kernel_rfl) (by kernel_rfl) ?_
    refine nT ?_
    refine T.seq ?_
    refine tR (s1 := ⟨[dv (strV d), AV.any, dv (.bool false), dv (.int .u8 (((opT d).toNat : Nat) : Int)), slV false false (kSl false kU8) (opP d), dv (.bool (decide (okO d))), dv (.int .u8 (((opT d).toNat : Nat) : Int)), slV false false (kSl false kU8) (opP d), dv (.bool (decide (okO d))), AV.any, AV.any, dv (.bool (decide (((d.length : Nat) : Int) > 20000)))], []⟩) [true, false, true, true, true, true, true, true, true, false, false, true] []
      (oC (oS rfl rfl (r_move (av := dv (strV d)) (lt_of rfl) trivial))
      (oC (oS rfl rfl (r_call (ref02_Open d (by first | assumption | omega | (simp only [maxLen, kU8_sz, kSl_sz, k_arr_2_uint8_sz, k_arr_2_api_Digest_sz]; omega) | (simp only [maxLen, kU8_sz, kSl_sz, k_arr_2_uint8_sz, k_arr_2_api_Digest_sz, List.length_append, List.length_cons, List.length_nil, List.length_take, List.length_drop, List.length_set]; omega) | decide)) Try.func16 rfl (by decide) [] [] (l := [(.tmp 19, dv (strV d))]) [] rfl 0 0 rfl rfl rfl rfl rfl rfl rfl rfl rfl ⟨.inl ⟨rfl, rfl⟩, trivial⟩ rfl (fun b hb => by cases hb) (.inl rfl) (lt_of rfl) trivial))
      (oC (oS rfl rfl (r_move (av := .tup [.one (.d (.val (.int .u8 (((opT d).toNat : Nat) : Int)))), .one (.d (dsl false false (kSl false kU8) (opP d))), .one (.d (.val (.bool (decide (okO d)))))]) (lt_of rfl) trivial))
      (oC (oS rfl rfl (r_extract (l := [.one (.d (.val (.int .u8 (((opT d).toNat : Nat) : Int)))), .one (.d (dsl false false (kSl false kU8) (opP d))), .one (.d (.val (.bool (decide (okO d)))))]) (tv := .one (.d (.val (.int .u8 (((opT d).toNat : Nat) : Int))))) rfl (lt_of rfl) trivial))
      (oC (oS rfl rfl (r_extract (l := [.one (.d (.val (.int .u8 (((opT d).toNat : Nat) : Int)))), .one (.d (dsl false false (kSl false kU8) (opP d))), .one (.d (.val (.bool (decide (okO d)))))]) (tv := .one (.d (dsl false false (kSl false kU8) (opP d)))) rfl (lt_of rfl) trivial))
      (oC (oS rfl rfl (r_extract (l := [.one (.d (.val (.int .u8 (((opT d).toNat : Nat) : Int)))), .one (.d (dsl false false (kSl false kU8) (opP d))), .one (.d (.val (.bool (decide (okO d)))))]) (tv := .one (.d (.val (.bool (decide (okO d)))))) rfl (lt_of rfl) trivial))
      (oC (oS rfl rfl (r_assign (av := dv (.int .u8 (((opT d).toNat : Nat) : Int))) (lt_of rfl) trivial))
      (oC (oS rfl rfl (r_assign (av := slV false false (kSl false kU8) (opP d)) (lt_of rfl) trivial))
      (oC (oS rfl rfl (r_assign (av := dv (.bool (decide (okO d)))) (lt_of rfl) trivial)) (oZ rfl))))))))))
      (by kernel_rfl) (by kernel_rfl) ?_
    refine nT ?_
    refine T.seq ?_
    refine tR (s1 := ⟨[dv (strV d), AV.any, dv (.bool true), dv (.int .u8 (((opT d).toNat : Nat) : Int)), slV false false (kSl false kU8) (opP d), dv (.bool (decide (okO d))), dv (.int .u8 (((opT d).toNat : Nat) : Int)), slV false false (kSl false kU8) (opP d), dv (.bool (decide (okO d))), AV.any, AV.any, dv (.bool (decide (((d.length : Nat) : Int) > 20000)))], []⟩) [true, false, true, true, true, true, true, true, true, false, false, true] []
      (oC (oS rfl rfl (r_move (av := dv (.int .u8 (((opT d).toNat : Nat) : Int))) (lt_of rfl) trivial))
      (oC (oS rfl rfl (r_move (av := dv (.int .u8 (((opT d).toNat : Nat) : Int))) (lt_of rfl) trivial))
      (oC (oS rfl rfl (r_bin (u1 := .int .u8 (((opT d).toNat : Nat) : Int)) (u2 := .int .u8 (((opT d).toNat : Nat) : Int)) (v := .bool (decide ((((opT d).toNat : Nat) : Int) = (((opT d).toNat : Nat) : Int)))) b_eql (lt_of rfl) trivial))
      (oC (oS rfl rfl (r_move (av := dv (.bool (decide ((((opT d).toNat : Nat) : Int) = (((opT d).toNat : Nat) : Int))))) (lt_of rfl) trivial))
      (oC (oY (b := (decide ((((opT d).toNat : Nat) : Int) = (((opT d).toNat : Nat) : Int)))) rfl rfl rfl rfl (lt_of rfl) (decide_eq_true (Eq.refl _)) (r_move (av := slV false false (kSl false kU8) (opP d)) (lt_of rfl) trivial))
      (oC (oY (b := (decide ((((opT d).toNat : Nat) : Int) = (((opT d).toNat : Nat) : Int)))) rfl rfl rfl rfl (lt_of rfl) (decide_eq_true (Eq.refl _)) (r_move (av := slV false false (kSl false kU8) (opP d)) (lt_of rfl) trivial))
      (oC (oY (b := (decide ((((opT d).toNat : Nat) : Int) = (((opT d).toNat : Nat) : Int)))) rfl rfl rfl rfl (lt_of rfl) (decide_eq_true (Eq.refl _)) (r_call (ref02_Parts false false false false false false (opP d) (opP d) (by first | assumption | omega | (simp only [maxLen, kU8_sz, kSl_sz, k_arr_2_uint8_sz, k_arr_2_api_Digest_sz]; omega) | (simp only [maxLen, kU8_sz, kSl_sz, k_arr_2_uint8_sz, k_arr_2_api_Digest_sz, List.length_append, List.length_cons, List.length_nil, List.length_take, List.length_drop, List.length_set]; omega) | decide)) Try.func13 rfl (by decide) [] [] (l := [(.tmp 28, slV false false (kSl false kU8) (opP d)), (.tmp 29, slV false false (kSl false kU8) (opP d))]) [] rfl 0 0 rfl rfl rfl rfl rfl rfl rfl rfl rfl ⟨.inl ⟨rfl, rfl⟩, ⟨.inl ⟨rfl, rfl⟩, trivial⟩⟩ rfl (fun b hb => by cases hb) (.inl rfl) (lt_of rfl) trivial))
      (oC (oS rfl rfl (r_pickT (b := (decide ((((opT d).toNat : Nat) : Int) = (((opT d).toNat : Nat) : Int)))) (av := dv (.bool (decide ((opP d) = (opP d))))) (lt_of rfl) trivial (decide_eq_true (Eq.refl _))))
      (oC (oS rfl rfl (r_move (av := dv (.bool (decide ((opP d) = (opP d))))) (lt_of rfl) trivial))
      (oC (oY (b := (decide ((opP d) = (opP d)))) rfl rfl rfl rfl (lt_of rfl) (decide_eq_true (Eq.refl _)) (r_move (av := dv (.bool (decide (okO d)))) (lt_of rfl) trivial))
      (oC (oY (b := (decide ((opP d) = (opP d)))) rfl rfl rfl rfl (lt_of rfl) (decide_eq_true (Eq.refl _)) (r_move (av := dv (.bool (decide (okO d)))) (lt_of rfl) trivial))
      (oC (oY (b := (decide ((opP d) = (opP d)))) rfl rfl rfl rfl (lt_of rfl) (decide_eq_true (Eq.refl _)) (r_bin (u1 := .bool (decide (okO d))) (u2 := .bool (decide (okO d))) (v := .bool (decide ((decide (okO d)) = (decide (okO d))))) (b_eqlB Try.underlying4) (lt_of rfl) trivial))
      (oC (oS rfl rfl (r_pickT (b := (decide ((opP d) = (opP d)))) (av := dv (.bool (decide ((decide (okO d)) = (decide (okO d)))))) (lt_of rfl) trivial (decide_eq_true (Eq.refl _))))
      (oC (oS rfl rfl (r_move (av := dv (.bool (decide ((decide (okO d)) = (decide (okO d)))))) (lt_of rfl) trivial))
      (oC (oY (b := (decide ((decide (okO d)) = (decide (okO d))))) rfl rfl rfl rfl (lt_of rfl) (decide_eq_true (Eq.refl _)) (r_call (law_awake  ) Try.func14 rfl (by decide) [] [] (l := []) [] rfl 0 0 rfl rfl rfl rfl rfl rfl rfl rfl rfl trivial rfl (fun b hb => by cases hb) (.inl rfl) (lt_of rfl) trivial))
      (oC (oS rfl rfl (r_pickT (b := (decide ((decide (okO d)) = (decide (okO d))))) (av := dv (.bool true)) (lt_of rfl) trivial (decide_eq_true (Eq.refl _))))
      (oC (oS rfl rfl (r_assign (av := dv (.bool true)) (lt_of rfl) trivial)) (oZ rfl))))))))))))))))))
      (by kernel_rfl) (by kernel_rfl) ?_
    refine nT ?_
    refine T.ret ?_
    exact tE (.inl rfl) [.t 2 (.one (.d (.val (.bool true))))] ⟨⟨rfl, rfl⟩, trivial⟩ [] rfl rfl rfl rfl rfl rfl trivial
end Go.Proofs.Ytdgjpmhpjhdkmaa.Q
