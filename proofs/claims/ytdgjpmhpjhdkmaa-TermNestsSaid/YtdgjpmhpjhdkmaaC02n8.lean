import Derived.Test.YtdgjpmhpjhdkmaaC02n7
namespace Go.Proofs.Ytdgjpmhpjhdkmaa.Q
open Go Go.RowKit
set_option linter.unusedVariables false
set_option linter.unusedSimpArgs false
set_option maxRecDepth 100000
set_option maxHeartbeats 4000000
-- quaestor/quaestorlaw02.TermOf
theorem law_TermOf (t : UInt8) (l : List (List UInt8)) (hl : l.length ≤ 9223372036854775807) : Holds Try.prog 3 ⟨[dv (.int .u8 ((t.toNat : Nat) : Int)), slV false false (kSl false kU8) l], [], dv (.bool true), []⟩ := by
  refine Holds.of Try.func3 rfl (N := 26) Try.ntmps3 rfl fun w0 B0 S0 U0 => ?_
  show T _ (mkBase 26 0 w0 S0 U0 B0) ⟨[dv (.int .u8 ((t.toNat : Nat) : Int)), slV false false (kSl false kU8) l], []⟩ _ _
  refine T.seq ?_
  refine tR (s1 := ⟨[dv (.int .u8 ((t.toNat : Nat) : Int)), slV false false (kSl false kU8) l, AV.any, AV.any, dv (.bool false)], []⟩) [true, true, false, false, true] []
    (oC (oS rfl rfl (r_assign (av := dv (.bool false)) (lt_of rfl) ⟨rfl, trivial⟩)) (oZ rfl))
    (by kernel_rfl) (by kernel_rfl) ?_
  refine nT ?_
  refine T.seq ?_
  refine T.seq ?_
  refine tR (s1 := ⟨[dv (.int .u8 ((t.toNat : Nat) : Int)), slV false false (kSl false kU8) l, AV.any, AV.any, dv (.bool false), AV.any, AV.any, AV.any, dv (.bool (!(decide (fewG szL 100 2000 l))))], []⟩) [true, true, false, false, true, false, false, false, true] []
    (oC (oS rfl rfl (r_move (av := slV false false (kSl false kU8) l) (lt_of rfl) trivial))
    (oC (oS rfl rfl (r_call (law_few false false false l (by first | assumption | omega | (simp only [maxLen, kU8_sz, kSl_sz, k_arr_2_uint8_sz, k_arr_2_api_Digest_sz]; omega) | (simp only [maxLen, kU8_sz, kSl_sz, k_arr_2_uint8_sz, k_arr_2_api_Digest_sz, List.length_append, List.length_cons, List.length_nil, List.length_take, List.length_drop, List.length_set]; omega) | decide)) Try.func9 rfl (by decide) [] [] (l := [(.tmp 6, slV false false (kSl false kU8) l)]) [] rfl 0 0 rfl rfl rfl rfl rfl rfl rfl rfl rfl ⟨.inl ⟨rfl, rfl⟩, trivial⟩ rfl (fun b hb => by cases hb) (.inl rfl) (lt_of rfl) trivial))
    (oC (oS rfl rfl (r_un (u := .bool (decide (fewG szL 100 2000 l))) (v := .bool (!(decide (fewG szL 100 2000 l)))) u_not (lt_of rfl) trivial)) (oZ rfl))))
    (by kernel_rfl) (by kernel_rfl) ?_
  refine nT ?_
  by_cases hq1 : fewG szL 100 2000 l
  · have hsz := few_szP hq1
    refine T.condF (b := (!(decide (fewG szL 100 2000 l)))) rfl (congrArg Bool.not (decide_eq_true hq1)) ?_
    refine T.skip ?_
    refine nT ?_
    refine T.seq ?_
    refine tR (s1 := ⟨[dv (.int .u8 ((t.toNat : Nat) : Int)), slV false false (kSl false kU8) l, AV.any, AV.any, dv (.bool false), ownV 0 (kSl false kU8) 0 l.length, AV.any, AV.any, dv (.bool (!(decide (fewG szL 100 2000 l))))], [.live (arrK 37 (kSl false kU8) l)]⟩) [true, true, false, false, true, true, false, false, true] [true]
      (oC (oS rfl rfl (r_move (av := slV false false (kSl false kU8) l) (lt_of rfl) trivial))
      (oC (oS rfl rfl (r_call (law_twin false false false l (by first | assumption | omega | (simp only [maxLen, kU8_sz, kSl_sz, k_arr_2_uint8_sz, k_arr_2_api_Digest_sz]; omega) | (simp only [maxLen, kU8_sz, kSl_sz, k_arr_2_uint8_sz, k_arr_2_api_Digest_sz, List.length_append, List.length_cons, List.length_nil, List.length_take, List.length_drop, List.length_set]; omega) | decide)) Try.func10 rfl (by decide) [0] [] (l := [(.tmp 9, slV false false (kSl false kU8) l)]) [] rfl 0 1 rfl rfl rfl rfl rfl rfl rfl rfl rfl ⟨.inl ⟨rfl, rfl⟩, trivial⟩ rfl (fun b hb => by cases hb) (.inl rfl) (lt_of rfl) trivial))
      (oC (oS rfl rfl (r_assign (av := ownV 0 (kSl false kU8) 0 l.length) (lt_of rfl) trivial)) (oZ rfl))))
      (by kernel_rfl) (by kernel_rfl) ?_
    refine nT ?_
    refine T.seq ?_
    refine tR (s1 := ⟨[dv (.int .u8 ((t.toNat : Nat) : Int)), slV false false (kSl false kU8) l, AV.any, AV.any, dv (.bool true), ownV 0 (kSl false kU8) 0 l.length, AV.any, AV.any, dv (.bool (!(decide (fewG szL 100 2000 l))))], [.live (arrK 37 (kSl false kU8) l)]⟩) [true, true, false, false, true, true, false, false, true] [true]
      (oC (oS rfl rfl (r_move (av := dv (.int .u8 ((t.toNat : Nat) : Int))) (lt_of rfl) trivial))
      (oC (oS rfl rfl (r_move (av := ownV 0 (kSl false kU8) 0 l.length) (lt_of rfl) trivial))
      (oC (oS rfl rfl (r_call (term_Of t true false false l (by first | assumption | omega | (simp only [maxLen, kU8_sz, kSl_sz, k_arr_2_uint8_sz, k_arr_2_api_Digest_sz]; omega) | (simp only [maxLen, kU8_sz, kSl_sz, k_arr_2_uint8_sz, k_arr_2_api_Digest_sz, List.length_append, List.length_cons, List.length_nil, List.length_take, List.length_drop, List.length_set]; omega) | decide)) Try.func11 rfl (by decide) [] [0] (l := [(.tmp 11, dv (.int .u8 ((t.toNat : Nat) : Int))), (.tmp 12, ownV 0 (kSl false kU8) 0 l.length)]) [(0, .live (arrK 37 (kSl false kU8) l))] rfl 0 0 rfl rfl rfl rfl rfl rfl rfl rfl rfl ⟨.inl ⟨rfl, rfl⟩, ⟨.inr (.inl ⟨rfl, (fun h => by cases h), rfl, rfl, by simp, 37, l.length, elOf (kSl false kU8) l, List.Mem.head _, by omega, fun i j => by rw [Nat.zero_add]⟩), trivial⟩⟩ rfl (by intro b hb; simp only [List.mem_cons, List.not_mem_nil, or_false] at hb; rcases hb with rfl; exact ⟨_, List.Mem.head _⟩) (.inr ⟨trivial, trivial⟩) (lt_of rfl) trivial))
      (oC (oS rfl rfl (r_move (av := dv (.int .u8 ((t.toNat : Nat) : Int))) (lt_of rfl) trivial))
      (oC (oS rfl rfl (r_move (av := slV false false (kSl false kU8) l) (lt_of rfl) trivial))
      (oC (oS rfl rfl (r_call (ref02_Of t false false false l (by first | assumption | omega | (simp only [maxLen, kU8_sz, kSl_sz, k_arr_2_uint8_sz, k_arr_2_api_Digest_sz]; omega) | (simp only [maxLen, kU8_sz, kSl_sz, k_arr_2_uint8_sz, k_arr_2_api_Digest_sz, List.length_append, List.length_cons, List.length_nil, List.length_take, List.length_drop, List.length_set]; omega) | decide)) Try.func12 rfl (by decide) [] [] (l := [(.tmp 14, dv (.int .u8 ((t.toNat : Nat) : Int))), (.tmp 15, slV false false (kSl false kU8) l)]) [] rfl 0 0 rfl rfl rfl rfl rfl rfl rfl rfl rfl ⟨.inl ⟨rfl, rfl⟩, ⟨.inl ⟨rfl, rfl⟩, trivial⟩⟩ rfl (fun b hb => by cases hb) (.inl rfl) (lt_of rfl) trivial))
      (oC (oS rfl rfl (r_bin (u1 := strV (ofB t l)) (u2 := strV (ofB t l)) (v := .bool (decide ((ofB t l) = (ofB t l)))) b_eqlS (lt_of rfl) trivial))
      (oC (oS rfl rfl (r_move (av := dv (.bool (decide ((ofB t l) = (ofB t l))))) (lt_of rfl) trivial))
      (oC (oY (b := (decide ((ofB t l) = (ofB t l)))) rfl rfl rfl rfl (lt_of rfl) (decide_eq_true (Eq.refl _)) (r_move (av := ownV 0 (kSl false kU8) 0 l.length) (lt_of rfl) trivial))
      (oC (oY (b := (decide ((ofB t l) = (ofB t l)))) rfl rfl rfl rfl (lt_of rfl) (decide_eq_true (Eq.refl _)) (r_move (av := slV false false (kSl false kU8) l) (lt_of rfl) trivial))
      (oC (oY (b := (decide ((ofB t l) = (ofB t l)))) rfl rfl rfl rfl (lt_of rfl) (decide_eq_true (Eq.refl _)) (r_call (ref02_Parts true false false false false false l l (by first | assumption | omega | (simp only [maxLen, kU8_sz, kSl_sz, k_arr_2_uint8_sz, k_arr_2_api_Digest_sz]; omega) | (simp only [maxLen, kU8_sz, kSl_sz, k_arr_2_uint8_sz, k_arr_2_api_Digest_sz, List.length_append, List.length_cons, List.length_nil, List.length_take, List.length_drop, List.length_set]; omega) | decide)) Try.func13 rfl (by decide) [] [0] (l := [(.tmp 19, ownV 0 (kSl false kU8) 0 l.length), (.tmp 20, slV false false (kSl false kU8) l)]) [(0, .live (arrK 37 (kSl false kU8) l))] rfl 0 0 rfl rfl rfl rfl rfl rfl rfl rfl rfl ⟨.inr (.inl ⟨rfl, (fun h => by cases h), rfl, rfl, by simp, 37, l.length, elOf (kSl false kU8) l, List.Mem.head _, by omega, fun i j => by rw [Nat.zero_add]⟩), ⟨.inl ⟨rfl, rfl⟩, trivial⟩⟩ rfl (by intro b hb; simp only [List.mem_cons, List.not_mem_nil, or_false] at hb; rcases hb with rfl; exact ⟨_, List.Mem.head _⟩) (.inr ⟨trivial, trivial⟩) (lt_of rfl) trivial))
      (oC (oS rfl rfl (r_pickT (b := (decide ((ofB t l) = (ofB t l)))) (av := dv (.bool (decide (l = l)))) (lt_of rfl) trivial (decide_eq_true (Eq.refl _))))
      (oC (oS rfl rfl (r_move (av := dv (.bool (decide (l = l)))) (lt_of rfl) trivial))
      (oC (oY (b := (decide (l = l))) rfl rfl rfl rfl (lt_of rfl) (decide_eq_true (Eq.refl _)) (r_call (law_awake  ) Try.func14 rfl (by decide) [] [] (l := []) [] rfl 0 0 rfl rfl rfl rfl rfl rfl rfl rfl rfl trivial rfl (fun b hb => by cases hb) (.inl rfl) (lt_of rfl) trivial))
      (oC (oS rfl rfl (r_pickT (b := (decide (l = l))) (av := dv (.bool true)) (lt_of rfl) trivial (decide_eq_true (Eq.refl _))))
      (oC (oS rfl rfl (r_assign (av := dv (.bool true)) (lt_of rfl) trivial)) (oZ rfl)))))))))))))))))
      (by kernel_rfl) (by kernel_rfl) ?_
    refine nT ?_
    refine T.ret ?_
    exact tE (.inl rfl) [.t 4 (.one (.d (.val (.bool true))))] ⟨⟨rfl, rfl⟩, trivial⟩ [] rfl rfl rfl rfl rfl rfl trivial
  · refine T.condT (b := (!(decide (fewG szL 100 2000 l)))) rfl (congrArg Bool.not (decide_eq_false hq1)) ?_
    refine T.seq ?_
    refine tR (s1 := ⟨[dv (.int .u8 ((t.toNat : Nat) : Int)), slV false false (kSl false kU8) l, AV.any, AV.any, dv (.bool true), AV.any, AV.any, AV.any, dv (.bool (!(decide (fewG szL 100 2000 l))))], []⟩) [true, true, false, false, true, false, false, false, true] []
      (oC (oS rfl rfl (r_assign (av := dv (.bool true)) (lt_of rfl) ⟨rfl, trivial⟩)) (oZ rfl))
      (by kernel_rfl) (by kernel_rfl) ?_
    refine nT ?_
    refine T.ret ?_
    refine rT ?_
    exact tE (.inl rfl) [.t 4 (.one (.d (.val (.bool true))))] ⟨⟨rfl, rfl⟩, trivial⟩ [] rfl rfl rfl rfl rfl rfl trivial
end Go.Proofs.Ytdgjpmhpjhdkmaa.Q
