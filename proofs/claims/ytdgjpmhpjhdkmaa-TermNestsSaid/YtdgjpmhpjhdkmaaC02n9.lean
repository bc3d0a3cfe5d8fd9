import Derived.Test.YtdgjpmhpjhdkmaaC02n8
namespace Go.Proofs.Ytdgjpmhpjhdkmaa.Q
open Go Go.RowKit
set_option linter.unusedVariables false
set_option linter.unusedSimpArgs false
set_option maxRecDepth 100000
set_option maxHeartbeats 4000000
-- quaestor/quaestorlaw02.TermBack
theorem law_TermBack (t : UInt8) (l : List (List UInt8)) (d : List UInt8) (hl : l.length ≤ 9223372036854775807) : Holds Try.prog 5 ⟨[dv (.int .u8 ((t.toNat : Nat) : Int)), slV false false (kSl false kU8) l, dv (strV d)], [], dv (.bool true), []⟩ := by
  refine Holds.of Try.func5 rfl (N := 60) Try.ntmps5 rfl fun w0 B0 S0 U0 => ?_
  show T _ (mkBase 60 0 w0 S0 U0 B0) ⟨[dv (.int .u8 ((t.toNat : Nat) : Int)), slV false false (kSl false kU8) l, dv (strV d)], []⟩ _ _
  refine T.seq ?_
  refine tR (s1 := ⟨[dv (.int .u8 ((t.toNat : Nat) : Int)), slV false false (kSl false kU8) l, dv (strV d), AV.any, AV.any, AV.any, dv (.bool false)], []⟩) [true, true, true, false, false, false, true] []
    (oC (oS rfl rfl (r_assign (av := dv (.bool false)) (lt_of rfl) ⟨rfl, trivial⟩)) (oZ rfl))
    (by kernel_rfl) (by kernel_rfl) ?_
  refine nT ?_
  refine T.seq ?_
  refine T.seq ?_
  by_cases hq1 : fewG szL 100 2000 l
  · have hsz := few_szP hq1; have hol := ofB_len t l; have hop := open_of (t := t) (l := l) (by omega); have hpl : (opP (ofB t l)).length ≤ 9223372036854775807 := (by rw [hop.2.2]; omega)
    refine tR (s1 := ⟨[dv (.int .u8 ((t.toNat : Nat) : Int)), slV false false (kSl false kU8) l, dv (strV d), AV.any, AV.any, AV.any, dv (.bool false), AV.any, AV.any, AV.any, AV.any, AV.any, AV.any, AV.any, AV.any, AV.any, AV.any, AV.any, AV.any, dv (.bool (decide (((d.length : Nat) : Int) > 20000)))], []⟩) [true, true, true, false, false, false, true, false, false, false, false, false, false, false, false, false, false, false, false, true] []
      (oC (oS rfl rfl (r_move (av := slV false false (kSl false kU8) l) (lt_of rfl) trivial))
      (oC (oS rfl rfl (r_call (law_few false false false l (by first | assumption | omega | (simp only [maxLen, kU8_sz, kSl_sz, k_arr_2_uint8_sz, k_arr_2_api_Digest_sz]; omega) | (simp only [maxLen, kU8_sz, kSl_sz, k_arr_2_uint8_sz, k_arr_2_api_Digest_sz, List.length_append, List.length_cons, List.length_nil, List.length_take, List.length_drop, List.length_set]; omega) | decide)) Try.func9 rfl (by decide) [] [] (l := [(.tmp 12, slV false false (kSl false kU8) l)]) [] rfl 0 0 rfl rfl rfl rfl rfl rfl rfl rfl rfl ⟨.inl ⟨rfl, rfl⟩, trivial⟩ rfl (fun b hb => by cases hb) (.inl rfl) (lt_of rfl) trivial))
      (oC (oS rfl rfl (r_un (u := .bool (decide (fewG szL 100 2000 l))) (v := .bool (!(decide (fewG szL 100 2000 l)))) u_not (lt_of rfl) trivial))
      (oC (oS rfl rfl (r_move (av := dv (.bool (!(decide (fewG szL 100 2000 l))))) (lt_of rfl) trivial))
      (oC (oY (b := (!(decide (fewG szL 100 2000 l)))) rfl rfl rfl rfl (lt_of rfl) (congrArg Bool.not (decide_eq_true hq1)) (r_move (av := dv (strV d)) (lt_of rfl) trivial))
      (oC (oY (b := (!(decide (fewG szL 100 2000 l)))) rfl rfl rfl rfl (lt_of rfl) (congrArg Bool.not (decide_eq_true hq1)) (q_lenStr d Try.underlying25 (lt_of rfl) trivial))
      (oC (oY (b := (!(decide (fewG szL 100 2000 l)))) rfl rfl rfl rfl (lt_of rfl) (congrArg Bool.not (decide_eq_true hq1)) (r_bin (u1 := .int .i64 ((d.length : Nat) : Int)) (u2 := .int .i64 20000) (v := .bool (decide (((d.length : Nat) : Int) > 20000))) b_gtr (lt_of rfl) ⟨rfl, trivial⟩))
      (oC (oS rfl rfl (r_pickF (b := (!(decide (fewG szL 100 2000 l)))) (av := dv (.bool (decide (((d.length : Nat) : Int) > 20000)))) (lt_of rfl) trivial (congrArg Bool.not (decide_eq_true hq1)))) (oZ rfl)))))))))
      (by kernel_rfl) (by kernel_rfl) ?_
    refine nT ?_
    by_cases hq2 : ((d.length : Nat) : Int) > 20000
    · refine T.condT (b := (decide (((d.length : Nat) : Int) > 20000))) rfl (decide_eq_true hq2) ?_
      refine T.seq ?_
      refine tR (s1 := ⟨[dv (.int .u8 ((t.toNat : Nat) : Int)), slV false false (kSl false kU8) l, dv (strV d), AV.any, AV.any, AV.any, dv (.bool true), AV.any, AV.any, AV.any, AV.any, AV.any, AV.any, AV.any, AV.any, AV.any, AV.any, AV.any, AV.any, dv (.bool (decide (((d.length : Nat) : Int) > 20000)))], []⟩) [true, true, true, false, false, false, true, false, false, false, false, false, false, false, false, false, false, false, false, true] []
        (oC (oS rfl rfl (r_assign (av := dv (.bool true)) (lt_of rfl) ⟨rfl, trivial⟩)) (oZ rfl))
        (by kernel_rfl) (by kernel_rfl) ?_
      refine nT ?_
      refine T.ret ?_
      refine rT ?_
      exact tE (.inl rfl) [.t 6 (.one (.d (.val (.bool true))))] ⟨⟨rfl, rfl⟩, trivial⟩ [] rfl rfl rfl rfl rfl rfl trivial
    · refine T.condF (b := (decide (((d.length : Nat) : Int) > 20000))) rfl (decide_eq_false hq2) ?_
      refine T.skip ?_
      refine nT ?_
      refine T.seq ?_
      refine tR (s1 := ⟨[dv (.int .u8 ((t.toNat : Nat) : Int)), slV false false (kSl false kU8) l, dv (strV d), AV.any, AV.any, AV.any, dv (.bool false), dv (.int .u8 (((opT (ofB t l)).toNat : Nat) : Int)), slV false false (kSl false kU8) (opP (ofB t l)), dv (.bool (decide (okO (ofB t l)))), AV.any, AV.any, AV.any, AV.any, AV.any, AV.any, AV.any, AV.any, AV.any, dv (.bool (decide (((d.length : Nat) : Int) > 20000)))], [.live (arrK 37 (kSl false kU8) l)]⟩) [true, true, true, false, false, false, true, true, true, true, false, false, false, false, false, false, false, false, false, true] [true]
        (oC (oS rfl rfl (r_move (av := dv (.int .u8 ((t.toNat : Nat) : Int))) (lt_of rfl) trivial))
        (oC (oS rfl rfl (r_move (av := slV false false (kSl false kU8) l) (lt_of rfl) trivial))
        (oC (oS rfl rfl (r_call (law_twin false false false l (by first | assumption | omega | (simp only [maxLen, kU8_sz, kSl_sz, k_arr_2_uint8_sz, k_arr_2_api_Digest_sz]; omega) | (simp only [maxLen, kU8_sz, kSl_sz, k_arr_2_uint8_sz, k_arr_2_api_Digest_sz, List.length_append, List.length_cons, List.length_nil, List.length_take, List.length_drop, List.length_set]; omega) | decide)) Try.func10 rfl (by decide) [0] [] (l := [(.tmp 22, slV false false (kSl false kU8) l)]) [] rfl 0 1 rfl rfl rfl rfl rfl rfl rfl rfl rfl ⟨.inl ⟨rfl, rfl⟩, trivial⟩ rfl (fun b hb => by cases hb) (.inl rfl) (lt_of rfl) trivial))
        (oC (oS rfl rfl (r_call (term_Of t true false false l (by first | assumption | omega | (simp only [maxLen, kU8_sz, kSl_sz, k_arr_2_uint8_sz, k_arr_2_api_Digest_sz]; omega) | (simp only [maxLen, kU8_sz, kSl_sz, k_arr_2_uint8_sz, k_arr_2_api_Digest_sz, List.length_append, List.length_cons, List.length_nil, List.length_take, List.length_drop, List.length_set]; omega) | decide)) Try.func11 rfl (by decide) [] [0] (l := [(.tmp 21, dv (.int .u8 ((t.toNat : Nat) : Int))), (.tmp 23, ownV 0 (kSl false kU8) 0 l.length)]) [(0, .live (arrK 37 (kSl false kU8) l))] rfl 0 0 rfl rfl rfl rfl rfl rfl rfl rfl rfl ⟨.inl ⟨rfl, rfl⟩, ⟨.inr (.inl ⟨rfl, (fun h => by cases h), rfl, rfl, by simp, 37, l.length, elOf (kSl false kU8) l, List.Mem.head _, by omega, fun i j => by rw [Nat.zero_add]⟩), trivial⟩⟩ rfl (by intro b hb; simp only [List.mem_cons, List.not_mem_nil, or_false] at hb; rcases hb with rfl; exact ⟨_, List.Mem.head _⟩) (.inr ⟨trivial, trivial⟩) (lt_of rfl) trivial))
        (oC (oS rfl rfl (r_call (term_Open (ofB t l) (by first | assumption | omega | (simp only [maxLen, kU8_sz, kSl_sz, k_arr_2_uint8_sz, k_arr_2_api_Digest_sz]; omega) | (simp only [maxLen, kU8_sz, kSl_sz, k_arr_2_uint8_sz, k_arr_2_api_Digest_sz, List.length_append, List.length_cons, List.length_nil, List.length_take, List.length_drop, List.length_set]; omega) | decide)) Try.func15 rfl (by decide) [] [] (l := [(.tmp 24, dv (strV (ofB t l)))]) [] rfl 0 0 rfl rfl rfl rfl rfl rfl rfl rfl rfl ⟨.inl ⟨rfl, rfl⟩, trivial⟩ rfl (fun b hb => by cases hb) (.inl rfl) (lt_of rfl) trivial))
        (oC (oS rfl rfl (r_move (av := .tup [.one (.d (.val (.int .u8 (((opT (ofB t l)).toNat : Nat) : Int)))), .one (.d (dsl false false (kSl false kU8) (opP (ofB t l)))), .one (.d (.val (.bool (decide (okO (ofB t l))))))]) (lt_of rfl) trivial))
        (oC (oS rfl rfl (r_extract (l := [.one (.d (.val (.int .u8 (((opT (ofB t l)).toNat : Nat) : Int)))), .one (.d (dsl false false (kSl false kU8) (opP (ofB t l)))), .one (.d (.val (.bool (decide (okO (ofB t l))))))]) (tv := .one (.d (.val (.int .u8 (((opT (ofB t l)).toNat : Nat) : Int))))) rfl (lt_of rfl) trivial))
        (oC (oS rfl rfl (r_extract (l := [.one (.d (.val (.int .u8 (((opT (ofB t l)).toNat : Nat) : Int)))), .one (.d (dsl false false (kSl false kU8) (opP (ofB t l)))), .one (.d (.val (.bool (decide (okO (ofB t l))))))]) (tv := .one (.d (dsl false false (kSl false kU8) (opP (ofB t l))))) rfl (lt_of rfl) trivial))
        (oC (oS rfl rfl (r_extract (l := [.one (.d (.val (.int .u8 (((opT (ofB t l)).toNat : Nat) : Int)))), .one (.d (dsl false false (kSl false kU8) (opP (ofB t l)))), .one (.d (.val (.bool (decide (okO (ofB t l))))))]) (tv := .one (.d (.val (.bool (decide (okO (ofB t l))))))) rfl (lt_of rfl) trivial))
        (oC (oS rfl rfl (r_assign (av := dv (.int .u8 (((opT (ofB t l)).toNat : Nat) : Int))) (lt_of rfl) trivial))
        (oC (oS rfl rfl (r_assign (av := slV false false (kSl false kU8) (opP (ofB t l))) (lt_of rfl) trivial))
        (oC (oS rfl rfl (r_assign (av := dv (.bool (decide (okO (ofB t l))))) (lt_of rfl) trivial)) (oZ rfl)))))))))))))
        (by kernel_rfl) (by kernel_rfl) ?_
      refine nT ?_
      refine T.seq ?_
      refine T.seq ?_
      by_cases hq3 : (((opT (ofB t l)).toNat : Nat) : Int) ≠ ((t.toNat : Nat) : Int)
      · exact absurd (by rw [(open_of (t := t) (l := l) (by omega)).2.1]) hq3
      · by_cases hq4 : (opP (ofB t l)) = l
        · refine tR (s1 := ⟨[dv (.int .u8 ((t.toNat : Nat) : Int)), slV false false (kSl false kU8) l, dv (strV d), AV.any, AV.any, AV.any, dv (.bool false), dv (.int .u8 (((opT (ofB t l)).toNat : Nat) : Int)), slV false false (kSl false kU8) (opP (ofB t l)), dv (.bool (decide (okO (ofB t l)))), AV.any, AV.any, AV.any, AV.any, AV.any, AV.any, AV.any, AV.any, AV.any, dv (.bool (decide (((d.length : Nat) : Int) > 20000))), AV.any, AV.any, AV.any, AV.any, AV.any, AV.any, AV.any, AV.any, AV.any, AV.any, AV.any, AV.any, AV.any, AV.any, AV.any, AV.any, AV.any, AV.any, AV.any, AV.any, AV.any, dv (.bool (!(decide (okO (ofB t l)))))], [.live (arrK 37 (kSl false kU8) l)]⟩) [true, true, true, false, false, false, true, true, true, true, false, false, false, false, false, false, false, false, false, true, false, false, false, false, false, false, false, false, false, false, false, false, false, false, false, false, false, false, false, false, false, true] [true]
            (oC (oS rfl rfl (r_move (av := dv (.int .u8 (((opT (ofB t l)).toNat : Nat) : Int))) (lt_of rfl) trivial))
            (oC (oS rfl rfl (r_move (av := dv (.int .u8 ((t.toNat : Nat) : Int))) (lt_of rfl) trivial))
            (oC (oS rfl rfl (r_bin (u1 := .int .u8 (((opT (ofB t l)).toNat : Nat) : Int)) (u2 := .int .u8 ((t.toNat : Nat) : Int)) (v := .bool (decide ((((opT (ofB t l)).toNat : Nat) : Int) ≠ ((t.toNat : Nat) : Int)))) b_neq (lt_of rfl) trivial))
            (oC (oS rfl rfl (r_move (av := dv (.bool (decide ((((opT (ofB t l)).toNat : Nat) : Int) ≠ ((t.toNat : Nat) : Int))))) (lt_of rfl) trivial))
            (oC (oY (b := (decide ((((opT (ofB t l)).toNat : Nat) : Int) ≠ ((t.toNat : Nat) : Int)))) rfl rfl rfl rfl (lt_of rfl) (decide_eq_false hq3) (r_move (av := slV false false (kSl false kU8) (opP (ofB t l))) (lt_of rfl) trivial))
            (oC (oY (b := (decide ((((opT (ofB t l)).toNat : Nat) : Int) ≠ ((t.toNat : Nat) : Int)))) rfl rfl rfl rfl (lt_of rfl) (decide_eq_false hq3) (r_move (av := slV false false (kSl false kU8) l) (lt_of rfl) trivial))
            (oC (oY (b := (decide ((((opT (ofB t l)).toNat : Nat) : Int) ≠ ((t.toNat : Nat) : Int)))) rfl rfl rfl rfl (lt_of rfl) (decide_eq_false hq3) (r_call (ref02_Parts false false false false false false (opP (ofB t l)) l (by first | assumption | omega | (simp only [maxLen, kU8_sz, kSl_sz, k_arr_2_uint8_sz, k_arr_2_api_Digest_sz]; omega) | (simp only [maxLen, kU8_sz, kSl_sz, k_arr_2_uint8_sz, k_arr_2_api_Digest_sz, List.length_append, List.length_cons, List.length_nil, List.length_take, List.length_drop, List.length_set]; omega) | decide)) Try.func13 rfl (by decide) [] [] (l := [(.tmp 33, slV false false (kSl false kU8) (opP (ofB t l))), (.tmp 34, slV false false (kSl false kU8) l)]) [] rfl 0 0 rfl rfl rfl rfl rfl rfl rfl rfl rfl ⟨.inl ⟨rfl, rfl⟩, ⟨.inl ⟨rfl, rfl⟩, trivial⟩⟩ rfl (fun b hb => by cases hb) (.inl rfl) (lt_of rfl) trivial))
            (oC (oY (b := (decide ((((opT (ofB t l)).toNat : Nat) : Int) ≠ ((t.toNat : Nat) : Int)))) rfl rfl rfl rfl (lt_of rfl) (decide_eq_false hq3) (r_un (u := .bool (decide ((opP (ofB t l)) = l))) (v := .bool (!(decide ((opP (ofB t l)) = l)))) u_not (lt_of rfl) trivial))
            (oC (oS rfl rfl (r_pickF (b := (decide ((((opT (ofB t l)).toNat : Nat) : Int) ≠ ((t.toNat : Nat) : Int)))) (av := dv (.bool (!(decide ((opP (ofB t l)) = l))))) (lt_of rfl) trivial (decide_eq_false hq3)))
            (oC (oS rfl rfl (r_move (av := dv (.bool (!(decide ((opP (ofB t l)) = l))))) (lt_of rfl) trivial))
            (oC (oY (b := (!(decide ((opP (ofB t l)) = l)))) rfl rfl rfl rfl (lt_of rfl) (congrArg Bool.not (decide_eq_true hq4)) (r_move (av := dv (.bool (decide (okO (ofB t l))))) (lt_of rfl) trivial))
            (oC (oY (b := (!(decide ((opP (ofB t l)) = l)))) rfl rfl rfl rfl (lt_of rfl) (congrArg Bool.not (decide_eq_true hq4)) (r_un (u := .bool (decide (okO (ofB t l)))) (v := .bool (!(decide (okO (ofB t l))))) u_not (lt_of rfl) trivial))
            (oC (oS rfl rfl (r_pickF (b := (!(decide ((opP (ofB t l)) = l)))) (av := dv (.bool (!(decide (okO (ofB t l)))))) (lt_of rfl) trivial (congrArg Bool.not (decide_eq_true hq4)))) (oZ rfl))))))))))))))
            (by kernel_rfl) (by kernel_rfl) ?_
          refine nT ?_
          by_cases hq5 : okO (ofB t l)
          · refine T.condF (b := (!(decide (okO (ofB t l))))) rfl (congrArg Bool.not (decide_eq_true hq5)) ?_
            refine T.skip ?_
            refine nT ?_
            refine T.seq ?_
            refine tR (s1 := ⟨[dv (.int .u8 ((t.toNat : Nat) : Int)), slV false false (kSl false kU8) l, dv (strV d), AV.any, AV.any, AV.any, dv (.bool false), dv (.int .u8 (((opT (ofB t l)).toNat : Nat) : Int)), slV false false (kSl false kU8) (opP (ofB t l)), dv (.bool (decide (okO d))), dv (.int .u8 (((opT d).toNat : Nat) : Int)), slV false false (kSl false kU8) (opP d), AV.any, AV.any, AV.any, AV.any, AV.any, AV.any, AV.any, dv (.bool (decide (((d.length : Nat) : Int) > 20000))), AV.any, AV.any, AV.any, AV.any, AV.any, AV.any, AV.any, AV.any, AV.any, AV.any, AV.any, AV.any, AV.any, AV.any, AV.any, AV.any, AV.any, AV.any, AV.any, AV.any, AV.any, dv (.bool (!(decide (okO (ofB t l)))))], [.live (arrK 37 (kSl false kU8) l)]⟩) [true, true, true, false, false, false, true, true, true, true, true, true, false, false, false, false, false, false, false, true, false, false, false, false, false, false, false, false, false, false, false, false, false, false, false, false, false, false, false, false, false, true] [true]
              (oC (oS rfl rfl (r_move (av := dv (strV d)) (lt_of rfl) trivial))
              (oC (oS rfl rfl (r_call (term_Open d (by first | assumption | omega | (simp only [maxLen, kU8_sz, kSl_sz, k_arr_2_uint8_sz, k_arr_2_api_Digest_sz]; omega) | (simp only [maxLen, kU8_sz, kSl_sz, k_arr_2_uint8_sz, k_arr_2_api_Digest_sz, List.length_append, List.length_cons, List.length_nil, List.length_take, List.length_drop, List.length_set]; omega) | decide)) Try.func15 rfl (by decide) [] [] (l := [(.tmp 43, dv (strV d))]) [] rfl 0 0 rfl rfl rfl rfl rfl rfl rfl rfl rfl ⟨.inl ⟨rfl, rfl⟩, trivial⟩ rfl (fun b hb => by cases hb) (.inl rfl) (lt_of rfl) trivial))
              (oC (oS rfl rfl (r_move (av := .tup [.one (.d (.val (.int .u8 (((opT d).toNat : Nat) : Int)))), .one (.d (dsl false false (kSl false kU8) (opP d))), .one (.d (.val (.bool (decide (okO d)))))]) (lt_of rfl) trivial))
              (oC (oS rfl rfl (r_extract (l := [.one (.d (.val (.int .u8 (((opT d).toNat : Nat) : Int)))), .one (.d (dsl false false (kSl false kU8) (opP d))), .one (.d (.val (.bool (decide (okO d)))))]) (tv := .one (.d (.val (.int .u8 (((opT d).toNat : Nat) : Int))))) rfl (lt_of rfl) trivial))
              (oC (oS rfl rfl (r_extract (l := [.one (.d (.val (.int .u8 (((opT d).toNat : Nat) : Int)))), .one (.d (dsl false false (kSl false kU8) (opP d))), .one (.d (.val (.bool (decide (okO d)))))]) (tv := .one (.d (dsl false false (kSl false kU8) (opP d)))) rfl (lt_of rfl) trivial))
              (oC (oS rfl rfl (r_extract (l := [.one (.d (.val (.int .u8 (((opT d).toNat : Nat) : Int)))), .one (.d (dsl false false (kSl false kU8) (opP d))), .one (.d (.val (.bool (decide (okO d)))))]) (tv := .one (.d (.val (.bool (decide (okO d)))))) rfl (lt_of rfl) trivial))
              (oC (oS rfl rfl (r_assign (av := dv (.int .u8 (((opT d).toNat : Nat) : Int))) (lt_of rfl) trivial))
              (oC (oS rfl rfl (r_assign (av := slV false false (kSl false kU8) (opP d)) (lt_of rfl) trivial))
              (oC (oS rfl rfl (r_assign (av := dv (.bool (decide (okO d)))) (lt_of rfl) trivial)) (oZ rfl))))))))))
              (by kernel_rfl) (by kernel_rfl) ?_
            refine nT ?_
            refine T.seq ?_
            by_cases hq6 : okO d
            · have hss : szP (opP d) ≤ 20000 := (by have h9 := ofB_len (opT d) (opP d); rw [of_open hq6] at h9; omega)
              by_cases hq7 : (ofB (opT d) (opP d)) = d
              · refine tR (s1 := ⟨[dv (.int .u8 ((t.toNat : Nat) : Int)), slV false false (kSl false kU8) l, dv (strV d), AV.any, AV.any, AV.any, dv (.bool true), dv (.int .u8 (((opT (ofB t l)).toNat : Nat) : Int)), slV false false (kSl false kU8) (opP (ofB t l)), dv (.bool (decide (okO d))), dv (.int .u8 (((opT d).toNat : Nat) : Int)), slV false false (kSl false kU8) (opP d), AV.any, AV.any, AV.any, AV.any, AV.any, AV.any, AV.any, dv (.bool (decide (((d.length : Nat) : Int) > 20000))), AV.any, AV.any, AV.any, AV.any, AV.any, AV.any, AV.any, AV.any, AV.any, AV.any, AV.any, AV.any, AV.any, AV.any, AV.any, AV.any, AV.any, AV.any, AV.any, AV.any, AV.any, dv (.bool (!(decide (okO (ofB t l)))))], [.live (arrK 37 (kSl false kU8) l)]⟩) [true, true, true, false, false, false, true, true, true, true, true, true, false, false, false, false, false, false, false, true, false, false, false, false, false, false, false, false, false, false, false, false, false, false, false, false, false, false, false, false, false, true] [true]
                  (oC (oS rfl rfl (r_move (av := dv (.bool (decide (okO d)))) (lt_of rfl) trivial))
                  (oC (oS rfl rfl (r_un (u := .bool (decide (okO d))) (v := .bool (!(decide (okO d)))) u_not (lt_of rfl) trivial))
                  (oC (oS rfl rfl (r_move (av := dv (.bool (!(decide (okO d))))) (lt_of rfl) trivial))
                  (oC (oY (b := (!(decide (okO d)))) rfl rfl rfl rfl (lt_of rfl) (congrArg Bool.not (decide_eq_true hq6)) (r_move (av := dv (.int .u8 (((opT d).toNat : Nat) : Int))) (lt_of rfl) trivial))
                  (oC (oY (b := (!(decide (okO d)))) rfl rfl rfl rfl (lt_of rfl) (congrArg Bool.not (decide_eq_true hq6)) (r_move (av := slV false false (kSl false kU8) (opP d)) (lt_of rfl) trivial))
                  (oC (oY (b := (!(decide (okO d)))) rfl rfl rfl rfl (lt_of rfl) (congrArg Bool.not (decide_eq_true hq6)) (r_call (term_Of (opT d) false false false (opP d) (by first | assumption | omega | (simp only [maxLen, kU8_sz, kSl_sz, k_arr_2_uint8_sz, k_arr_2_api_Digest_sz]; omega) | (simp only [maxLen, kU8_sz, kSl_sz, k_arr_2_uint8_sz, k_arr_2_api_Digest_sz, List.length_append, List.length_cons, List.length_nil, List.length_take, List.length_drop, List.length_set]; omega) | decide)) Try.func11 rfl (by decide) [] [] (l := [(.tmp 51, dv (.int .u8 (((opT d).toNat : Nat) : Int))), (.tmp 52, slV false false (kSl false kU8) (opP d))]) [] rfl 0 0 rfl rfl rfl rfl rfl rfl rfl rfl rfl ⟨.inl ⟨rfl, rfl⟩, ⟨.inl ⟨rfl, rfl⟩, trivial⟩⟩ rfl (fun b hb => by cases hb) (.inl rfl) (lt_of rfl) trivial))
                  (oC (oY (b := (!(decide (okO d)))) rfl rfl rfl rfl (lt_of rfl) (congrArg Bool.not (decide_eq_true hq6)) (r_move (av := dv (strV d)) (lt_of rfl) trivial))
                  (oC (oY (b := (!(decide (okO d)))) rfl rfl rfl rfl (lt_of rfl) (congrArg Bool.not (decide_eq_true hq6)) (r_bin (u1 := strV (ofB (opT d) (opP d))) (u2 := strV d) (v := .bool (decide ((ofB (opT d) (opP d)) = d))) b_eqlS (lt_of rfl) trivial))
                  (oC (oS rfl rfl (r_pickF (b := (!(decide (okO d)))) (av := dv (.bool (decide ((ofB (opT d) (opP d)) = d)))) (lt_of rfl) trivial (congrArg Bool.not (decide_eq_true hq6))))
                  (oC (oS rfl rfl (r_move (av := dv (.bool (decide ((ofB (opT d) (opP d)) = d)))) (lt_of rfl) trivial))
                  (oC (oY (b := (decide ((ofB (opT d) (opP d)) = d))) rfl rfl rfl rfl (lt_of rfl) (decide_eq_true hq7) (r_call (law_awake  ) Try.func14 rfl (by decide) [] [] (l := []) [] rfl 0 0 rfl rfl rfl rfl rfl rfl rfl rfl rfl trivial rfl (fun b hb => by cases hb) (.inl rfl) (lt_of rfl) trivial))
                  (oC (oS rfl rfl (r_pickT (b := (decide ((ofB (opT d) (opP d)) = d))) (av := dv (.bool true)) (lt_of rfl) trivial (decide_eq_true hq7)))
                  (oC (oS rfl rfl (r_assign (av := dv (.bool true)) (lt_of rfl) trivial)) (oZ rfl))))))))))))))
                  (by kernel_rfl) (by kernel_rfl) ?_
                refine nT ?_
                refine T.ret ?_
                exact tE (.inl rfl) [.t 6 (.one (.d (.val (.bool true))))] ⟨⟨rfl, rfl⟩, trivial⟩ [] rfl rfl rfl rfl rfl rfl trivial
              · exact absurd (of_open (by assumption)) hq7
            · refine tR (s1 := ⟨[dv (.int .u8 ((t.toNat : Nat) : Int)), slV false false (kSl false kU8) l, dv (strV d), AV.any, AV.any, AV.any, dv (.bool true), dv (.int .u8 (((opT (ofB t l)).toNat : Nat) : Int)), slV false false (kSl false kU8) (opP (ofB t l)), dv (.bool (decide (okO d))), dv (.int .u8 (((opT d).toNat : Nat) : Int)), slV false false (kSl false kU8) (opP d), AV.any, AV.any, AV.any, AV.any, AV.any, AV.any, AV.any, dv (.bool (decide (((d.length : Nat) : Int) > 20000))), AV.any, AV.any, AV.any, AV.any, AV.any, AV.any, AV.any, AV.any, AV.any, AV.any, AV.any, AV.any, AV.any, AV.any, AV.any, AV.any, AV.any, AV.any, AV.any, AV.any, AV.any, dv (.bool (!(decide (okO (ofB t l)))))], [.live (arrK 37 (kSl false kU8) l)]⟩) [true, true, true, false, false, false, true, true, true, true, true, true, false, false, false, false, false, false, false, true, false, false, false, false, false, false, false, false, false, false, false, false, false, false, false, false, false, false, false, false, false, true] [true]
                (oC (oS rfl rfl (r_move (av := dv (.bool (decide (okO d)))) (lt_of rfl) trivial))
                (oC (oS rfl rfl (r_un (u := .bool (decide (okO d))) (v := .bool (!(decide (okO d)))) u_not (lt_of rfl) trivial))
                (oC (oS rfl rfl (r_move (av := dv (.bool (!(decide (okO d))))) (lt_of rfl) trivial))
                (oC (oN (b := (!(decide (okO d)))) rfl rfl rfl rfl (lt_of rfl) (congrArg Bool.not (decide_eq_false hq6)) rfl (lt_of rfl))
                (oC (oN (b := (!(decide (okO d)))) rfl rfl rfl rfl (lt_of rfl) (congrArg Bool.not (decide_eq_false hq6)) rfl (lt_of rfl))
                (oC (oN (b := (!(decide (okO d)))) rfl rfl rfl rfl (lt_of rfl) (congrArg Bool.not (decide_eq_false hq6)) rfl (lt_of rfl))
                (oC (oN (b := (!(decide (okO d)))) rfl rfl rfl rfl (lt_of rfl) (congrArg Bool.not (decide_eq_false hq6)) rfl (lt_of rfl))
                (oC (oN (b := (!(decide (okO d)))) rfl rfl rfl rfl (lt_of rfl) (congrArg Bool.not (decide_eq_false hq6)) rfl (lt_of rfl))
                (oC (oS rfl rfl (r_pickT (b := (!(decide (okO d)))) (av := dv (.bool true)) (lt_of rfl) ⟨rfl, trivial⟩ (congrArg Bool.not (decide_eq_false hq6))))
                (oC (oS rfl rfl (r_move (av := dv (.bool true)) (lt_of rfl) trivial))
                (oC (oY (b := true) rfl rfl rfl rfl (lt_of rfl) rfl (r_call (law_awake  ) Try.func14 rfl (by decide) [] [] (l := []) [] rfl 0 0 rfl rfl rfl rfl rfl rfl rfl rfl rfl trivial rfl (fun b hb => by cases hb) (.inl rfl) (lt_of rfl) trivial))
                (oC (oS rfl rfl (r_pickT (b := true) (av := dv (.bool true)) (lt_of rfl) trivial rfl))
                (oC (oS rfl rfl (r_assign (av := dv (.bool true)) (lt_of rfl) trivial)) (oZ rfl))))))))))))))
                (by kernel_rfl) (by kernel_rfl) ?_
              refine nT ?_
              refine T.ret ?_
              exact tE (.inl rfl) [.t 6 (.one (.d (.val (.bool true))))] ⟨⟨rfl, rfl⟩, trivial⟩ [] rfl rfl rfl rfl rfl rfl trivial
          · exact absurd (by first | exact (open_of (by omega)).1 | exact (open_of (by omega)).2.2) hq5
        · exact absurd (by first | exact (open_of (by omega)).1 | exact (open_of (by omega)).2.2) hq4
  · refine tR (s1 := ⟨[dv (.int .u8 ((t.toNat : Nat) : Int)), slV false false (kSl false kU8) l, dv (strV d), AV.any, AV.any, AV.any, dv (.bool false), AV.any, AV.any, AV.any, AV.any, AV.any, AV.any, AV.any, AV.any, AV.any, AV.any, AV.any, AV.any, dv (.bool true)], []⟩) [true, true, true, false, false, false, true, false, false, false, false, false, false, false, false, false, false, false, false, true] []
      (oC (oS rfl rfl (r_move (av := slV false false (kSl false kU8) l) (lt_of rfl) trivial))
      (oC (oS rfl rfl (r_call (law_few false false false l (by first | assumption | omega | (simp only [maxLen, kU8_sz, kSl_sz, k_arr_2_uint8_sz, k_arr_2_api_Digest_sz]; omega) | (simp only [maxLen, kU8_sz, kSl_sz, k_arr_2_uint8_sz, k_arr_2_api_Digest_sz, List.length_append, List.length_cons, List.length_nil, List.length_take, List.length_drop, List.length_set]; omega) | decide)) Try.func9 rfl (by decide) [] [] (l := [(.tmp 12, slV false false (kSl false kU8) l)]) [] rfl 0 0 rfl rfl rfl rfl rfl rfl rfl rfl rfl ⟨.inl ⟨rfl, rfl⟩, trivial⟩ rfl (fun b hb => by cases hb) (.inl rfl) (lt_of rfl) trivial))
      (oC (oS rfl rfl (r_un (u := .bool (decide (fewG szL 100 2000 l))) (v := .bool (!(decide (fewG szL 100 2000 l)))) u_not (lt_of rfl) trivial))
      (oC (oS rfl rfl (r_move (av := dv (.bool (!(decide (fewG szL 100 2000 l))))) (lt_of rfl) trivial))
      (oC (oN (b := (!(decide (fewG szL 100 2000 l)))) rfl rfl rfl rfl (lt_of rfl) (congrArg Bool.not (decide_eq_false hq1)) rfl (lt_of rfl))
      (oC (oN (b := (!(decide (fewG szL 100 2000 l)))) rfl rfl rfl rfl (lt_of rfl) (congrArg Bool.not (decide_eq_false hq1)) rfl (lt_of rfl))
      (oC (oN (b := (!(decide (fewG szL 100 2000 l)))) rfl rfl rfl rfl (lt_of rfl) (congrArg Bool.not (decide_eq_false hq1)) rfl (lt_of rfl))
      (oC (oS rfl rfl (r_pickT (b := (!(decide (fewG szL 100 2000 l)))) (av := dv (.bool true)) (lt_of rfl) ⟨rfl, trivial⟩ (congrArg Bool.not (decide_eq_false hq1)))) (oZ rfl)))))))))
      (by kernel_rfl) (by kernel_rfl) ?_
    refine nT ?_
    refine T.condT (b := true) rfl rfl ?_
    refine T.seq ?_
    refine tR (s1 := ⟨[dv (.int .u8 ((t.toNat : Nat) : Int)), slV false false (kSl false kU8) l, dv (strV d), AV.any, AV.any, AV.any, dv (.bool true), AV.any, AV.any, AV.any, AV.any, AV.any, AV.any, AV.any, AV.any, AV.any, AV.any, AV.any, AV.any, dv (.bool true)], []⟩) [true, true, true, false, false, false, true, false, false, false, false, false, false, false, false, false, false, false, false, true] []
      (oC (oS rfl rfl (r_assign (av := dv (.bool true)) (lt_of rfl) ⟨rfl, trivial⟩)) (oZ rfl))
      (by kernel_rfl) (by kernel_rfl) ?_
    refine nT ?_
    refine T.ret ?_
    refine rT ?_
    exact tE (.inl rfl) [.t 6 (.one (.d (.val (.bool true))))] ⟨⟨rfl, rfl⟩, trivial⟩ [] rfl rfl rfl rfl rfl rfl trivial
end Go.Proofs.Ytdgjpmhpjhdkmaa.Q
