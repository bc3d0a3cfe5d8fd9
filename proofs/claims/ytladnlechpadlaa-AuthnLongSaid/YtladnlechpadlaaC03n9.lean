import Derived.Test.YtladnlechpadlaaC03n8
namespace Go.Proofs.Ytladnlechpadlaa.Q
open Go Go.RowKit
set_option linter.unusedVariables false
set_option linter.unusedSimpArgs false
set_option maxRecDepth 100000
set_option maxHeartbeats 4000000
theorem fld_23_0 : FieldAt Try.prog 23 0 0 := ⟨_, _, _, Try.underlying23, rfl, iat_3, by decide, rfl⟩
theorem fld_23_1 : FieldAt Try.prog 23 1 1 := ⟨_, _, _, Try.underlying23, rfl, iat_3, by decide, rfl⟩
-- quaestor/quaestorlaw03.AuthnNumbers
theorem law_AuthnNumbers (x : quaestorlaw03_Size) (s : Int) (hs : -9223372036854775808 ≤ s ∧ s ≤ 9223372036854775807) : Holds Try.prog 4 ⟨[.tv (.agg [.d (.val (.int .i64 x.f_F)), .d (.val (.int .i64 x.f_Clients))]), dv (.int .i64 s)], [], dv (.bool true), []⟩ := by
  refine Holds.of Try.func4 rfl (N := 29) Try.ntmps4 rfl fun w0 B0 S0 U0 => ?_
  show T _ (mkBase 29 0 w0 S0 U0 B0) ⟨[.tv (.agg [.d (.val (.int .i64 x.f_F)), .d (.val (.int .i64 x.f_Clients))]), dv (.int .i64 s)], []⟩ _ _
  have hfx := fOf_ok x.f_F
  have hux := cOf_ok x.f_Clients
  refine T.seq ?_
  refine tR (s1 := ⟨[.tv (.agg [.d (.val (.int .i64 x.f_F)), .d (.val (.int .i64 x.f_Clients))]), dv (.int .i64 s), pv 0 0, AV.any, dv (.bool false)], [.live (.box 23 [.d (.val (.int .i64 x.f_F)), .d (.val (.int .i64 x.f_Clients))])]⟩) [true, true, true, false, true] [true]
    (oC (oS rfl rfl (r_box (l := 0) (t := .agg [.d (.val (.int .i64 x.f_F)), .d (.val (.int .i64 x.f_Clients))]) rfl (lt_of rfl) trivial))
    (oC (oS rfl rfl (r_assign (av := dv (.bool false)) (lt_of rfl) ⟨rfl, trivial⟩)) (oZ rfl)))
    (by kernel_rfl) (by kernel_rfl) ?_
  refine nT ?_
  refine T.seq ?_
  refine tD (s1 := ⟨[.tv (.agg [.d (.val (.int .i64 x.f_F)), .d (.val (.int .i64 x.f_Clients))]), dv (.int .i64 s), pv 0 0, AV.any, dv (.bool false), pv 1 0, pv 3 0], [.live (.box 23 [.d (.val (.int .i64 x.f_F)), .d (.val (.int .i64 x.f_Clients))]), .live (.box 58 [.d (.val (.int .i64 (3 * (fOf x.f_F) + 1))), .d (.val (.int .i64 (cOf x.f_Clients))), .mref 2]), .live (mpK f_authn_pair kBool ([] : List (authn_pair × Bool))), .live (.box 48 [.d (.val (.bool true)), .d (.val (.int .i64 (fOf x.f_F))), .d (.val (.int .i64 (cOf x.f_Clients))), .own 4 (k_api_Envelope false).sz 0 ([] : List api_Envelope).length]), .live (arrK 32 (k_api_Envelope false) ([] : List api_Envelope))]⟩) (by kernel_rfl) [[], [0], [], [2], [0, 1, 2, 3], [], [5], [], [7], [0, 1, 2, 3, 4, 5, 6, 7, 8], [0, 1, 2, 3, 4, 5, 6, 7, 8, 9], [0, 1, 2, 3, 4, 5, 6, 7, 8, 9, 10]] [true, true, true, false, true, true, true] [true, true, true, true, true]
    (oC (oS rfl rfl (r_fieldAddr (l := 0) (off := 0) fld_23_0 (lt_of rfl) trivial))
    (oC (oS rfl rfl (r_loadB (l := 0) (off := 0) (T := 23) (cs := [.d (.val (.int .i64 x.f_F)), .d (.val (.int .i64 x.f_Clients))]) (c := .d (.val (.int .i64 x.f_F))) wide_3 rfl (lt_of rfl) trivial))
    (oC (oS rfl rfl (r_fieldAddr (l := 0) (off := 0) fld_23_1 (lt_of rfl) trivial))
    (oC (oS rfl rfl (r_loadB (l := 0) (off := 1) (T := 23) (cs := [.d (.val (.int .i64 x.f_F)), .d (.val (.int .i64 x.f_Clients))]) (c := .d (.val (.int .i64 x.f_Clients))) wide_3 rfl (lt_of rfl) trivial))
    (oC (oS rfl rfl (r_call (authn_New x.f_F x.f_Clients ) Try.func11 rfl (by decide) [1, 2] [] (l := [(.tmp 8, dv (.int .i64 x.f_F)), (.tmp 10, dv (.int .i64 x.f_Clients))]) [] rfl 0 2 rfl rfl rfl rfl rfl rfl rfl rfl rfl ⟨.inl ⟨rfl, rfl⟩, ⟨.inl ⟨rfl, rfl⟩, trivial⟩⟩ rfl (fun b hb => by cases hb) (.inl rfl) (lt_of rfl) trivial))
    (oC (oS rfl rfl (r_fieldAddr (l := 0) (off := 0) fld_23_0 (lt_of rfl) trivial))
    (oC (oS rfl rfl (r_loadB (l := 0) (off := 0) (T := 23) (cs := [.d (.val (.int .i64 x.f_F)), .d (.val (.int .i64 x.f_Clients))]) (c := .d (.val (.int .i64 x.f_F))) wide_3 rfl (lt_of rfl) trivial))
    (oC (oS rfl rfl (r_fieldAddr (l := 0) (off := 0) fld_23_1 (lt_of rfl) trivial))
    (oC (oS rfl rfl (r_loadB (l := 0) (off := 1) (T := 23) (cs := [.d (.val (.int .i64 x.f_F)), .d (.val (.int .i64 x.f_Clients))]) (c := .d (.val (.int .i64 x.f_Clients))) wide_3 rfl (lt_of rfl) trivial))
    (oC (oS rfl rfl (r_call (ref03_New x.f_F x.f_Clients ) Try.func16 rfl (by decide) [3, 4] [] (l := [(.tmp 13, dv (.int .i64 x.f_F)), (.tmp 15, dv (.int .i64 x.f_Clients))]) [] rfl 0 2 rfl rfl rfl rfl rfl rfl rfl rfl rfl ⟨.inl ⟨rfl, rfl⟩, ⟨.inl ⟨rfl, rfl⟩, trivial⟩⟩ rfl (fun b hb => by cases hb) (.inl rfl) (lt_of rfl) trivial))
    (oC (oS rfl rfl (r_assign (av := pv 1 0) (lt_of rfl) trivial))
    (oC (oS rfl rfl (r_assign (av := pv 3 0) (lt_of rfl) trivial)) (oZ rfl)))))))))))))
    (by kernel_rfl) (by kernel_rfl) (by kernel_rfl) (by kernel_rfl) (by kernel_rfl) ?_
  refine nT ?_
  refine T.seq ?_
  by_cases hq1 : ((([] : List (authn_pair × Bool)).length : Nat) : Int) = 0
  · refine tR (s1 := ⟨[.tv (.agg [.d (.val (.int .i64 x.f_F)), .d (.val (.int .i64 x.f_Clients))]), dv (.int .i64 s), pv 0 0, AV.any, dv (.bool true), pv 1 0, pv 3 0], [.live (.box 23 [.d (.val (.int .i64 x.f_F)), .d (.val (.int .i64 x.f_Clients))]), .live (.box 58 [.d (.val (.int .i64 (3 * (fOf x.f_F) + 1))), .d (.val (.int .i64 (cOf x.f_Clients))), .mref 2]), .live (mpK f_authn_pair kBool ([] : List (authn_pair × Bool))), .live (.box 48 [.d (.val (.bool true)), .d (.val (.int .i64 (fOf x.f_F))), .d (.val (.int .i64 (cOf x.f_Clients))), .own 4 (k_api_Envelope false).sz 0 ([] : List api_Envelope).length]), .live (arrK 32 (k_api_Envelope false) ([] : List api_Envelope))]⟩) [true, true, true, false, true, true, true] [true, true, true, true, true]
      (oC (oS rfl rfl (r_move (av := pv 1 0) (lt_of rfl) trivial))
      (oC (oS rfl rfl (r_call (authn_Signed (fOf x.f_F) (cOf x.f_Clients) ([] : List (authn_pair × Bool)) (by first | assumption | omega | (simp only [maxLen, kU8_sz, kSl_sz, k_quaestorlaw03_Deed_sz, k_quaestorlaw03_Size_sz, k_authn_pair_sz, k_api_Envelope_sz]; omega) | (simp only [maxLen, kU8_sz, kSl_sz, k_quaestorlaw03_Deed_sz, k_quaestorlaw03_Size_sz, k_authn_pair_sz, k_api_Envelope_sz, List.length_append, List.length_cons, List.length_nil, List.length_take, List.length_drop, List.length_set]; omega) | decide) (by first | assumption | omega | (simp only [maxLen, kU8_sz, kSl_sz, k_quaestorlaw03_Deed_sz, k_quaestorlaw03_Size_sz, k_authn_pair_sz, k_api_Envelope_sz]; omega) | (simp only [maxLen, kU8_sz, kSl_sz, k_quaestorlaw03_Deed_sz, k_quaestorlaw03_Size_sz, k_authn_pair_sz, k_api_Envelope_sz, List.length_append, List.length_cons, List.length_nil, List.length_take, List.length_drop, List.length_set]; omega) | decide)) Try.func17 rfl (by decide) [1, 2] [] (l := [(.tmp 17, pv 1 0)]) [] rfl 2 2 rfl rfl rfl rfl rfl rfl rfl rfl rfl ⟨.inl ⟨rfl, rfl⟩, trivial⟩ rfl (fun b hb => by cases hb) (.inl rfl) (lt_of rfl) trivial))
      (oC (oS rfl rfl (r_bin (u1 := .int .i64 ((([] : List (authn_pair × Bool)).length : Nat) : Int)) (u2 := .int .i64 0) (v := .bool (decide (((([] : List (authn_pair × Bool)).length : Nat) : Int) = 0))) b_eql (lt_of rfl) ⟨rfl, trivial⟩))
      (oC (oS rfl rfl (r_move (av := dv (.bool (decide (((([] : List (authn_pair × Bool)).length : Nat) : Int) = 0)))) (lt_of rfl) trivial))
      (oC (oY (b := (decide (((([] : List (authn_pair × Bool)).length : Nat) : Int) = 0))) rfl rfl rfl rfl (lt_of rfl) (decide_eq_true hq1) (r_move (av := pv 1 0) (lt_of rfl) trivial))
      (oC (oY (b := (decide (((([] : List (authn_pair × Bool)).length : Nat) : Int) = 0))) rfl rfl rfl rfl (lt_of rfl) (decide_eq_true hq1) (r_move (av := pv 3 0) (lt_of rfl) trivial))
      (oC (oY (b := (decide (((([] : List (authn_pair × Bool)).length : Nat) : Int) = 0))) rfl rfl rfl rfl (lt_of rfl) (decide_eq_true hq1) (r_move (av := dv (.int .i64 s)) (lt_of rfl) trivial))
      (oC (oY (b := (decide (((([] : List (authn_pair × Bool)).length : Nat) : Int) = 0))) rfl rfl rfl rfl (lt_of rfl) (decide_eq_true hq1) (r_call (law_numbers (fOf x.f_F) (cOf x.f_Clients) ([] : List (authn_pair × Bool)) ([] : List api_Envelope) s (by first | assumption | omega | (simp only [maxLen, kU8_sz, kSl_sz, k_quaestorlaw03_Deed_sz, k_quaestorlaw03_Size_sz, k_authn_pair_sz, k_api_Envelope_sz]; omega) | (simp only [maxLen, kU8_sz, kSl_sz, k_quaestorlaw03_Deed_sz, k_quaestorlaw03_Size_sz, k_authn_pair_sz, k_api_Envelope_sz, List.length_append, List.length_cons, List.length_nil, List.length_take, List.length_drop, List.length_set]; omega) | decide) (by first | assumption | omega | (simp only [maxLen, kU8_sz, kSl_sz, k_quaestorlaw03_Deed_sz, k_quaestorlaw03_Size_sz, k_authn_pair_sz, k_api_Envelope_sz]; omega) | (simp only [maxLen, kU8_sz, kSl_sz, k_quaestorlaw03_Deed_sz, k_quaestorlaw03_Size_sz, k_authn_pair_sz, k_api_Envelope_sz, List.length_append, List.length_cons, List.length_nil, List.length_take, List.length_drop, List.length_set]; omega) | decide) (by first | assumption | omega | (simp only [maxLen, kU8_sz, kSl_sz, k_quaestorlaw03_Deed_sz, k_quaestorlaw03_Size_sz, k_authn_pair_sz, k_api_Envelope_sz]; omega) | (simp only [maxLen, kU8_sz, kSl_sz, k_quaestorlaw03_Deed_sz, k_quaestorlaw03_Size_sz, k_authn_pair_sz, k_api_Envelope_sz, List.length_append, List.length_cons, List.length_nil, List.length_take, List.length_drop, List.length_set]; omega) | decide)) Try.func18 rfl (by decide) [1, 2, 3, 4] [] (l := [(.tmp 21, pv 1 0), (.tmp 22, pv 3 0), (.tmp 23, dv (.int .i64 s))]) [] rfl 4 4 rfl rfl rfl rfl rfl rfl rfl rfl rfl ⟨.inl ⟨rfl, rfl⟩, ⟨.inl ⟨rfl, rfl⟩, ⟨.inl ⟨rfl, rfl⟩, trivial⟩⟩⟩ rfl (fun b hb => by cases hb) (.inl rfl) (lt_of rfl) trivial))
      (oC (oS rfl rfl (r_pickT (b := (decide (((([] : List (authn_pair × Bool)).length : Nat) : Int) = 0))) (av := dv (.bool true)) (lt_of rfl) trivial (decide_eq_true hq1)))
      (oC (oS rfl rfl (r_move (av := dv (.bool true)) (lt_of rfl) trivial))
      (oC (oY (b := true) rfl rfl rfl rfl (lt_of rfl) rfl (r_call (law_awake  ) Try.func15 rfl (by decide) [] [] (l := []) [] rfl 0 0 rfl rfl rfl rfl rfl rfl rfl rfl rfl trivial rfl (fun b hb => by cases hb) (.inl rfl) (lt_of rfl) trivial))
      (oC (oS rfl rfl (r_pickT (b := true) (av := dv (.bool true)) (lt_of rfl) trivial rfl))
      (oC (oS rfl rfl (r_assign (av := dv (.bool true)) (lt_of rfl) trivial)) (oZ rfl))))))))))))))
      (by kernel_rfl) (by kernel_rfl) ?_
    refine nT ?_
    refine T.ret ?_
    exact tE (.inl rfl) [.t 4 (.one (.d (.val (.bool true))))] ⟨⟨rfl, rfl⟩, trivial⟩ [] rfl rfl rfl rfl rfl rfl trivial
  · exact absurd (by first | rfl | decide | omega) hq1
end Go.Proofs.Ytladnlechpadlaa.Q
