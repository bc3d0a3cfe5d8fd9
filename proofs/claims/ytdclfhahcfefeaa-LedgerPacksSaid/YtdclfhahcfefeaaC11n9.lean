import Derived.Test.YtdclfhahcfefeaaC11n8
namespace Go.Proofs.Ytdclfhahcfefeaa.Q
open Go Go.RowKit
set_option linter.unusedVariables false
set_option linter.unusedSimpArgs false
set_option maxRecDepth 100000
set_option maxHeartbeats 4000000
theorem places_78 : Places Try.prog 78 [(0, 1), (1, 1)] := ⟨_, Try.underlying78, ⟨⟨rfl, _, iat_3, rfl⟩, ⟨⟨rfl, _, iat_58, rfl⟩, trivial⟩⟩⟩
-- quaestor/quaestorref03.Twin
theorem ref03_Twin (ta : Bool) (na : Bool) (a : List api_Envelope) (hf : fewG szE 20 500 a) : Holds Try.prog 83 ⟨[slV ta na (k_api_Envelope false) a], [], ownV 0 (k_api_Envelope false) 0 a.length, [.live (arrK 78 (k_api_Envelope false) a)]⟩ := by
  refine Holds.of Try.func83 rfl (N := 28) Try.ntmps83 rfl fun w0 B0 S0 U0 => ?_
  show T _ (mkBase 28 0 w0 S0 U0 B0) ⟨[slV ta na (k_api_Envelope false) a], []⟩ _ _
  refine T.seq ?_
  refine xR [] (by kernel_rfl) (by kernel_rfl) ?_
  refine nT ?_
  refine T.seq ?_
  refine xR [] (by kernel_rfl) (by kernel_rfl) ?_
  refine nT ?_
  refine T.seq ?_
  refine T.seq ?_
  refine xR [] (by kernel_rfl) (by kernel_rfl) ?_
  refine nT ?_
  refine T.block ?_
  refine T.turn (s' := ⟨[slV ta na (k_api_Envelope false) a, aa, dv (.slice none 0 0), dv (.slice none 0 0), dv (.int .i64 0)], []⟩) (fun _ _ hG => Gs.norm (by kernel_rfl) hG) ?_
  refine T.turn (s' := ⟨[slV ta na (k_api_Envelope false) a, aa, dv (.slice none 0 0), ownV 0 (k_api_Envelope false) 0 0, dv (.int .i64 0)], [.live (arrK 78 (k_api_Envelope false) ([] : List api_Envelope))]⟩) (fun _ _ hG => Gs.absent 0 3 78 (k_api_Envelope false) rfl rfl hG) ?_
  refine T.loop (ι := Nat) (fun (k : Nat) => ⟨[slV ta na (k_api_Envelope false) a, aa, aa, ownV 0 (k_api_Envelope false) 0 (a.take k).length, dv (.int .i64 ((k : Nat) : Int))], [.live (arrK 78 (k_api_Envelope false) (a.take k))]⟩) (fun (k : Nat) => (k ≤ a.length)) (fun (k : Nat) => a.length - k) (0) (Nat.zero_le _) (fun _ _ hG => Gs.into2 (s' := ⟨[slV ta na (k_api_Envelope false) a, aa, aa, ownV 0 (k_api_Envelope false) 0 (a.take 0).length, dv (.int .i64 0)], [.live (arrK 78 (k_api_Envelope false) (a.take 0))]⟩) [0] (bm 5 25) (t1 := [slV ta na (k_api_Envelope false) a, aa, aa, ownV 0 (k_api_Envelope false) 0 (a.take 0).length, dv (.int .i64 0)]) (t2 := [slV ta na (k_api_Envelope false) a, aa, aa, ownV 0 (k_api_Envelope false) 0 0, dv (.int .i64 0)]) (h1 := [.live (arrK 78 (k_api_Envelope false) (a.take 0))]) (h2 := [.live (arrK 78 (k_api_Envelope false) ([] : List api_Envelope))]) (by have e1 : ((a.take 0).length : Nat) = 0 := (by rfl); have hE := congrArg (fun (q1 : Nat) => ([slV ta na (k_api_Envelope false) a, aa, aa, ownV 0 (k_api_Envelope false) 0 q1, dv (.int .i64 0)] : List AV)) e1; exact hE) (by have e1 : ((a.take 0) : List api_Envelope) = ([] : List api_Envelope) := (by rfl); have hE := congrArg (fun (q1 : List api_Envelope) => ([.live (arrK 78 (k_api_Envelope false) q1)] : List HS)) e1; exact hE) (by kernel_rfl) (by kernel_rfl) (by kernel_rfl) (by kernel_rfl) (by kernel_rfl) (by kernel_rfl) (by kernel_rfl) (by kernel_rfl) (by kernel_rfl) (by kernel_rfl) (by kernel_rfl) hG) ?_
  rintro k hk
  show T _ _ ⟨[slV ta na (k_api_Envelope false) a, aa, aa, ownV 0 (k_api_Envelope false) 0 (a.take k).length, dv (.int .i64 ((k : Nat) : Int))], [.live (arrK 78 (k_api_Envelope false) (a.take k))]⟩ _ _
  replace hk : k ≤ a.length := hk
  have ha1 := hf.1
  have hbk : (a.getD k z_api_Envelope).f_Body.length ≤ 500 := fewG_get (sz := szE) hf (by decide) k
  refine T.seq ?_
  refine T.seq ?_
  refine xR [] (by kernel_rfl) (by kernel_rfl) ?_
  refine nT ?_
  by_cases hq1 : ((k : Nat) : Int) < ((a.length : Nat) : Int)
  · refine T.condT (by kernel_rfl) (decide_eq_true hq1) ?_
    refine T.skip ?_
    refine nT ?_
    refine T.seq ?_
    refine T.block ?_
    refine xD [[], [], [], [1, 2], [1, 2, 3], [1, 2, 3, 4], [], [], [], [7, 8], [7, 8, 9], [7, 8, 9, 10], [6, 7, 8, 9, 10, 11], [1, 2, 3, 4, 5, 6, 7, 8, 9, 10, 11, 12], [1, 2, 3, 4, 5, 6, 7, 8, 9, 10, 11, 12, 13], [0, 1, 2, 3, 4, 5, 6, 7, 8, 9, 10, 11, 12, 13, 14], [0, 1, 2, 3, 4, 5, 6, 7, 8, 9, 10, 11, 12, 13, 14, 15]] [hR 3 rfl rfl (q_index ta na (k_api_Envelope false) a k (k := .i64) (i := ((k : Nat) : Int)) Try.underlying30 iat_78 rfl rfl (by first | assumption | omega | (unfold maxLen; omega) | (simp [maxLen, -List.getD_eq_getElem?_getD] <;> omega) | decide) (lt_of rfl) trivial),
      hR 6 rfl rfl (q_buildSlice 1 5 kU8 kU8_ok ([] : List UInt8) [] (cs := []) Try.underlying58 iat_5 rfl zero_5 rfl rfl rfl (Nat.le_of_ble_eq_true rfl) part_ok rfl trivial (lt_of rfl) trivial),
      hR 9 rfl rfl (q_index ta na (k_api_Envelope false) a k (k := .i64) (i := ((k : Nat) : Int)) Try.underlying30 iat_78 rfl rfl (by first | assumption | omega | (unfold maxLen; omega) | (simp [maxLen, -List.getD_eq_getElem?_getD] <;> omega) | decide) (lt_of rfl) trivial),
      hR 12 rfl rfl (q_appendO 1 2 5 1 kU8 kU8_ok ([] : List UInt8) (a.getD k z_api_Envelope).f_Body (a.getD k z_api_Envelope).f_Body ([] : List UInt8).length (sy := (.d (dsl false false kU8 (a.getD k z_api_Envelope).f_Body))) (rhs := []) elem_58 (by first | assumption | omega | (unfold maxLen; omega) | (simp [maxLen, -List.getD_eq_getElem?_getD] <;> omega) | decide) (src_sl false false kU8 (a.getD k z_api_Envelope).f_Body) (by simp) (by first | assumption | omega | (unfold maxLen; omega) | (simp [maxLen, -List.getD_eq_getElem?_getD] <;> omega) | decide) (by first | assumption | omega | (unfold maxLen; omega) | (simp [maxLen, -List.getD_eq_getElem?_getD] <;> omega) | decide) (lt_of rfl) trivial),
      hR 14 rfl rfl (ORule.frz 0 24 2 5 kU8 (a.getD k z_api_Envelope).f_Body (av := .tv (.agg [.d (.val (.int .i64 (a.getD k z_api_Envelope).f_Signer)), .own 2 kU8.sz 0 (a.getD k z_api_Envelope).f_Body.length])) (q_buildSlice 3 78 (k_api_Envelope false) (k_api_Envelope_ok false) [(a.getD k z_api_Envelope)] [⟨0, .tmp 24, .agg [.d (.val (.int .i64 (a.getD k z_api_Envelope).f_Signer)), .d (dsl false false kU8 (a.getD k z_api_Envelope).f_Body)], 0⟩] (cs := [.d (.val (.int .i64 (a.getD k z_api_Envelope).f_Signer)), .d (dsl false false kU8 (a.getD k z_api_Envelope).f_Body)]) Try.underlying30 iat_78 rfl zero_78 rfl rfl rfl (Nat.le_of_ble_eq_true rfl) (part_cons rfl rfl (Nat.le_of_ble_eq_true rfl) part_ok) rfl ⟨(.inl rfl), ⟨(.inl rfl), trivial⟩⟩ (lt_of rfl) trivial) rfl (.inr ⟨(.inl rfl), ⟨(.inr ⟨rfl, rfl, rfl, (fun h => by cases h), rfl, rfl, by omega, fun i j _ => by rw [Nat.zero_add]⟩), trivial⟩⟩) (by intro h; cases h) rfl rfl),
      hR 15 rfl rfl (q_appendO 0 4 78 32 (k_api_Envelope false) (k_api_Envelope_ok false) (a.take k) [(a.getD k z_api_Envelope)] ((a.take k) ++ [(a.getD k z_api_Envelope)]) (a.take k).length (sy := (.own 3 (k_api_Envelope false).sz 0 [(a.getD k z_api_Envelope)].length)) (rhs := [(3, .live (arrK 78 (k_api_Envelope false) [(a.getD k z_api_Envelope)]))]) elem_30 (by first | assumption | omega | (unfold maxLen; omega) | (simp [maxLen, -List.getD_eq_getElem?_getD] <;> omega) | decide) (src_own 3 78 (k_api_Envelope false) [(a.getD k z_api_Envelope)]) (by rw [List.take_length]) (by first | assumption | omega | (unfold maxLen; omega) | (simp [maxLen, -List.getD_eq_getElem?_getD] <;> omega) | decide) (by first | assumption | omega | (unfold maxLen; omega) | (simp [maxLen, -List.getD_eq_getElem?_getD] <;> omega) | decide) (lt_of rfl) trivial)] (by kernel_rfl) (by kernel_rfl) (by kernel_rfl) (by kernel_rfl) (by kernel_rfl) (by kernel_rfl) ?_
    refine nB ?_
    refine nT ?_
    refine xR [hR 1 rfl rfl (r_bin (u1 := .int .i64 ((k : Nat) : Int)) (u2 := .int .i64 1) (v := .int .i64 ((k + 1 : Nat) : Int)) (b_add (by rw [IntKind.wrap_i64]; omega)) (lt_of rfl) ⟨rfl, trivial⟩)] (by kernel_rfl) (by kernel_rfl) ?_
    refine nL (k + 1) (show (k + 1) ≤ a.length from (by omega)) (show (a.length - (k + 1) : Nat) < a.length - k from (by omega)) (fun _ _ hG => Gs.into2 (s' := ⟨[slV ta na (k_api_Envelope false) a, aa, aa, ownV 0 (k_api_Envelope false) 0 (a.take (k + 1)).length, dv (.int .i64 ((k + 1 : Nat) : Int))], [.live (arrK 78 (k_api_Envelope false) (a.take (k + 1)))]⟩) [4] (bm 5 25) (t1 := [slV ta na (k_api_Envelope false) a, aa, aa, ownV 4 (k_api_Envelope false) 0 (a.take (k + 1)).length, dv (.int .i64 ((k + 1 : Nat) : Int))]) (t2 := [slV ta na (k_api_Envelope false) a, aa, aa, ownV 4 (k_api_Envelope false) 0 ((a.take k) ++ [(a.getD k z_api_Envelope)]).length, dv (.int .i64 ((k + 1 : Nat) : Int))]) (h1 := [.live (arrK 78 (k_api_Envelope false) (a.take (k + 1)))]) (h2 := [.live (arrK 78 (k_api_Envelope false) ((a.take k) ++ [(a.getD k z_api_Envelope)]))]) (by have e1 : ((a.take (k + 1)).length : Nat) = ((a.take k) ++ [(a.getD k z_api_Envelope)]).length := (by first | rfl | (rw [tk_succ (z := z_api_Envelope) (by omega)])); have hE := congrArg (fun (q1 : Nat) => ([slV ta na (k_api_Envelope false) a, aa, aa, ownV 4 (k_api_Envelope false) 0 q1, dv (.int .i64 ((k + 1 : Nat) : Int))] : List AV)) e1; exact hE) (by have e1 : ((a.take (k + 1)) : List api_Envelope) = (a.take k) ++ [(a.getD k z_api_Envelope)] := (by first | rfl | (rw [tk_succ (z := z_api_Envelope) (by omega)])); have hE := congrArg (fun (q1 : List api_Envelope) => ([.live (arrK 78 (k_api_Envelope false) q1)] : List HS)) e1; exact hE) (by kernel_rfl) (by kernel_rfl) (by kernel_rfl) (by kernel_rfl) (by kernel_rfl) (by kernel_rfl) (by kernel_rfl) (by kernel_rfl) (by kernel_rfl) (by kernel_rfl) (by kernel_rfl) hG)
  · refine T.condF (by kernel_rfl) (decide_eq_false hq1) ?_
    refine T.exit ?_
    refine xT ?_
    refine xT ?_
    refine xH ?_
    refine nT ?_
    refine T.seq ?_
    refine xR [] (by kernel_rfl) (by kernel_rfl) ?_
    refine nT ?_
    refine T.ret ?_
    exact tE (.inl rfl) [.t 2 (.one (.own 0 (k_api_Envelope false).sz 0 (a.take k).length))] ⟨⟨rfl, by kernel_rfl⟩, trivial⟩ [0] (by have e1 : (a.length : Nat) = (a.take k).length := (by first | rfl | (rw [List.take_of_length_le (by omega)])); have hE := congrArg (fun (q1 : Nat) => (ownV 0 (k_api_Envelope false) 0 q1 : AV)) e1; exact hE) rfl rfl rfl rfl rfl ⟨⟨rfl, (by have e1 : ((a.take k) : List api_Envelope) = a := (by first | rfl | (rw [List.take_of_length_le (by omega)])); have hE := congrArg (fun (q1 : List api_Envelope) => (.live (arrK 78 (k_api_Envelope false) q1) : HS)) e1; exact Eq.trans (by kernel_rfl) hE)⟩, trivial⟩
end Go.Proofs.Ytdclfhahcfefeaa.Q
namespace Go.Proofs.Ytdclfhahcfefeaa.Q
open Go Go.RowKit
set_option linter.unusedVariables false
set_option linter.unusedSimpArgs false
set_option maxRecDepth 100000
set_option maxHeartbeats 4000000
-- quaestor/quaestorref11.twin
theorem ref11_twin (b : api_Block) (hf : fewB b) : Holds Try.prog 64 ⟨[.tv (.agg [.d (.val (.int .i64 b.f_Height)), .d (.val (strV b.f_Prev)), .d (dsl false false (k_api_Envelope false) b.f_Requests), .d (dsl false false (k_api_Result false) b.f_Results)])], [], .tv (.agg [.d (.val (.int .i64 b.f_Height)), .d (.val (strV b.f_Prev)), .d (dsl false false (k_api_Envelope false) b.f_Requests), .d (dsl false false (k_api_Result false) b.f_Results)]), []⟩ := by
  refine Holds.of Try.func64 rfl (N := 13) Try.ntmps64 rfl fun w0 B0 S0 U0 => ?_
  show T _ (mkBase 13 0 w0 S0 U0 B0) ⟨[.tv (.agg [.d (.val (.int .i64 b.f_Height)), .d (.val (strV b.f_Prev)), .d (dsl false false (k_api_Envelope false) b.f_Requests), .d (dsl false false (k_api_Result false) b.f_Results)])], []⟩ _ _
  have hf1 := hf.1.1
  have hf2 := hf.2.1
  have hf3 := hf.2.2
  refine T.seq ?_
  refine xR [] (by kernel_rfl) (by kernel_rfl) ?_
  refine nT ?_
  refine T.seq ?_
  refine xR [hR 2 rfl rfl (r_call (ref03_Twin false false b.f_Requests (by first | assumption | exact hf.1)) Try.func83 rfl (by decide) [2] [] (l := [(.tmp 4, slV false false (k_api_Envelope false) b.f_Requests)]) [] rfl 0 1 rfl rfl rfl rfl rfl rfl rfl rfl rfl ⟨.inl ⟨rfl, rfl⟩, trivial⟩ rfl (fun b hb => by cases hb) (.inl rfl) (lt_of rfl) trivial)] (by kernel_rfl) (by kernel_rfl) ?_
  refine nT ?_
  refine T.seq ?_
  refine xR [hR 0 rfl rfl (q_buildSlice 3 88 (k_api_Result false) (k_api_Result_ok false) ([] : List api_Result) [] (cs := []) Try.underlying31 iat_88 rfl zero_88 rfl rfl rfl (Nat.le_of_ble_eq_true rfl) part_ok rfl trivial (lt_of rfl) trivial),
    hR 3 rfl rfl (q_appendO 3 4 88 16 (k_api_Result false) (k_api_Result_ok false) ([] : List api_Result) b.f_Results b.f_Results ([] : List api_Result).length (sy := (.d (dsl false false (k_api_Result false) b.f_Results))) (rhs := []) elem_31 (by first | assumption | omega | (unfold maxLen; omega) | (simp [maxLen, -List.getD_eq_getElem?_getD] <;> omega) | decide) (src_sl false false (k_api_Result false) b.f_Results) (by simp) (by first | assumption | omega | (unfold maxLen; omega) | (simp [maxLen, -List.getD_eq_getElem?_getD] <;> omega) | decide) (by first | assumption | omega | (unfold maxLen; omega) | (simp [maxLen, -List.getD_eq_getElem?_getD] <;> omega) | decide) (lt_of rfl) trivial)] (by kernel_rfl) (by kernel_rfl) ?_
  refine nT ?_
  refine T.seq ?_
  refine xR [] (by kernel_rfl) (by kernel_rfl) ?_
  refine nT ?_
  refine T.ret ?_
  refine Ends.turn (s' := ⟨[.tv (.agg [.d (.val (.int .i64 b.f_Height)), .d (.val (strV b.f_Prev)), .d (dsl false false (k_api_Envelope false) b.f_Requests), .d (dsl false false (k_api_Result false) b.f_Results)]), pv 0 0, pv 1 0], [.live (.box 33 [.d (.val (.int .i64 b.f_Height)), .d (.val (strV b.f_Prev)), .own 2 (k_api_Envelope false).sz 0 b.f_Requests.length, .own 4 (k_api_Result false).sz 0 b.f_Results.length]), .live (.box 33 [.d (.val (.int .i64 b.f_Height)), .d (.val (strV b.f_Prev)), .own 2 (k_api_Envelope false).sz 0 b.f_Requests.length, .own 4 (k_api_Result false).sz 0 b.f_Results.length]), .live (arrK 78 (k_api_Envelope false) b.f_Requests), .dead, .live (arrK 88 (k_api_Result false) b.f_Results)]⟩) (fun _ _ hG => Gs.norm (by kernel_rfl) hG) ?_
  refine Ends.turn (s' := ⟨[.tv (.agg [.d (.val (.int .i64 b.f_Height)), .d (.val (strV b.f_Prev)), .d (dsl false false (k_api_Envelope false) b.f_Requests), .d (dsl false false (k_api_Result false) b.f_Results)]), pv 0 0, pv 1 0], [.live (.box 33 [.d (.val (.int .i64 b.f_Height)), .d (.val (strV b.f_Prev)), .d (dsl false false (k_api_Envelope false) b.f_Requests), .own 4 (k_api_Result false).sz 0 b.f_Results.length]), .live (.box 33 [.d (.val (.int .i64 b.f_Height)), .d (.val (strV b.f_Prev)), .d (dsl false false (k_api_Envelope false) b.f_Requests), .own 4 (k_api_Result false).sz 0 b.f_Results.length]), .dead, .dead, .live (arrK 88 (k_api_Result false) b.f_Results)]⟩) (fun _ _ hG => Gs.freeze (s := ⟨[.tv (.agg [.d (.val (.int .i64 b.f_Height)), .d (.val (strV b.f_Prev)), .d (dsl false false (k_api_Envelope false) b.f_Requests), .d (dsl false false (k_api_Result false) b.f_Results)]), pv 0 0, pv 1 0], [.live (.box 33 [.d (.val (.int .i64 b.f_Height)), .d (.val (strV b.f_Prev)), .own 2 (k_api_Envelope false).sz 0 b.f_Requests.length, .own 4 (k_api_Result false).sz 0 b.f_Results.length]), .live (.box 33 [.d (.val (.int .i64 b.f_Height)), .d (.val (strV b.f_Prev)), .own 2 (k_api_Envelope false).sz 0 b.f_Requests.length, .own 4 (k_api_Result false).sz 0 b.f_Results.length]), .live (arrK 78 (k_api_Envelope false) b.f_Requests), .dead, .live (arrK 88 (k_api_Result false) b.f_Results)]⟩) 2 (el := elOf (k_api_Envelope false) b.f_Requests) (sz := (k_api_Envelope false).sz) (n := b.f_Requests.length) rfl ⟨(.inl rfl), ⟨(.inl rfl), ⟨(.inl rfl), trivial⟩⟩⟩ ⟨(.inr ⟨by decide, .inr ⟨rfl, ⟨(.inl rfl), ⟨(.inl rfl), ⟨(.inr ⟨rfl, rfl, rfl, (fun h => by cases h), rfl, rfl, by omega, fun i j _ => by rw [Nat.zero_add]⟩), ⟨(.inl rfl), trivial⟩⟩⟩⟩⟩⟩), ⟨(.inr ⟨by decide, .inr ⟨rfl, ⟨(.inl rfl), ⟨(.inl rfl), ⟨(.inr ⟨rfl, rfl, rfl, (fun h => by cases h), rfl, rfl, by omega, fun i j _ => by rw [Nat.zero_add]⟩), ⟨(.inl rfl), trivial⟩⟩⟩⟩⟩⟩), ⟨(.inl ⟨rfl, rfl⟩), ⟨(.inr ⟨by decide, .inl rfl⟩), ⟨(.inr ⟨by decide, .inl rfl⟩), trivial⟩⟩⟩⟩⟩ hG) ?_
  refine Ends.turn (s' := ⟨[.tv (.agg [.d (.val (.int .i64 b.f_Height)), .d (.val (strV b.f_Prev)), .d (dsl false false (k_api_Envelope false) b.f_Requests), .d (dsl false false (k_api_Result false) b.f_Results)]), pv 0 0, pv 1 0], [.live (.box 33 [.d (.val (.int .i64 b.f_Height)), .d (.val (strV b.f_Prev)), .d (dsl false false (k_api_Envelope false) b.f_Requests), .own 4 (k_api_Result false).sz 0 b.f_Results.length]), .live (.box 33 [.d (.val (.int .i64 b.f_Height)), .d (.val (strV b.f_Prev)), .d (dsl false false (k_api_Envelope false) b.f_Requests), .own 4 (k_api_Result false).sz 0 b.f_Results.length]), .dead, .dead, .live (arrK 88 (k_api_Result false) b.f_Results)]⟩) (fun _ _ hG => Gs.norm (by kernel_rfl) hG) ?_
  refine Ends.turn (s' := ⟨[.tv (.agg [.d (.val (.int .i64 b.f_Height)), .d (.val (strV b.f_Prev)), .d (dsl false false (k_api_Envelope false) b.f_Requests), .d (dsl false false (k_api_Result false) b.f_Results)]), pv 0 0, pv 1 0], [.live (.box 33 [.d (.val (.int .i64 b.f_Height)), .d (.val (strV b.f_Prev)), .d (dsl false false (k_api_Envelope false) b.f_Requests), .d (dsl false false (k_api_Result false) b.f_Results)]), .live (.box 33 [.d (.val (.int .i64 b.f_Height)), .d (.val (strV b.f_Prev)), .d (dsl false false (k_api_Envelope false) b.f_Requests), .d (dsl false false (k_api_Result false) b.f_Results)]), .dead, .dead, .dead]⟩) (fun _ _ hG => Gs.freeze (s := ⟨[.tv (.agg [.d (.val (.int .i64 b.f_Height)), .d (.val (strV b.f_Prev)), .d (dsl false false (k_api_Envelope false) b.f_Requests), .d (dsl false false (k_api_Result false) b.f_Results)]), pv 0 0, pv 1 0], [.live (.box 33 [.d (.val (.int .i64 b.f_Height)), .d (.val (strV b.f_Prev)), .d (dsl false false (k_api_Envelope false) b.f_Requests), .own 4 (k_api_Result false).sz 0 b.f_Results.length]), .live (.box 33 [.d (.val (.int .i64 b.f_Height)), .d (.val (strV b.f_Prev)), .d (dsl false false (k_api_Envelope false) b.f_Requests), .own 4 (k_api_Result false).sz 0 b.f_Results.length]), .dead, .dead, .live (arrK 88 (k_api_Result false) b.f_Results)]⟩) 4 (el := elOf (k_api_Result false) b.f_Results) (sz := (k_api_Result false).sz) (n := b.f_Results.length) rfl ⟨(.inl rfl), ⟨(.inl rfl), ⟨(.inl rfl), trivial⟩⟩⟩ ⟨(.inr ⟨by decide, .inr ⟨rfl, ⟨(.inl rfl), ⟨(.inl rfl), ⟨(.inl rfl), ⟨(.inr ⟨rfl, rfl, rfl, (fun h => by cases h), rfl, rfl, by omega, fun i j _ => by rw [Nat.zero_add]⟩), trivial⟩⟩⟩⟩⟩⟩), ⟨(.inr ⟨by decide, .inr ⟨rfl, ⟨(.inl rfl), ⟨(.inl rfl), ⟨(.inl rfl), ⟨(.inr ⟨rfl, rfl, rfl, (fun h => by cases h), rfl, rfl, by omega, fun i j _ => by rw [Nat.zero_add]⟩), trivial⟩⟩⟩⟩⟩⟩), ⟨(.inr ⟨by decide, .inl rfl⟩), ⟨(.inr ⟨by decide, .inl rfl⟩), ⟨(.inl ⟨rfl, rfl⟩), trivial⟩⟩⟩⟩⟩ hG) ?_
  exact tE (.inl rfl) [.c 2 1 33 0 33 [.d (.val (.int .i64 b.f_Height)), .d (.val (strV b.f_Prev)), .d (dsl false false (k_api_Envelope false) b.f_Requests), .d (dsl false false (k_api_Result false) b.f_Results)] (.agg [.d (.val (.int .i64 b.f_Height)), .d (.val (strV b.f_Prev)), .d (dsl false false (k_api_Envelope false) b.f_Requests), .d (dsl false false (k_api_Result false) b.f_Results)])] ⟨⟨rfl, rfl, by kernel_rfl, by kernel_rfl, .inl ⟨4, wide_33, rfl, Nat.le_of_ble_eq_true rfl⟩⟩, trivial⟩ [] rfl rfl rfl rfl rfl rfl trivial
end Go.Proofs.Ytdclfhahcfefeaa.Q
namespace Go.Proofs.Ytdclfhahcfefeaa.Q
open Go Go.RowKit
set_option linter.unusedVariables false
set_option linter.unusedSimpArgs false
set_option maxRecDepth 100000
set_option maxHeartbeats 4000000
-- quaestor/quaestorref11.First
theorem ref11_First : Holds Try.prog 34 ⟨[], [], dv (strV (ofB 6 ([] : List (List UInt8)))), []⟩ := by
  refine Holds.of Try.func34 rfl (N := 2) Try.ntmps34 rfl fun w0 B0 S0 U0 => ?_
  show T _ (mkBase 2 0 w0 S0 U0 B0) ⟨[], []⟩ _ _
  refine T.seq ?_
  refine xR [] (by kernel_rfl) (by kernel_rfl) ?_
  refine nT ?_
  refine T.seq ?_
  refine xR [hR 0 rfl rfl (r_call (ref02_Of (6 : UInt8) false false false ([] : List (List UInt8)) (by first | assumption | omega | (unfold maxLen; omega) | (simp [maxLen, -List.getD_eq_getElem?_getD] <;> omega) | decide)) Try.func61 rfl (by decide) [] [] (l := [(.const (.int .u8 6), dv (.int .u8 6)), (.const (.slice none 0 0), dv (.slice none 0 0))]) [] rfl 0 0 rfl rfl rfl rfl rfl rfl rfl rfl rfl ⟨.inl ⟨rfl, rfl⟩, ⟨.inr (.inr ⟨rfl, rfl, rfl⟩), trivial⟩⟩ rfl (fun b hb => by cases hb) (.inl rfl) (lt_of rfl) ⟨rfl, ⟨rfl, trivial⟩⟩)] (by kernel_rfl) (by kernel_rfl) ?_
  refine nT ?_
  refine T.ret ?_
  exact tE (.inl rfl) [.t 0 (.one (.d (.val (strV (ofB (6 : UInt8) ([] : List (List UInt8)))))))] ⟨⟨rfl, by kernel_rfl⟩, trivial⟩ [] (by have e1 : ((ofB 6 ([] : List (List UInt8))) : List UInt8) = (ofB (6 : UInt8) ([] : List (List UInt8))) := (by first | rfl | (simp; done)); have hE := congrArg (fun (q1 : List UInt8) => (dv (strV q1) : AV)) e1; exact hE) rfl rfl rfl rfl rfl trivial
end Go.Proofs.Ytdclfhahcfefeaa.Q
namespace Go.Proofs.Ytdclfhahcfefeaa.Q
open Go Go.RowKit
set_option linter.unusedVariables false
set_option linter.unusedSimpArgs false
set_option maxRecDepth 100000
set_option maxHeartbeats 4000000
theorem iat_76 : Try.prog.info? 76 = some Try.t76 := by kernel_rfl
theorem zero_76 : Zero Try.prog 76 [.bool false, .int .i64 0, strV [], .slice none 0 0] := ⟨_, _, iat_76, rfl, rfl⟩
theorem iat_39 : Try.prog.info? 39 = some Try.t39 := by kernel_rfl
theorem places_76 : Places Try.prog 76 [(0, 1), (1, 1), (2, 1), (3, 1)] := ⟨_, Try.underlying76, ⟨⟨rfl, _, iat_4, rfl⟩, ⟨⟨rfl, _, iat_3, rfl⟩, ⟨⟨rfl, _, iat_29, rfl⟩, ⟨⟨rfl, _, iat_39, rfl⟩, trivial⟩⟩⟩⟩⟩
-- quaestor/quaestorref11.New
theorem ref11_New : Holds Try.prog 11 ⟨[], [], pv 0 0, [.live (.box 76 [.d (.val (.bool true)), .d (.val (.int .i64 0)), .d (.val (strV (ofB 6 ([] : List (List UInt8))))), .own 1 (k_api_Block false).sz 0 ([] : List api_Block).length]), .live (arrK 33 (k_api_Block false) ([] : List api_Block))]⟩ := by
  refine Holds.of Try.func11 rfl (N := 4) Try.ntmps11 rfl fun w0 B0 S0 U0 => ?_
  show T _ (mkBase 4 0 w0 S0 U0 B0) ⟨[], []⟩ _ _
  refine T.seq ?_
  refine xR [] (by kernel_rfl) (by kernel_rfl) ?_
  refine nT ?_
  refine T.seq ?_
  refine xR [hR 0 rfl rfl (r_call (ref11_First  ) Try.func34 rfl (by decide) [] [] (l := []) [] rfl 0 0 rfl rfl rfl rfl rfl rfl rfl rfl rfl trivial rfl (fun b hb => by cases hb) (.inl rfl) (lt_of rfl) trivial)] (by kernel_rfl) (by kernel_rfl) ?_
  refine nT ?_
  refine T.ret ?_
  refine Ends.turn (s' := ⟨[pv 0 0], [.live (.box 76 [.d (.val (.bool true)), .d (.val (.int .i64 0)), .d (.val (strV (ofB 6 ([] : List (List UInt8))))), .d (.val (.slice none 0 0))])]⟩) (fun _ _ hG => Gs.norm (by kernel_rfl) hG) ?_
  refine Ends.turn (s' := ⟨[pv 0 0], [.live (.box 76 [.d (.val (.bool true)), .d (.val (.int .i64 0)), .d (.val (strV (ofB 6 ([] : List (List UInt8))))), .own 1 (k_api_Block false).sz 0 0]), .live (arrK 33 (k_api_Block false) ([] : List api_Block))]⟩) (fun _ _ hG => Gs.absentB 1 0 3 33 (k_api_Block false) (Tb := 76) (cs := [.d (.val (.bool true)), .d (.val (.int .i64 0)), .d (.val (strV (ofB 6 ([] : List (List UInt8))))), .d (.val (.slice none 0 0))]) rfl rfl rfl hG) ?_
  exact tE (.inl rfl) [.t 0 (.one (.ptr 0 0))] ⟨⟨rfl, by kernel_rfl⟩, trivial⟩ [0, 1] rfl rfl rfl rfl rfl rfl ⟨⟨rfl, (by have e1 : (0 : Nat) = ([] : List api_Block).length := (by first | rfl | (simp; done)); have hE := congrArg (fun (q1 : Nat) => (.live (.box 76 [.d (.val (.bool true)), .d (.val (.int .i64 0)), .d (.val (strV (ofB 6 ([] : List (List UInt8))))), .own 1 (k_api_Block false).sz 0 q1]) : HS)) e1; exact Eq.trans (by kernel_rfl) hE)⟩, ⟨⟨rfl, (by kernel_rfl)⟩, trivial⟩⟩
end Go.Proofs.Ytdclfhahcfefeaa.Q
namespace Go.Proofs.Ytdclfhahcfefeaa.Q
open Go Go.RowKit
set_option linter.unusedVariables false
set_option linter.unusedSimpArgs false
set_option maxRecDepth 100000
set_option maxHeartbeats 4000000
theorem fld_76_1 : FieldAt Try.prog 76 1 1 := ⟨_, _, _, Try.underlying76, rfl, iat_3, by decide, rfl⟩
theorem fld_76_3 : FieldAt Try.prog 76 3 3 := ⟨_, _, _, Try.underlying76, rfl, iat_39, by decide, rfl⟩
theorem wide_39 : Wide Try.prog 39 none := ⟨_, Try.underlying39, (fun _ h => by cases h), (fun _ _ h => by cases h)⟩
-- (*quaestor/quaestorref11.Ledger).Height
theorem ref11_Height (h : Int) (d : List UInt8) (L : List api_Block) (hh : 0 ≤ h ∧ h ≤ 1099511627776) (hl : L.length ≤ 100) : Holds Try.prog 36 ⟨[pv 0 0], [.box 76 [.d (.val (.bool true)), .d (.val (.int .i64 h)), .d (.val (strV d)), .own 1 (k_api_Block false).sz 0 L.length], arrK 33 (k_api_Block false) L], dv (.int .i64 (h + ((L.length : Nat) : Int))), [.live (.box 76 [.d (.val (.bool true)), .d (.val (.int .i64 h)), .d (.val (strV d)), .own 1 (k_api_Block false).sz 0 L.length]), .live (arrK 33 (k_api_Block false) L)]⟩ := by
  refine Holds.of Try.func36 rfl (N := 13) Try.ntmps36 rfl fun w0 B0 S0 U0 => ?_
  show T _ (mkBase 13 2 w0 S0 U0 B0) ⟨[pv 0 0], [.live (.box 76 [.d (.val (.bool true)), .d (.val (.int .i64 h)), .d (.val (strV d)), .own 1 (k_api_Block false).sz 0 L.length]), .live (arrK 33 (k_api_Block false) L)]⟩ _ _
  refine T.seq ?_
  refine xR [] (by kernel_rfl) (by kernel_rfl) ?_
  refine nT ?_
  refine T.seq ?_
  refine xD [[], [0], [0, 1], [0, 1, 2], [], [4], [4, 5], [4, 5, 6], [4, 5, 6, 7], [0, 1, 2, 3, 4, 5, 6, 7, 8], [0, 1, 2, 3, 4, 5, 6, 7, 8, 9]] [hR 9 rfl rfl (r_bin (u1 := .int .i64 h) (u2 := .int .i64 ((L.length : Nat) : Int)) (v := .int .i64 (h + ((L.length : Nat) : Int))) (b_add (by rw [IntKind.wrap_i64]; omega)) (lt_of rfl) trivial)] (by kernel_rfl) (by kernel_rfl) (by kernel_rfl) (by kernel_rfl) (by kernel_rfl) (by kernel_rfl) ?_
  refine nT ?_
  refine T.ret ?_
  exact tE (.inl rfl) [.t 2 (.one (.d (.val (.int .i64 (h + ((L.length : Nat) : Int))))))] ⟨⟨rfl, by kernel_rfl⟩, trivial⟩ [0, 1] rfl rfl rfl rfl rfl rfl ⟨⟨rfl, (by kernel_rfl)⟩, ⟨⟨rfl, (by kernel_rfl)⟩, trivial⟩⟩
end Go.Proofs.Ytdclfhahcfefeaa.Q
namespace Go.Proofs.Ytdclfhahcfefeaa.Q
open Go Go.RowKit
set_option linter.unusedVariables false
set_option linter.unusedSimpArgs false
set_option maxRecDepth 100000
set_option maxHeartbeats 4000000
theorem fld_76_2 : FieldAt Try.prog 76 2 2 := ⟨_, _, _, Try.underlying76, rfl, iat_29, by decide, rfl⟩
-- (*quaestor/quaestorref11.Ledger).at
theorem ref11_at (h : Int) (d : List UInt8) (L : List api_Block) (n : Nat) (hh : 0 ≤ h ∧ h ≤ 1099511627776) (hl : L.length ≤ 100) (hw : fewLB L) (hn : n ≤ L.length) : Holds Try.prog 62 ⟨[pv 0 0, dv (.int .i64 ((n : Nat) : Int))], [.box 76 [.d (.val (.bool true)), .d (.val (.int .i64 h)), .d (.val (strV d)), .own 1 (k_api_Block false).sz 0 L.length], arrK 33 (k_api_Block false) L], dv (strV (atB d L n)), [.live (.box 76 [.d (.val (.bool true)), .d (.val (.int .i64 h)), .d (.val (strV d)), .own 1 (k_api_Block false).sz 0 L.length]), .live (arrK 33 (k_api_Block false) L)]⟩ := by
  refine Holds.of Try.func62 rfl (N := 21) Try.ntmps62 rfl fun w0 B0 S0 U0 => ?_
  show T _ (mkBase 21 2 w0 S0 U0 B0) ⟨[pv 0 0, dv (.int .i64 ((n : Nat) : Int))], [.live (.box 76 [.d (.val (.bool true)), .d (.val (.int .i64 h)), .d (.val (strV d)), .own 1 (k_api_Block false).sz 0 L.length]), .live (arrK 33 (k_api_Block false) L)]⟩ _ _
  have hwn := fewLB_get hw (n - 1)
  have hhn := head_few hwn
  have hg1 := hhn.1
  have hg2 := hhn.2.1
  refine T.seq ?_
  refine xR [] (by kernel_rfl) (by kernel_rfl) ?_
  refine nT ?_
  refine T.seq ?_
  refine T.seq ?_
  refine xR [] (by kernel_rfl) (by kernel_rfl) ?_
  refine nT ?_
  by_cases hq1 : ((n : Nat) : Int) = 0
  · refine T.condT (by kernel_rfl) (decide_eq_true hq1) ?_
    refine T.seq ?_
    refine xR [] (by kernel_rfl) (by kernel_rfl) ?_
    refine nT ?_
    refine T.ret ?_
    refine rT ?_
    exact tE (.inl rfl) [.t 4 (.one (.d (.val (strV d))))] ⟨⟨rfl, by kernel_rfl⟩, trivial⟩ [0, 1] (by have e1 : ((atB d L n) : List UInt8) = d := (by first | rfl | (unfold atB; first | rw [if_pos (by omega)] | rw [if_neg (by omega)])); have hE := congrArg (fun (q1 : List UInt8) => (dv (strV q1) : AV)) e1; exact hE) rfl rfl rfl rfl rfl ⟨⟨rfl, (by kernel_rfl)⟩, ⟨⟨rfl, (by kernel_rfl)⟩, trivial⟩⟩
  · refine T.condF (by kernel_rfl) (decide_eq_false hq1) ?_
    refine T.skip ?_
    refine nT ?_
    refine T.seq ?_
    refine xR [hR 5 rfl rfl (r_bin (u1 := .int .i64 ((n : Nat) : Int)) (u2 := .int .i64 1) (v := .int .i64 ((n - 1 : Nat) : Int)) (b_sub (by rw [IntKind.wrap_i64]; omega)) (lt_of rfl) ⟨rfl, trivial⟩),
      hR 6 rfl rfl (r_indexO (k := .i64) (l := 1) (sz := (k_api_Block false).sz) (off := 0) (n := L.length) (i := ((n - 1 : Nat) : Int)) (m := (n - 1)) (o' := (n - 1) * (k_api_Block false).sz + 0) Try.underlying39 iat_33 rfl rfl (by first | assumption | omega | (unfold maxLen; omega) | (simp [maxLen, -List.getD_eq_getElem?_getD] <;> omega) | decide) (by first | rfl | simp) (lt_of rfl) trivial),
      hR 7 rfl rfl (r_loadAs (l := 1) (off := (n - 1) * (k_api_Block false).sz + 0) (i := n - 1) (j := 0) (T := 33) (sz := (k_api_Block false).sz) (n := L.length) (el := elOf (k_api_Block false) L) (ds := [.d (.val (.int .i64 (L.getD (n - 1) z_api_Block).f_Height)), .d (.val (strV (L.getD (n - 1) z_api_Block).f_Prev)), .d (dsl false false (k_api_Envelope false) (L.getD (n - 1) z_api_Block).f_Requests), .d (dsl false false (k_api_Result false) (L.getD (n - 1) z_api_Block).f_Results)]) wide_33 rfl (by first | assumption | omega | (unfold maxLen; omega) | (simp [maxLen, -List.getD_eq_getElem?_getD] <;> omega) | decide) (by decide) rfl (lt_of rfl) trivial),
      hR 8 rfl rfl (r_call (ref10_Header false (L.getD (n - 1) z_api_Block) (by first | assumption | omega | (unfold maxLen; omega) | (simp [maxLen, -List.getD_eq_getElem?_getD] <;> omega) | decide)) Try.func82 rfl (by decide) [] [] (l := [(.tmp 18, .tv (.agg [.d (.val (.int .i64 (L.getD (n - 1) z_api_Block).f_Height)), .d (.val (strV (L.getD (n - 1) z_api_Block).f_Prev)), .d (dsl false false (k_api_Envelope false) (L.getD (n - 1) z_api_Block).f_Requests), .d (dsl false false (k_api_Result false) (L.getD (n - 1) z_api_Block).f_Results)]))]) [] rfl 0 0 rfl rfl rfl rfl rfl rfl rfl rfl rfl ⟨⟨.inl ⟨rfl, rfl⟩, ⟨.inl ⟨rfl, rfl⟩, ⟨.inl ⟨rfl, rfl⟩, ⟨.inl ⟨rfl, rfl⟩, trivial⟩⟩⟩⟩, trivial⟩ rfl (fun b hb => by cases hb) (.inl rfl) (lt_of rfl) trivial),
      hR 9 rfl rfl (r_call (ref10_Digest (headB (L.getD (n - 1) z_api_Block)) (by first | assumption | omega | (unfold maxLen; omega) | (simp [maxLen, -List.getD_eq_getElem?_getD] <;> omega) | decide) (by first | assumption | omega | (unfold maxLen; omega) | (simp [maxLen, -List.getD_eq_getElem?_getD] <;> omega) | decide)) Try.func81 rfl (by decide) [] [] (l := [(.tmp 19, .tv (.agg [.d (.val (.int .i64 (headB (L.getD (n - 1) z_api_Block)).f_Height)), .d (.val (strV (headB (L.getD (n - 1) z_api_Block)).f_Prev)), .d (.val (.int .i64 (headB (L.getD (n - 1) z_api_Block)).f_Count)), .d (.val (strV (headB (L.getD (n - 1) z_api_Block)).f_Root))]))]) [] rfl 0 0 rfl rfl rfl rfl rfl rfl rfl rfl rfl ⟨⟨.inl ⟨rfl, rfl⟩, ⟨.inl ⟨rfl, rfl⟩, ⟨.inl ⟨rfl, rfl⟩, ⟨.inl ⟨rfl, rfl⟩, trivial⟩⟩⟩⟩, trivial⟩ rfl (fun b hb => by cases hb) (.inl rfl) (lt_of rfl) trivial)] (by kernel_rfl) (by kernel_rfl) ?_
    refine nT ?_
    refine T.ret ?_
    exact tE (.inl rfl) [.t 4 (.one (.d (.val (strV (digB (headB (L.getD (n - 1) z_api_Block)))))))] ⟨⟨rfl, by kernel_rfl⟩, trivial⟩ [0, 1] (by have e1 : ((atB d L n) : List UInt8) = (digB (headB (L.getD (n - 1) z_api_Block))) := (by first | rfl | (unfold atB; first | rw [if_pos (by omega)] | rw [if_neg (by omega)])); have hE := congrArg (fun (q1 : List UInt8) => (dv (strV q1) : AV)) e1; exact hE) rfl rfl rfl rfl rfl ⟨⟨rfl, (by kernel_rfl)⟩, ⟨⟨rfl, (by kernel_rfl)⟩, trivial⟩⟩
end Go.Proofs.Ytdclfhahcfefeaa.Q
namespace Go.Proofs.Ytdclfhahcfefeaa.Q
open Go Go.RowKit
set_option linter.unusedVariables false
set_option linter.unusedSimpArgs false
set_option maxRecDepth 100000
set_option maxHeartbeats 4000000
-- (*quaestor/quaestorref11.Ledger).Head
theorem ref11_Head (h : Int) (d : List UInt8) (L : List api_Block) (hh : 0 ≤ h ∧ h ≤ 1099511627776) (hl : L.length ≤ 100) (hw : fewLB L) : Holds Try.prog 37 ⟨[pv 0 0], [.box 76 [.d (.val (.bool true)), .d (.val (.int .i64 h)), .d (.val (strV d)), .own 1 (k_api_Block false).sz 0 L.length], arrK 33 (k_api_Block false) L], dv (strV (atB d L L.length)), [.live (.box 76 [.d (.val (.bool true)), .d (.val (.int .i64 h)), .d (.val (strV d)), .own 1 (k_api_Block false).sz 0 L.length]), .live (arrK 33 (k_api_Block false) L)]⟩ := by
  refine Holds.of Try.func37 rfl (N := 10) Try.ntmps37 rfl fun w0 B0 S0 U0 => ?_
  show T _ (mkBase 10 2 w0 S0 U0 B0) ⟨[pv 0 0], [.live (.box 76 [.d (.val (.bool true)), .d (.val (.int .i64 h)), .d (.val (strV d)), .own 1 (k_api_Block false).sz 0 L.length]), .live (arrK 33 (k_api_Block false) L)]⟩ _ _
  refine T.seq ?_
  refine xR [] (by kernel_rfl) (by kernel_rfl) ?_
  refine nT ?_
  refine T.seq ?_
  refine xR [hR 6 rfl rfl (r_call (ref11_at h d L L.length (by first | assumption | omega | (unfold maxLen; omega) | (simp [maxLen, -List.getD_eq_getElem?_getD] <;> omega) | decide) (by first | assumption | omega | (unfold maxLen; omega) | (simp [maxLen, -List.getD_eq_getElem?_getD] <;> omega) | decide) (by first | assumption | omega | (unfold maxLen; omega) | (simp [maxLen, -List.getD_eq_getElem?_getD] <;> omega) | decide) (by first | assumption | omega | (unfold maxLen; omega) | (simp [maxLen, -List.getD_eq_getElem?_getD] <;> omega) | decide)) Try.func62 rfl (by decide) [0, 1] [] (l := [(.tmp 3, pv 0 0), (.tmp 8, dv (.int .i64 ((L.length : Nat) : Int)))]) [] rfl 2 2 rfl rfl rfl rfl rfl rfl rfl rfl rfl ⟨.inl ⟨rfl, rfl⟩, ⟨.inl ⟨rfl, rfl⟩, trivial⟩⟩ rfl (fun b hb => by cases hb) (.inl rfl) (lt_of rfl) trivial)] (by kernel_rfl) (by kernel_rfl) ?_
  refine nT ?_
  refine T.ret ?_
  exact tE (.inl rfl) [.t 2 (.one (.d (.val (strV (atB d L L.length)))))] ⟨⟨rfl, by kernel_rfl⟩, trivial⟩ [0, 1] rfl rfl rfl rfl rfl rfl ⟨⟨rfl, (by kernel_rfl)⟩, ⟨⟨rfl, (by kernel_rfl)⟩, trivial⟩⟩
end Go.Proofs.Ytdclfhahcfefeaa.Q
