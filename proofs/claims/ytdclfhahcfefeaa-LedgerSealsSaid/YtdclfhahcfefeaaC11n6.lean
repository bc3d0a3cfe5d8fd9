import Derived.Test.YtdclfhahcfefeaaC11n5
namespace Go.Proofs.Ytdclfhahcfefeaa.Q
open Go Go.RowKit
set_option linter.unusedVariables false
set_option linter.unusedSimpArgs false
set_option maxRecDepth 100000
set_option maxHeartbeats 4000000
theorem zero_33 : Zero Try.prog 33 [.int .i64 0, strV [], .slice none 0 0, .slice none 0 0] := ⟨_, _, iat_33, rfl, rfl⟩
theorem cells_31 : Cells Try.prog 31 1 := ⟨_, iat_31, rfl⟩
theorem cells_30 : Cells Try.prog 30 1 := ⟨_, iat_30, rfl⟩
theorem cells_33 : Cells Try.prog 33 4 := ⟨_, iat_33, rfl⟩
-- quaestor/ledger.twin
theorem ledger_twin (b : api_Block) (hf : fewB b) : Holds Try.prog 41 ⟨[.tv (.agg [.d (.val (.int .i64 b.f_Height)), .d (.val (strV b.f_Prev)), .d (dsl false false (k_api_Envelope false) b.f_Requests), .d (dsl false false (k_api_Result false) b.f_Results)])], [], .tv (.agg [.d (.val (.int .i64 b.f_Height)), .d (.val (strV b.f_Prev)), .d (dsl false false (k_api_Envelope false) b.f_Requests), .d (dsl false false (k_api_Result false) b.f_Results)]), []⟩ := by
  refine Holds.of Try.func41 rfl (N := 32) Try.ntmps41 rfl fun w0 B0 S0 U0 => ?_
  show T _ (mkBase 32 0 w0 S0 U0 B0) ⟨[.tv (.agg [.d (.val (.int .i64 b.f_Height)), .d (.val (strV b.f_Prev)), .d (dsl false false (k_api_Envelope false) b.f_Requests), .d (dsl false false (k_api_Result false) b.f_Results)])], []⟩ _ _
  have hf1 := hf.1.1
  have hf2 := hf.2.1
  have hf3 := hf.2.2
  refine T.seq ?_
  refine xR [] (by kernel_rfl) (by kernel_rfl) ?_
  refine nT ?_
  refine T.seq ?_
  refine xR [hR 2 rfl rfl (r_call (clone_Res false false b.f_Results (by omega)) Try.func65 rfl (by decide) [2] [] (l := [(.tmp 5, slV false false (k_api_Result false) b.f_Results)]) [] rfl 0 1 rfl rfl rfl rfl rfl rfl rfl rfl rfl ⟨.inl ⟨rfl, rfl⟩, trivial⟩ rfl (fun b hb => by cases hb) (.inl rfl) (lt_of rfl) trivial)] (by kernel_rfl) (by kernel_rfl) ?_
  refine nT ?_
  refine T.seq ?_
  refine xR [hR 2 rfl rfl (r_call (clone_Env false false b.f_Requests (by omega)) Try.func66 rfl (by decide) [3] [] (l := [(.tmp 9, slV false false (k_api_Envelope false) b.f_Requests)]) [] rfl 0 1 rfl rfl rfl rfl rfl rfl rfl rfl rfl ⟨.inl ⟨rfl, rfl⟩, trivial⟩ rfl (fun b hb => by cases hb) (.inl rfl) (lt_of rfl) trivial)] (by kernel_rfl) (by kernel_rfl) ?_
  refine nT ?_
  refine T.seq ?_
  refine T.seq ?_
  refine xR [] (by kernel_rfl) (by kernel_rfl) ?_
  refine nT ?_
  refine T.block ?_
  refine T.loop (ι := Nat) (fun (k : Nat) => ⟨[aa, pv 0 0, pv 3 0, aa, aa, aa, aa, aa, aa, aa, aa, aa, aa, aa, dv (.int .i64 ((b.f_Requests.length : Nat) : Int)), dv (.int .i64 ((k : Nat) : Int))], [.live (.box 33 [.d (.val (.int .i64 b.f_Height)), .d (.val (strV b.f_Prev)), .own 1 (k_api_Envelope false).sz 0 b.f_Requests.length, .own 2 (k_api_Result false).sz 0 b.f_Results.length]), .live (arrK 78 (k_api_Envelope false) b.f_Requests), .live (arrK 88 (k_api_Result false) b.f_Results), .live (.box 33 [.d (.val (.int .i64 0)), .d (.val (strV [])), .d (.val (.slice none 0 0)), .d (.val (.slice none 0 0))])]⟩) (fun (k : Nat) => (k ≤ b.f_Requests.length)) (fun (k : Nat) => b.f_Requests.length - k) (0) (Nat.zero_le _) (fun _ _ hG => Gs.into2 (s' := ⟨[aa, pv 0 0, pv 3 0, aa, aa, aa, aa, aa, aa, aa, aa, aa, aa, aa, dv (.int .i64 ((b.f_Requests.length : Nat) : Int)), dv (.int .i64 0)], [.live (.box 33 [.d (.val (.int .i64 b.f_Height)), .d (.val (strV b.f_Prev)), .own 1 (k_api_Envelope false).sz 0 b.f_Requests.length, .own 2 (k_api_Result false).sz 0 b.f_Results.length]), .live (arrK 78 (k_api_Envelope false) b.f_Requests), .live (arrK 88 (k_api_Result false) b.f_Results), .live (.box 33 [.d (.val (.int .i64 0)), .d (.val (strV [])), .d (.val (.slice none 0 0)), .d (.val (.slice none 0 0))])]⟩) [0, 3, 2, 1] (bm 16 49158) (t1 := [aa, pv 0 0, pv 1 0, aa, aa, aa, aa, aa, aa, aa, aa, aa, aa, aa, dv (.int .i64 ((b.f_Requests.length : Nat) : Int)), dv (.int .i64 0)]) (h1 := [.live (.box 33 [.d (.val (.int .i64 b.f_Height)), .d (.val (strV b.f_Prev)), .own 3 (k_api_Envelope false).sz 0 b.f_Requests.length, .own 2 (k_api_Result false).sz 0 b.f_Results.length]), .live (arrK 78 (k_api_Envelope false) b.f_Requests), .live (arrK 88 (k_api_Result false) b.f_Results), .live (.box 33 [.d (.val (.int .i64 0)), .d (.val (strV [])), .d (.val (.slice none 0 0)), .d (.val (.slice none 0 0))])]) rfl rfl (by kernel_rfl) (by kernel_rfl) (by kernel_rfl) (by kernel_rfl) (by kernel_rfl) (by kernel_rfl) (by kernel_rfl) (by kernel_rfl) (by kernel_rfl) (by kernel_rfl) (by kernel_rfl) hG) ?_
  rintro k hk
  show T _ _ ⟨[aa, pv 0 0, pv 3 0, aa, aa, aa, aa, aa, aa, aa, aa, aa, aa, aa, dv (.int .i64 ((b.f_Requests.length : Nat) : Int)), dv (.int .i64 ((k : Nat) : Int))], [.live (.box 33 [.d (.val (.int .i64 b.f_Height)), .d (.val (strV b.f_Prev)), .own 1 (k_api_Envelope false).sz 0 b.f_Requests.length, .own 2 (k_api_Result false).sz 0 b.f_Results.length]), .live (arrK 78 (k_api_Envelope false) b.f_Requests), .live (arrK 88 (k_api_Result false) b.f_Results), .live (.box 33 [.d (.val (.int .i64 0)), .d (.val (strV [])), .d (.val (.slice none 0 0)), .d (.val (.slice none 0 0))])]⟩ _ _
  replace hk : k ≤ b.f_Requests.length := hk
  have hf1 := hf.1.1
  have hf2 := hf.2.1
  have hf3 := hf.2.2
  have hbk : (b.f_Requests.getD k z_api_Envelope).f_Body.length ≤ 500 := fewG_get (sz := szE) hf.1 (by decide) k
  refine T.seq ?_
  refine xR [] (by kernel_rfl) (by kernel_rfl) ?_
  refine nT ?_
  refine T.seq ?_
  by_cases hq1 : ((k : Nat) : Int) < ((b.f_Requests.length : Nat) : Int)
  · refine T.condT (by kernel_rfl) (decide_eq_true hq1) ?_
    refine T.skip ?_
    refine nT ?_
    refine T.seq ?_
    refine T.block ?_
    refine T.seq ?_
    refine xR [] (by kernel_rfl) (by kernel_rfl) ?_
    refine nT ?_
    refine xD [[], [0], [], [], [3], [], [3, 4, 5], [3, 4, 5, 6], [3, 4, 5, 6, 7], [3, 4, 5, 6, 7, 8], [0, 1, 2, 3, 4, 5, 6, 7, 8, 9], [0, 1, 2, 3, 4, 5, 6, 7, 8, 9, 10], [0, 1, 2, 3, 4, 5, 6, 7, 8, 9, 10, 11]] [hR 6 rfl rfl (r_indexO (k := .i64) (l := 1) (sz := (k_api_Envelope false).sz) (off := 0) (n := b.f_Requests.length) (i := ((k : Nat) : Int)) (m := k) (o' := k * (k_api_Envelope false).sz + 0) Try.underlying30 iat_78 rfl rfl (by omega) (by simp) (lt_of rfl) trivial),
      hR 8 rfl rfl (r_loadA (l := 1) (off := k * (k_api_Envelope false).sz + 1) (i := k) (j := 1) (T := 78) (sz := (k_api_Envelope false).sz) (n := b.f_Requests.length) (el := elOf (k_api_Envelope false) b.f_Requests) (c := dsl false false kU8 (b.f_Requests.getD k z_api_Envelope).f_Body) wide_58 rfl (by omega) (by decide) rfl (lt_of rfl) trivial),
      hR 9 rfl rfl (r_call (clone_u8 false false (b.f_Requests.getD k z_api_Envelope).f_Body (by omega)) Try.func67 rfl (by decide) [4] [] (l := [(.tmp 26, slV false false kU8 (b.f_Requests.getD k z_api_Envelope).f_Body)]) [] rfl 0 1 rfl rfl rfl rfl rfl rfl rfl rfl rfl ⟨.inl ⟨rfl, rfl⟩, trivial⟩ rfl (fun b hb => by cases hb) (.inl rfl) (lt_of rfl) trivial),
      hR 10 rfl rfl (r_indexO (k := .i64) (l := 1) (sz := (k_api_Envelope false).sz) (off := 0) (n := b.f_Requests.length) (i := ((k : Nat) : Int)) (m := k) (o' := k * (k_api_Envelope false).sz + 0) Try.underlying30 iat_78 rfl rfl (by omega) (by simp) (lt_of rfl) trivial),
      hR 12 rfl rfl (ORule.frz 1 27 4 5 kU8 (b.f_Requests.getD k z_api_Envelope).f_Body (av := ownV 4 kU8 0 (b.f_Requests.getD k z_api_Envelope).f_Body.length) (q_storeA 1 78 (k_api_Envelope false) b.f_Requests (b.f_Requests.getD k z_api_Envelope) k 1 1 [dsl false false kU8 (b.f_Requests.getD k z_api_Envelope).f_Body] (tv := .one (.d (dsl false false kU8 (b.f_Requests.getD k z_api_Envelope).f_Body))) (off := k * (k_api_Envelope false).sz + 1) cells_58 ⟨(.inl rfl), trivial⟩ rfl rfl (by omega) (by decide) rfl (by intro j hj; replace hj : j < 2 := hj; rcases j with _ | _ | j <;> rfl) trivial) rfl (.inr (.inr ⟨rfl, rfl, rfl, (fun h => by cases h), rfl, rfl, by omega, fun i j _ => by rw [Nat.zero_add]⟩)) (by intro h; cases h) rfl rfl)] (by kernel_rfl) (by kernel_rfl) (by kernel_rfl) (by kernel_rfl) (by kernel_rfl) (by kernel_rfl) ?_
    refine nB ?_
    refine nT ?_
    refine xR [hR 0 rfl rfl (r_bin (u1 := .int .i64 ((k : Nat) : Int)) (u2 := .int .i64 1) (v := .int .i64 ((k + 1 : Nat) : Int)) (b_add (by rw [IntKind.wrap_i64]; omega)) (lt_of rfl) ⟨rfl, trivial⟩)] (by kernel_rfl) (by kernel_rfl) ?_
    refine nL (k + 1) (show (k + 1) ≤ b.f_Requests.length from (by omega)) (show (b.f_Requests.length - (k + 1) : Nat) < b.f_Requests.length - k from (by omega)) (fun _ _ hG => Gs.into2 (s' := ⟨[aa, pv 0 0, pv 3 0, aa, aa, aa, aa, aa, aa, aa, aa, aa, aa, aa, dv (.int .i64 ((b.f_Requests.length : Nat) : Int)), dv (.int .i64 ((k + 1 : Nat) : Int))], [.live (.box 33 [.d (.val (.int .i64 b.f_Height)), .d (.val (strV b.f_Prev)), .own 1 (k_api_Envelope false).sz 0 b.f_Requests.length, .own 2 (k_api_Result false).sz 0 b.f_Results.length]), .live (arrK 78 (k_api_Envelope false) b.f_Requests), .live (arrK 88 (k_api_Result false) b.f_Results), .live (.box 33 [.d (.val (.int .i64 0)), .d (.val (strV [])), .d (.val (.slice none 0 0)), .d (.val (.slice none 0 0))])]⟩) [0, 1, 2, 3] (bm 16 49158) (t1 := [aa, pv 0 0, pv 3 0, aa, aa, aa, aa, aa, aa, aa, aa, aa, aa, aa, dv (.int .i64 ((b.f_Requests.length : Nat) : Int)), dv (.int .i64 ((k + 1 : Nat) : Int))]) (h1 := [.live (.box 33 [.d (.val (.int .i64 b.f_Height)), .d (.val (strV b.f_Prev)), .own 1 (k_api_Envelope false).sz 0 b.f_Requests.length, .own 2 (k_api_Result false).sz 0 b.f_Results.length]), .live (arrK 78 (k_api_Envelope false) b.f_Requests), .live (arrK 88 (k_api_Result false) b.f_Results), .live (.box 33 [.d (.val (.int .i64 0)), .d (.val (strV [])), .d (.val (.slice none 0 0)), .d (.val (.slice none 0 0))])]) (h2 := [.live (.box 33 [.d (.val (.int .i64 b.f_Height)), .d (.val (strV b.f_Prev)), .own 1 (k_api_Envelope false).sz 0 b.f_Requests.length, .own 2 (k_api_Result false).sz 0 b.f_Results.length]), .live (arrK 78 (k_api_Envelope false) (b.f_Requests.set k (b.f_Requests.getD k z_api_Envelope))), .live (arrK 88 (k_api_Result false) b.f_Results), .live (.box 33 [.d (.val (.int .i64 0)), .d (.val (strV [])), .d (.val (.slice none 0 0)), .d (.val (.slice none 0 0))])]) rfl (by have e1 : (b.f_Requests : List api_Envelope) = (b.f_Requests.set k (b.f_Requests.getD k z_api_Envelope)) := (by (rw [set_same (by omega)]; done)); have hE := congrArg (fun (q1 : List api_Envelope) => ([.live (.box 33 [.d (.val (.int .i64 b.f_Height)), .d (.val (strV b.f_Prev)), .own 1 (k_api_Envelope false).sz 0 b.f_Requests.length, .own 2 (k_api_Result false).sz 0 b.f_Results.length]), .live (arrK 78 (k_api_Envelope false) q1), .live (arrK 88 (k_api_Result false) b.f_Results), .live (.box 33 [.d (.val (.int .i64 0)), .d (.val (strV [])), .d (.val (.slice none 0 0)), .d (.val (.slice none 0 0))])] : List HS)) e1; exact hE) (by kernel_rfl) (by kernel_rfl) (by kernel_rfl) (by kernel_rfl) (by kernel_rfl) (by kernel_rfl) (by kernel_rfl) (by kernel_rfl) (by kernel_rfl) (by kernel_rfl) (by kernel_rfl) hG)
  · refine T.condF (by kernel_rfl) (decide_eq_false hq1) ?_
    refine T.exit ?_
    refine xT ?_
    refine xT ?_
    refine xH ?_
    refine nT ?_
    refine T.seq ?_
    refine xR [] (by kernel_rfl) (by kernel_rfl) ?_
    refine nT ?_
    refine T.ret ?_
    refine Ends.turn (s' := ⟨[aa, pv 0 0, pv 3 0, aa, aa, aa, aa, aa, aa, aa, aa, aa, aa, aa, dv (.int .i64 ((b.f_Requests.length : Nat) : Int)), dv (.int .i64 ((k : Nat) : Int)), dv (.bool (decide (((k : Nat) : Int) < ((b.f_Requests.length : Nat) : Int))))], [.live (.box 33 [.d (.val (.int .i64 b.f_Height)), .d (.val (strV b.f_Prev)), .own 1 (k_api_Envelope false).sz 0 b.f_Requests.length, .own 2 (k_api_Result false).sz 0 b.f_Results.length]), .live (arrK 78 (k_api_Envelope false) b.f_Requests), .live (arrK 88 (k_api_Result false) b.f_Results), .live (.box 33 [.d (.val (.int .i64 b.f_Height)), .d (.val (strV b.f_Prev)), .own 1 (k_api_Envelope false).sz 0 b.f_Requests.length, .own 2 (k_api_Result false).sz 0 b.f_Results.length])]⟩) (fun _ _ hG => Gs.norm (by kernel_rfl) hG) ?_
    refine Ends.turn (s' := ⟨[aa, pv 0 0, pv 3 0, aa, aa, aa, aa, aa, aa, aa, aa, aa, aa, aa, dv (.int .i64 ((b.f_Requests.length : Nat) : Int)), dv (.int .i64 ((k : Nat) : Int)), dv (.bool (decide (((k : Nat) : Int) < ((b.f_Requests.length : Nat) : Int))))], [.live (.box 33 [.d (.val (.int .i64 b.f_Height)), .d (.val (strV b.f_Prev)), .d (dsl false false (k_api_Envelope false) b.f_Requests), .own 2 (k_api_Result false).sz 0 b.f_Results.length]), .dead, .live (arrK 88 (k_api_Result false) b.f_Results), .live (.box 33 [.d (.val (.int .i64 b.f_Height)), .d (.val (strV b.f_Prev)), .d (dsl false false (k_api_Envelope false) b.f_Requests), .own 2 (k_api_Result false).sz 0 b.f_Results.length])]⟩) (fun _ _ hG => Gs.freeze (s := ⟨[aa, pv 0 0, pv 3 0, aa, aa, aa, aa, aa, aa, aa, aa, aa, aa, aa, dv (.int .i64 ((b.f_Requests.length : Nat) : Int)), dv (.int .i64 ((k : Nat) : Int)), dv (.bool (decide (((k : Nat) : Int) < ((b.f_Requests.length : Nat) : Int))))], [.live (.box 33 [.d (.val (.int .i64 b.f_Height)), .d (.val (strV b.f_Prev)), .own 1 (k_api_Envelope false).sz 0 b.f_Requests.length, .own 2 (k_api_Result false).sz 0 b.f_Results.length]), .live (arrK 78 (k_api_Envelope false) b.f_Requests), .live (arrK 88 (k_api_Result false) b.f_Results), .live (.box 33 [.d (.val (.int .i64 b.f_Height)), .d (.val (strV b.f_Prev)), .own 1 (k_api_Envelope false).sz 0 b.f_Requests.length, .own 2 (k_api_Result false).sz 0 b.f_Results.length])]⟩) 1 (el := elOf (k_api_Envelope false) b.f_Requests) (sz := (k_api_Envelope false).sz) (n := b.f_Requests.length) rfl ⟨(.inl rfl), ⟨(.inl rfl), ⟨(.inl rfl), ⟨(.inl rfl), ⟨(.inl rfl), ⟨(.inl rfl), ⟨(.inl rfl), ⟨(.inl rfl), ⟨(.inl rfl), ⟨(.inl rfl), ⟨(.inl rfl), ⟨(.inl rfl), ⟨(.inl rfl), ⟨(.inl rfl), ⟨(.inl rfl), ⟨(.inl rfl), ⟨(.inl rfl), trivial⟩⟩⟩⟩⟩⟩⟩⟩⟩⟩⟩⟩⟩⟩⟩⟩⟩ ⟨(.inr ⟨by decide, .inr ⟨rfl, ⟨(.inl rfl), ⟨(.inl rfl), ⟨(.inr ⟨rfl, rfl, rfl, (fun h => by cases h), rfl, rfl, by omega, fun i j _ => by rw [Nat.zero_add]⟩), ⟨(.inl rfl), trivial⟩⟩⟩⟩⟩⟩), ⟨(.inl ⟨rfl, rfl⟩), ⟨(.inr ⟨by decide, .inl rfl⟩), ⟨(.inr ⟨by decide, .inr ⟨rfl, ⟨(.inl rfl), ⟨(.inl rfl), ⟨(.inr ⟨rfl, rfl, rfl, (fun h => by cases h), rfl, rfl, by omega, fun i j _ => by rw [Nat.zero_add]⟩), ⟨(.inl rfl), trivial⟩⟩⟩⟩⟩⟩), trivial⟩⟩⟩⟩ hG) ?_
    refine Ends.turn (s' := ⟨[aa, pv 0 0, pv 3 0, aa, aa, aa, aa, aa, aa, aa, aa, aa, aa, aa, dv (.int .i64 ((b.f_Requests.length : Nat) : Int)), dv (.int .i64 ((k : Nat) : Int)), dv (.bool (decide (((k : Nat) : Int) < ((b.f_Requests.length : Nat) : Int))))], [.live (.box 33 [.d (.val (.int .i64 b.f_Height)), .d (.val (strV b.f_Prev)), .d (dsl false false (k_api_Envelope false) b.f_Requests), .own 2 (k_api_Result false).sz 0 b.f_Results.length]), .dead, .live (arrK 88 (k_api_Result false) b.f_Results), .live (.box 33 [.d (.val (.int .i64 b.f_Height)), .d (.val (strV b.f_Prev)), .d (dsl false false (k_api_Envelope false) b.f_Requests), .own 2 (k_api_Result false).sz 0 b.f_Results.length])]⟩) (fun _ _ hG => Gs.norm (by kernel_rfl) hG) ?_
    refine Ends.turn (s' := ⟨[aa, pv 0 0, pv 3 0, aa, aa, aa, aa, aa, aa, aa, aa, aa, aa, aa, dv (.int .i64 ((b.f_Requests.length : Nat) : Int)), dv (.int .i64 ((k : Nat) : Int)), dv (.bool (decide (((k : Nat) : Int) < ((b.f_Requests.length : Nat) : Int))))], [.live (.box 33 [.d (.val (.int .i64 b.f_Height)), .d (.val (strV b.f_Prev)), .d (dsl false false (k_api_Envelope false) b.f_Requests), .d (dsl false false (k_api_Result false) b.f_Results)]), .dead, .dead, .live (.box 33 [.d (.val (.int .i64 b.f_Height)), .d (.val (strV b.f_Prev)), .d (dsl false false (k_api_Envelope false) b.f_Requests), .d (dsl false false (k_api_Result false) b.f_Results)])]⟩) (fun _ _ hG => Gs.freeze (s := ⟨[aa, pv 0 0, pv 3 0, aa, aa, aa, aa, aa, aa, aa, aa, aa, aa, aa, dv (.int .i64 ((b.f_Requests.length : Nat) : Int)), dv (.int .i64 ((k : Nat) : Int)), dv (.bool (decide (((k : Nat) : Int) < ((b.f_Requests.length : Nat) : Int))))], [.live (.box 33 [.d (.val (.int .i64 b.f_Height)), .d (.val (strV b.f_Prev)), .d (dsl false false (k_api_Envelope false) b.f_Requests), .own 2 (k_api_Result false).sz 0 b.f_Results.length]), .dead, .live (arrK 88 (k_api_Result false) b.f_Results), .live (.box 33 [.d (.val (.int .i64 b.f_Height)), .d (.val (strV b.f_Prev)), .d (dsl false false (k_api_Envelope false) b.f_Requests), .own 2 (k_api_Result false).sz 0 b.f_Results.length])]⟩) 2 (el := elOf (k_api_Result false) b.f_Results) (sz := (k_api_Result false).sz) (n := b.f_Results.length) rfl ⟨(.inl rfl), ⟨(.inl rfl), ⟨(.inl rfl), ⟨(.inl rfl), ⟨(.inl rfl), ⟨(.inl rfl), ⟨(.inl rfl), ⟨(.inl rfl), ⟨(.inl rfl), ⟨(.inl rfl), ⟨(.inl rfl), ⟨(.inl rfl), ⟨(.inl rfl), ⟨(.inl rfl), ⟨(.inl rfl), ⟨(.inl rfl), ⟨(.inl rfl), trivial⟩⟩⟩⟩⟩⟩⟩⟩⟩⟩⟩⟩⟩⟩⟩⟩⟩ ⟨(.inr ⟨by decide, .inr ⟨rfl, ⟨(.inl rfl), ⟨(.inl rfl), ⟨(.inl rfl), ⟨(.inr ⟨rfl, rfl, rfl, (fun h => by cases h), rfl, rfl, by omega, fun i j _ => by rw [Nat.zero_add]⟩), trivial⟩⟩⟩⟩⟩⟩), ⟨(.inr ⟨by decide, .inl rfl⟩), ⟨(.inl ⟨rfl, rfl⟩), ⟨(.inr ⟨by decide, .inr ⟨rfl, ⟨(.inl rfl), ⟨(.inl rfl), ⟨(.inl rfl), ⟨(.inr ⟨rfl, rfl, rfl, (fun h => by cases h), rfl, rfl, by omega, fun i j _ => by rw [Nat.zero_add]⟩), trivial⟩⟩⟩⟩⟩⟩), trivial⟩⟩⟩⟩ hG) ?_
    exact tE (.inl rfl) [.c 2 3 33 0 33 [.d (.val (.int .i64 b.f_Height)), .d (.val (strV b.f_Prev)), .d (dsl false false (k_api_Envelope false) b.f_Requests), .d (dsl false false (k_api_Result false) b.f_Results)] (.agg [.d (.val (.int .i64 b.f_Height)), .d (.val (strV b.f_Prev)), .d (dsl false false (k_api_Envelope false) b.f_Requests), .d (dsl false false (k_api_Result false) b.f_Results)])] ⟨⟨rfl, rfl, by kernel_rfl, by kernel_rfl, .inl ⟨4, wide_33, rfl, Nat.le_of_ble_eq_true rfl⟩⟩, trivial⟩ [] rfl rfl rfl rfl rfl rfl trivial
end Go.Proofs.Ytdclfhahcfefeaa.Q
namespace Go.Proofs.Ytdclfhahcfefeaa.Q
open Go Go.RowKit
set_option linter.unusedVariables false
set_option linter.unusedSimpArgs false
set_option maxRecDepth 100000
set_option maxHeartbeats 4000000
theorem iat_71 : Try.prog.info? 71 = some Try.t71 := by kernel_rfl
theorem zero_71 : Zero Try.prog 71 [.int .i64 0, strV []] := ⟨_, _, iat_71, rfl, rfl⟩
theorem places_71 : Places Try.prog 71 [(0, 1), (1, 1)] := ⟨_, Try.underlying71, ⟨⟨rfl, _, iat_3, rfl⟩, ⟨⟨rfl, _, iat_29, rfl⟩, trivial⟩⟩⟩
theorem iat_74 : Try.prog.info? 74 = some Try.t74 := by kernel_rfl
theorem zero_74 : Zero Try.prog 74 [.int .i64 0, strV [], .bool false, .slice none 0 0] := ⟨_, _, iat_74, rfl, rfl⟩
theorem iat_4 : Try.prog.info? 4 = some Try.t4 := by kernel_rfl
theorem iat_72 : Try.prog.info? 72 = some Try.t72 := by kernel_rfl
theorem places_74 : Places Try.prog 74 [(0, 2), (2, 1), (3, 1)] := ⟨_, Try.underlying74, ⟨⟨rfl, _, iat_71, rfl⟩, ⟨⟨rfl, _, iat_4, rfl⟩, ⟨⟨rfl, _, iat_72, rfl⟩, trivial⟩⟩⟩⟩
-- quaestor/ledger.New
theorem ledger_New : Holds Try.prog 10 ⟨[], [], pv 0 0, [.live (.box 74 [.d (.val (.int .i64 0)), .d (.val (strV (ofB 6 ([] : List (List UInt8))))), .d (.val (.bool true)), .own 1 (k_ledger_link false).sz 0 ([] : List ledger_link).length]), .live (arrK 80 (k_ledger_link false) ([] : List ledger_link))]⟩ := by
  refine Holds.of Try.func10 rfl (N := 5) Try.ntmps10 rfl fun w0 B0 S0 U0 => ?_
  show T _ (mkBase 5 0 w0 S0 U0 B0) ⟨[], []⟩ _ _
  refine T.seq ?_
  refine xR [] (by kernel_rfl) (by kernel_rfl) ?_
  refine nT ?_
  refine T.seq ?_
  refine xR [hR 0 rfl rfl (r_call (term_Of (6 : UInt8) false false false ([] : List (List UInt8)) (by decide)) Try.func33 rfl (by decide) [] [] (l := [(.const (.int .u8 6), dv (.int .u8 6)), (.const (.slice none 0 0), dv (.slice none 0 0))]) [] rfl 0 0 rfl rfl rfl rfl rfl rfl rfl rfl rfl ⟨.inl ⟨rfl, rfl⟩, ⟨.inr (.inr ⟨rfl, rfl, rfl⟩), trivial⟩⟩ rfl (fun b hb => by cases hb) (.inl rfl) (lt_of rfl) ⟨rfl, ⟨rfl, trivial⟩⟩)] (by kernel_rfl) (by kernel_rfl) ?_
  refine nT ?_
  refine T.ret ?_
  refine Ends.turn (s' := ⟨[pv 0 0], [.live (.box 74 [.d (.val (.int .i64 0)), .d (.val (strV (ofB (6 : UInt8) ([] : List (List UInt8))))), .d (.val (.bool true)), .d (.val (.slice none 0 0))])]⟩) (fun _ _ hG => Gs.norm (by kernel_rfl) hG) ?_
  refine Ends.turn (s' := ⟨[pv 0 0], [.live (.box 74 [.d (.val (.int .i64 0)), .d (.val (strV (ofB (6 : UInt8) ([] : List (List UInt8))))), .d (.val (.bool true)), .own 1 (k_ledger_link false).sz 0 0]), .live (arrK 80 (k_ledger_link false) ([] : List ledger_link))]⟩) (fun _ _ hG => Gs.absentB 1 0 3 80 (k_ledger_link false) (Tb := 74) (cs := [.d (.val (.int .i64 0)), .d (.val (strV (ofB (6 : UInt8) ([] : List (List UInt8))))), .d (.val (.bool true)), .d (.val (.slice none 0 0))]) rfl rfl rfl hG) ?_
  exact tE (.inl rfl) [.t 0 (.one (.ptr 0 0))] ⟨⟨rfl, by kernel_rfl⟩, trivial⟩ [0, 1] rfl rfl rfl rfl rfl rfl ⟨⟨rfl, (by have e1 : ((ofB (6 : UInt8) ([] : List (List UInt8))) : List UInt8) = (ofB 6 ([] : List (List UInt8))) := (by rfl); have e2 : (0 : Nat) = ([] : List ledger_link).length := (by rfl); have hE := congr (congrArg (fun (q1 : List UInt8) (q2 : Nat) => (.live (.box 74 [.d (.val (.int .i64 0)), .d (.val (strV q1)), .d (.val (.bool true)), .own 1 (k_ledger_link false).sz 0 q2]) : HS)) e1) e2; exact Eq.trans (by kernel_rfl) hE)⟩, ⟨⟨rfl, (by kernel_rfl)⟩, trivial⟩⟩
end Go.Proofs.Ytdclfhahcfefeaa.Q
namespace Go.Proofs.Ytdclfhahcfefeaa.Q
open Go Go.RowKit
set_option linter.unusedVariables false
set_option linter.unusedSimpArgs false
set_option maxRecDepth 100000
set_option maxHeartbeats 4000000
theorem fld_74_0 : FieldAt Try.prog 74 0 0 := ⟨_, _, _, Try.underlying74, rfl, iat_71, by decide, rfl⟩
theorem fld_71_0 : FieldAt Try.prog 71 0 0 := ⟨_, _, _, Try.underlying71, rfl, iat_3, by decide, rfl⟩
theorem fld_74_2 : FieldAt Try.prog 74 2 3 := ⟨_, _, _, Try.underlying74, rfl, iat_72, by decide, rfl⟩
theorem wide_72 : Wide Try.prog 72 none := ⟨_, Try.underlying72, (fun _ h => by cases h), (fun _ _ h => by cases h)⟩
-- (*quaestor/ledger.Ledger).Height
theorem ledger_Height (h : Int) (d : List UInt8) (l : List ledger_link) (hh : 0 ≤ h ∧ h ≤ 1099511627776) (hl : l.length ≤ 100) : Holds Try.prog 16 ⟨[pv 0 0], [.box 74 [.d (.val (.int .i64 h)), .d (.val (strV d)), .d (.val (.bool true)), .own 1 (k_ledger_link false).sz 0 l.length], arrK 80 (k_ledger_link false) l], dv (.int .i64 (h + ((l.length : Nat) : Int))), [.live (.box 74 [.d (.val (.int .i64 h)), .d (.val (strV d)), .d (.val (.bool true)), .own 1 (k_ledger_link false).sz 0 l.length]), .live (arrK 80 (k_ledger_link false) l)]⟩ := by
  refine Holds.of Try.func16 rfl (N := 16) Try.ntmps16 rfl fun w0 B0 S0 U0 => ?_
  show T _ (mkBase 16 2 w0 S0 U0 B0) ⟨[pv 0 0], [.live (.box 74 [.d (.val (.int .i64 h)), .d (.val (strV d)), .d (.val (.bool true)), .own 1 (k_ledger_link false).sz 0 l.length]), .live (arrK 80 (k_ledger_link false) l)]⟩ _ _
  refine T.seq ?_
  refine xR [] (by kernel_rfl) (by kernel_rfl) ?_
  refine nT ?_
  refine T.seq ?_
  refine T.seq ?_
  refine xR [] (by kernel_rfl) (by kernel_rfl) ?_
  refine nT ?_
  refine T.condF (b := false) (by kernel_rfl) rfl ?_
  refine T.skip ?_
  refine nT ?_
  refine T.seq ?_
  refine xD [[], [0], [0, 1], [0, 1, 2], [0, 1, 2, 3], [], [5], [5, 6], [5, 6, 7], [5, 6, 7, 8], [0, 1, 2, 3, 4, 5, 6, 7, 8, 9], [0, 1, 2, 3, 4, 5, 6, 7, 8, 9, 10]] [hR 10 rfl rfl (r_bin (u1 := .int .i64 h) (u2 := .int .i64 ((l.length : Nat) : Int)) (v := .int .i64 (h + ((l.length : Nat) : Int))) (b_add (by rw [IntKind.wrap_i64]; omega)) (lt_of rfl) trivial)] (by kernel_rfl) (by kernel_rfl) (by kernel_rfl) (by kernel_rfl) (by kernel_rfl) (by kernel_rfl) ?_
  refine nT ?_
  refine T.ret ?_
  exact tE (.inl rfl) [.t 2 (.one (.d (.val (.int .i64 (h + ((l.length : Nat) : Int))))))] ⟨⟨rfl, by kernel_rfl⟩, trivial⟩ [0, 1] rfl rfl rfl rfl rfl rfl ⟨⟨rfl, (by kernel_rfl)⟩, ⟨⟨rfl, (by kernel_rfl)⟩, trivial⟩⟩
end Go.Proofs.Ytdclfhahcfefeaa.Q
namespace Go.Proofs.Ytdclfhahcfefeaa.Q
open Go Go.RowKit
set_option linter.unusedVariables false
set_option linter.unusedSimpArgs false
set_option maxRecDepth 100000
set_option maxHeartbeats 4000000
theorem fld_80_1 : FieldAt Try.prog 80 1 4 := ⟨_, _, _, Try.underlying80, rfl, iat_29, by decide, rfl⟩
theorem fld_71_1 : FieldAt Try.prog 71 1 1 := ⟨_, _, _, Try.underlying71, rfl, iat_29, by decide, rfl⟩
-- (*quaestor/ledger.Ledger).Head
theorem ledger_Head (h : Int) (d : List UInt8) (l : List ledger_link) (hh : 0 ≤ h ∧ h ≤ 1099511627776) (hl : l.length ≤ 100) : Holds Try.prog 17 ⟨[pv 0 0], [.box 74 [.d (.val (.int .i64 h)), .d (.val (strV d)), .d (.val (.bool true)), .own 1 (k_ledger_link false).sz 0 l.length], arrK 80 (k_ledger_link false) l], dv (strV (hdL d l)), [.live (.box 74 [.d (.val (.int .i64 h)), .d (.val (strV d)), .d (.val (.bool true)), .own 1 (k_ledger_link false).sz 0 l.length]), .live (arrK 80 (k_ledger_link false) l)]⟩ := by
  refine Holds.of Try.func17 rfl (N := 27) Try.ntmps17 rfl fun w0 B0 S0 U0 => ?_
  show T _ (mkBase 27 2 w0 S0 U0 B0) ⟨[pv 0 0], [.live (.box 74 [.d (.val (.int .i64 h)), .d (.val (strV d)), .d (.val (.bool true)), .own 1 (k_ledger_link false).sz 0 l.length]), .live (arrK 80 (k_ledger_link false) l)]⟩ _ _
  refine T.seq ?_
  refine xR [] (by kernel_rfl) (by kernel_rfl) ?_
  refine nT ?_
  refine T.seq ?_
  refine T.seq ?_
  refine xR [] (by kernel_rfl) (by kernel_rfl) ?_
  refine nT ?_
  refine T.condF (b := false) (by kernel_rfl) rfl ?_
  refine T.skip ?_
  refine nT ?_
  refine T.seq ?_
  refine T.seq ?_
  refine xR [] (by kernel_rfl) (by kernel_rfl) ?_
  refine nT ?_
  refine T.seq ?_
  refine xR [] (by kernel_rfl) (by kernel_rfl) ?_
  refine nT ?_
  by_cases hq1 : ((l.length : Nat) : Int) > 0
  · refine T.condT (by kernel_rfl) (decide_eq_true hq1) ?_
    refine T.seq ?_
    refine xR [hR 5 rfl rfl (r_bin (u1 := .int .i64 ((l.length : Nat) : Int)) (u2 := .int .i64 1) (v := .int .i64 ((l.length - 1 : Nat) : Int)) (b_sub (by rw [IntKind.wrap_i64]; omega)) (lt_of rfl) ⟨rfl, trivial⟩),
      hR 6 rfl rfl (r_indexO (k := .i64) (l := 1) (sz := (k_ledger_link false).sz) (off := 0) (n := l.length) (i := ((l.length - 1 : Nat) : Int)) (m := (l.length - 1)) (o' := (l.length - 1) * (k_ledger_link false).sz + 0) Try.underlying72 iat_80 rfl rfl (by omega) (by simp) (lt_of rfl) trivial),
      hR 8 rfl rfl (r_loadA (l := 1) (off := (l.length - 1) * (k_ledger_link false).sz + 4) (i := l.length - 1) (j := 4) (T := 80) (sz := (k_ledger_link false).sz) (n := l.length) (el := elOf (k_ledger_link false) l) (c := .val (strV (l.getD (l.length - 1) z_ledger_link).f_digest)) wide_29 rfl (by omega) (by decide) rfl (lt_of rfl) trivial)] (by kernel_rfl) (by kernel_rfl) ?_
    refine nT ?_
    refine T.ret ?_
    refine rT ?_
    exact tE (.inl rfl) [.t 2 (.one (.d (.val (strV (l.getD (l.length - 1) z_ledger_link).f_digest))))] ⟨⟨rfl, by kernel_rfl⟩, trivial⟩ [0, 1] (by have e1 : ((hdL d l) : List UInt8) = (l.getD (l.length - 1) z_ledger_link).f_digest := (by (unfold hdL; rw [if_neg (by omega)])); have hE := congrArg (fun (q1 : List UInt8) => (dv (strV q1) : AV)) e1; exact hE) rfl rfl rfl rfl rfl ⟨⟨rfl, (by kernel_rfl)⟩, ⟨⟨rfl, (by kernel_rfl)⟩, trivial⟩⟩
  · refine T.condF (by kernel_rfl) (decide_eq_false hq1) ?_
    refine T.skip ?_
    refine nT ?_
    refine T.seq ?_
    refine xR [] (by kernel_rfl) (by kernel_rfl) ?_
    refine nT ?_
    refine T.ret ?_
    exact tE (.inl rfl) [.t 2 (.one (.d (.val (strV d))))] ⟨⟨rfl, by kernel_rfl⟩, trivial⟩ [0, 1] (by have e1 : ((hdL d l) : List UInt8) = d := (by (unfold hdL; rw [if_pos (by omega)])); have hE := congrArg (fun (q1 : List UInt8) => (dv (strV q1) : AV)) e1; exact hE) rfl rfl rfl rfl rfl ⟨⟨rfl, (by kernel_rfl)⟩, ⟨⟨rfl, (by kernel_rfl)⟩, trivial⟩⟩
end Go.Proofs.Ytdclfhahcfefeaa.Q
namespace Go.Proofs.Ytdclfhahcfefeaa.Q
open Go Go.RowKit
set_option linter.unusedVariables false
set_option linter.unusedSimpArgs false
set_option maxRecDepth 100000
set_option maxHeartbeats 4000000
-- (*quaestor/ledger.Ledger).Base
theorem ledger_Base (h : Int) (d : List UInt8) (l : List ledger_link) (hh : 0 ≤ h ∧ h ≤ 1099511627776) (hl : l.length ≤ 100) : Holds Try.prog 25 ⟨[pv 0 0], [.box 74 [.d (.val (.int .i64 h)), .d (.val (strV d)), .d (.val (.bool true)), .own 1 (k_ledger_link false).sz 0 l.length], arrK 80 (k_ledger_link false) l], .tup [.one (.d (.val (.int .i64 h))), .one (.d (.val (strV d)))], [.live (.box 74 [.d (.val (.int .i64 h)), .d (.val (strV d)), .d (.val (.bool true)), .own 1 (k_ledger_link false).sz 0 l.length]), .live (arrK 80 (k_ledger_link false) l)]⟩ := by
  refine Holds.of Try.func25 rfl (N := 16) Try.ntmps25 rfl fun w0 B0 S0 U0 => ?_
  show T _ (mkBase 16 2 w0 S0 U0 B0) ⟨[pv 0 0], [.live (.box 74 [.d (.val (.int .i64 h)), .d (.val (strV d)), .d (.val (.bool true)), .own 1 (k_ledger_link false).sz 0 l.length]), .live (arrK 80 (k_ledger_link false) l)]⟩ _ _
  refine T.seq ?_
  refine xR [] (by kernel_rfl) (by kernel_rfl) ?_
  refine nT ?_
  refine T.seq ?_
  refine T.seq ?_
  refine xR [] (by kernel_rfl) (by kernel_rfl) ?_
  refine nT ?_
  refine T.condF (b := false) (by kernel_rfl) rfl ?_
  refine T.skip ?_
  refine nT ?_
  refine T.seq ?_
  refine xD [[], [0], [0, 1], [0, 1, 2], [0, 1, 2, 3], [], [5], [5, 6], [5, 6, 7], [5, 6, 7, 8], [0, 1, 2, 3, 4], [0, 1, 2, 3, 4, 5, 6, 7, 8, 9, 10]] [] (by kernel_rfl) (by kernel_rfl) (by kernel_rfl) (by kernel_rfl) (by kernel_rfl) (by kernel_rfl) ?_
  refine nT ?_
  refine T.ret ?_
  exact tE (.inl rfl) [.t 2 (.one (.d (.val (.int .i64 h)))), .t 3 (.one (.d (.val (strV d))))] ⟨⟨rfl, by kernel_rfl⟩, ⟨⟨rfl, by kernel_rfl⟩, trivial⟩⟩ [0, 1] rfl rfl rfl rfl rfl rfl ⟨⟨rfl, (by kernel_rfl)⟩, ⟨⟨rfl, (by kernel_rfl)⟩, trivial⟩⟩
end Go.Proofs.Ytdclfhahcfefeaa.Q
namespace Go.Proofs.Ytdclfhahcfefeaa.Q
open Go Go.RowKit
set_option linter.unusedVariables false
set_option linter.unusedSimpArgs false
set_option maxRecDepth 100000
set_option maxHeartbeats 4000000
theorem fld_74_1 : FieldAt Try.prog 74 1 2 := ⟨_, _, _, Try.underlying74, rfl, iat_4, by decide, rfl⟩
theorem wide_4 : Wide Try.prog 4 none := ⟨_, Try.underlying4, (fun _ h => by cases h), (fun _ _ h => by cases h)⟩
theorem places_80 : Places Try.prog 80 [(0, 4), (4, 1)] := ⟨_, Try.underlying80, ⟨⟨rfl, _, iat_33, rfl⟩, ⟨⟨rfl, _, iat_29, rfl⟩, trivial⟩⟩⟩
theorem cells_72 : Cells Try.prog 72 1 := ⟨_, iat_72, rfl⟩
-- (*quaestor/ledger.Ledger).Append
theorem ledger_Append (h : Int) (d : List UInt8) (l : List ledger_link) (b : api_Block) (hh : 0 ≤ h ∧ h ≤ 1099511627776) (hl : l.length ≤ 100) (hf : fewB b) : Holds Try.prog 18 ⟨[pv 0 0, .tv (.agg [.d (.val (.int .i64 b.f_Height)), .d (.val (strV b.f_Prev)), .d (dsl false false (k_api_Envelope false) b.f_Requests), .d (dsl false false (k_api_Result false) b.f_Results)])], [.box 74 [.d (.val (.int .i64 h)), .d (.val (strV d)), .d (.val (.bool true)), .own 1 (k_ledger_link false).sz 0 l.length], arrK 80 (k_ledger_link false) l], dv (.int .i64 (appE h d l b)), [.live (.box 74 [.d (.val (.int .i64 h)), .d (.val (strV d)), .d (.val (.bool true)), .own 2 (k_ledger_link false).sz 0 (appL h d l b).length]), .dead, .live (arrK 80 (k_ledger_link false) (appL h d l b))]⟩ := by
  refine Holds.of Try.func18 rfl (N := 49) Try.ntmps18 rfl fun w0 B0 S0 U0 => ?_
  show T _ (mkBase 49 2 w0 S0 U0 B0) ⟨[pv 0 0, .tv (.agg [.d (.val (.int .i64 b.f_Height)), .d (.val (strV b.f_Prev)), .d (dsl false false (k_api_Envelope false) b.f_Requests), .d (dsl false false (k_api_Result false) b.f_Results)])], [.live (.box 74 [.d (.val (.int .i64 h)), .d (.val (strV d)), .d (.val (.bool true)), .own 1 (k_ledger_link false).sz 0 l.length]), .live (arrK 80 (k_ledger_link false) l)]⟩ _ _
  have hf1 := hf.1.1
  have hf2 := hf.2.1
  have hf3 := hf.2.2
  have hdf := head_few hf
  have hg1 := hdf.1
  have hg2 := hdf.2.1
  refine T.seq ?_
  refine xR [] (by kernel_rfl) (by kernel_rfl) ?_
  refine nT ?_
  refine T.seq ?_
  refine T.seq ?_
  refine xR [hY 3 (b := false) (w := false) rfl,
    hY 4 (b := false) (w := false) rfl,
    hY 5 (b := false) (w := false) rfl,
    hY 6 (b := false) (w := false) rfl,
    hY 7 (b := false) (w := false) rfl,
    hP 8 (b := false) (w := false) rfl] (by kernel_rfl) (by kernel_rfl) ?_
  refine nT ?_
  refine T.condF (b := (!true)) (by kernel_rfl) rfl ?_
  refine T.skip ?_
  refine nT ?_
  refine T.seq ?_
  refine T.seq ?_
  refine xR [hR 1 rfl rfl (r_call (block_Check false b (by omega) (by omega)) Try.func40 rfl (by decide) [] [] (l := [(.tmp 15, .tv (.agg [.d (.val (.int .i64 b.f_Height)), .d (.val (strV b.f_Prev)), .d (dsl false false (k_api_Envelope false) b.f_Requests), .d (dsl false false (k_api_Result false) b.f_Results)]))]) [] rfl 0 0 rfl rfl rfl rfl rfl rfl rfl rfl rfl ⟨⟨.inl ⟨rfl, rfl⟩, ⟨.inl ⟨rfl, rfl⟩, ⟨.inl ⟨rfl, rfl⟩, ⟨.inl ⟨rfl, rfl⟩, trivial⟩⟩⟩⟩, trivial⟩ rfl (fun b hb => by cases hb) (.inl rfl) (lt_of rfl) trivial)] (by kernel_rfl) (by kernel_rfl) ?_
  refine nT ?_
  refine T.block ?_
  refine T.seq ?_
  refine xR [] (by kernel_rfl) (by kernel_rfl) ?_
  refine nT ?_
  by_cases hq1 : (chkB b) ≠ 0
  · refine T.condT (by kernel_rfl) (decide_eq_true hq1) ?_
    refine T.seq ?_
    refine xR [] (by kernel_rfl) (by kernel_rfl) ?_
    refine nT ?_
    refine T.ret ?_
    refine rB ?_
    refine rT ?_
    refine Ends.turn (s' := ⟨[pv 0 0, .tv (.agg [.d (.val (.int .i64 b.f_Height)), .d (.val (strV b.f_Prev)), .d (dsl false false (k_api_Envelope false) b.f_Requests), .d (dsl false false (k_api_Result false) b.f_Results)]), aa, pv 2 0, dv (.int .i64 (chkB b)), dv (.int .i64 (chkB b)), aa, aa, aa, aa, aa, aa, aa, aa, dv (.bool (!true)), aa, aa, dv (.bool (decide ((chkB b) ≠ 0)))], [.live (.box 74 [.d (.val (.int .i64 h)), .d (.val (strV d)), .d (.val (.bool true)), .own 1 (k_ledger_link false).sz 0 l.length]), .live (arrK 80 (k_ledger_link false) l), .live (.box 33 [.d (.val (.int .i64 b.f_Height)), .d (.val (strV b.f_Prev)), .d (dsl false false (k_api_Envelope false) b.f_Requests), .d (dsl false false (k_api_Result false) b.f_Results)])]⟩) (fun _ _ hG => Gs.norm (by kernel_rfl) hG) ?_
    refine Ends.turn (s' := ⟨[pv 0 0, .tv (.agg [.d (.val (.int .i64 b.f_Height)), .d (.val (strV b.f_Prev)), .d (dsl false false (k_api_Envelope false) b.f_Requests), .d (dsl false false (k_api_Result false) b.f_Results)]), aa, pv 2 0, dv (.int .i64 (chkB b)), dv (.int .i64 (chkB b)), aa, aa, aa, aa, aa, aa, aa, aa, dv (.bool (!true)), aa, aa, dv (.bool (decide ((chkB b) ≠ 0)))], [.live (.box 74 [.d (.val (.int .i64 h)), .d (.val (strV d)), .d (.val (.bool true)), .own 3 (k_ledger_link false).sz 0 l.length]), .dead, .live (.box 33 [.d (.val (.int .i64 b.f_Height)), .d (.val (strV b.f_Prev)), .d (dsl false false (k_api_Envelope false) b.f_Requests), .d (dsl false false (k_api_Result false) b.f_Results)]), .live (arrK 80 (k_ledger_link false) l)]⟩) (fun _ _ hG => Gs.move (s := ⟨[pv 0 0, .tv (.agg [.d (.val (.int .i64 b.f_Height)), .d (.val (strV b.f_Prev)), .d (dsl false false (k_api_Envelope false) b.f_Requests), .d (dsl false false (k_api_Result false) b.f_Results)]), aa, pv 2 0, dv (.int .i64 (chkB b)), dv (.int .i64 (chkB b)), aa, aa, aa, aa, aa, aa, aa, aa, dv (.bool (!true)), aa, aa, dv (.bool (decide ((chkB b) ≠ 0)))], [.live (.box 74 [.d (.val (.int .i64 h)), .d (.val (strV d)), .d (.val (.bool true)), .own 1 (k_ledger_link false).sz 0 l.length]), .live (arrK 80 (k_ledger_link false) l), .live (.box 33 [.d (.val (.int .i64 b.f_Height)), .d (.val (strV b.f_Prev)), .d (dsl false false (k_api_Envelope false) b.f_Requests), .d (dsl false false (k_api_Result false) b.f_Results)])]⟩) 1 3 (o := arrK 80 (k_ledger_link false) l) rfl rfl rfl ⟨(.inl rfl), ⟨(.inl rfl), ⟨(.inl rfl), ⟨(.inl rfl), ⟨(.inl rfl), ⟨(.inl rfl), ⟨(.inl rfl), ⟨(.inl rfl), ⟨(.inl rfl), ⟨(.inl rfl), ⟨(.inl rfl), ⟨(.inl rfl), ⟨(.inl rfl), ⟨(.inl rfl), ⟨(.inl rfl), ⟨(.inl rfl), ⟨(.inl rfl), ⟨(.inl rfl), trivial⟩⟩⟩⟩⟩⟩⟩⟩⟩⟩⟩⟩⟩⟩⟩⟩⟩⟩ ⟨(.inr (.inr ⟨by decide, by decide, (.inr ⟨rfl, ⟨(.inl rfl), ⟨(.inl rfl), ⟨(.inl rfl), ⟨(.inr rfl), trivial⟩⟩⟩⟩⟩)⟩)), ⟨(.inl ⟨rfl, rfl⟩), ⟨(.inr (.inr ⟨by decide, by decide, (.inl rfl)⟩)), ⟨(.inr (.inl ⟨rfl, rfl⟩)), trivial⟩⟩⟩⟩ hG) ?_
    exact tE (.inl rfl) [.t 4 (.one (.d (.val (.int .i64 (chkB b)))))] ⟨⟨rfl, by kernel_rfl⟩, trivial⟩ [0, 1, 3] (by have e1 : ((appE h d l b) : Int) = (chkB b) := (by (have hx := app_chk (h := h) (d := d) (l := l) (b := b) (by assumption) ; exact hx.1)); have hE := congrArg (fun (q1 : Int) => (dv (.int .i64 q1) : AV)) e1; exact hE) rfl rfl rfl rfl rfl ⟨⟨rfl, (by have e1 : (l.length : Nat) = (appL h d l b).length := (by (have hx := app_chk (h := h) (d := d) (l := l) (b := b) (by assumption) ; (rw [hx.2]; done))); have hE := congrArg (fun (q1 : Nat) => (.live (.box 74 [.d (.val (.int .i64 h)), .d (.val (strV d)), .d (.val (.bool true)), .own 3 (k_ledger_link false).sz 0 q1]) : HS)) e1; exact Eq.trans (by kernel_rfl) hE)⟩, ⟨⟨rfl, (by have e1 : (l : List ledger_link) = (appL h d l b) := (by (have hx := app_chk (h := h) (d := d) (l := l) (b := b) (by assumption) ; exact hx.2.symm)); have hE := congrArg (fun (q1 : List ledger_link) => (.live (arrK 80 (k_ledger_link false) q1) : HS)) e1; exact Eq.trans (by kernel_rfl) hE)⟩, trivial⟩⟩
  · have hca := chk_all (Classical.not_not.1 hq1)
    refine T.condF (by kernel_rfl) (decide_eq_false hq1) ?_
    refine T.seq ?_
    refine xD [[], [0], [0, 1], [], [3], [0, 1, 2, 3, 4], [0, 1, 2, 3, 4, 5]] [hR 2 rfl rfl (r_bin (u1 := .int .i64 b.f_Height) (u2 := .int .i64 1) (v := .int .i64 (b.f_Height - 1)) (b_sub (by rw [IntKind.wrap_i64]; omega)) (lt_of rfl) ⟨rfl, trivial⟩),
      hR 4 rfl rfl (r_call (ledger_Height h d l (by assumption) (by assumption)) Try.func16 rfl (by decide) [0, 1] [] (l := [(.tmp 25, pv 0 0)]) [] rfl 2 2 rfl rfl rfl rfl rfl rfl rfl rfl rfl ⟨.inl ⟨rfl, rfl⟩, trivial⟩ rfl (fun b hb => by cases hb) (.inl rfl) (lt_of rfl) trivial)] (by kernel_rfl) (by kernel_rfl) (by kernel_rfl) (by kernel_rfl) (by kernel_rfl) (by kernel_rfl) ?_
    refine nT ?_
    by_cases hq2 : (b.f_Height - 1) ≠ (h + ((l.length : Nat) : Int))
    · refine T.condT (by kernel_rfl) (decide_eq_true hq2) ?_
      refine T.seq ?_
      refine xR [] (by kernel_rfl) (by kernel_rfl) ?_
      refine nT ?_
      refine T.ret ?_
      refine rB ?_
      refine rT ?_
      refine Ends.turn (s' := ⟨[pv 0 0, .tv (.agg [.d (.val (.int .i64 b.f_Height)), .d (.val (strV b.f_Prev)), .d (dsl false false (k_api_Envelope false) b.f_Requests), .d (dsl false false (k_api_Result false) b.f_Results)]), aa, pv 2 0, dv (.int .i64 100), dv (.int .i64 (chkB b)), aa, aa, aa, aa, aa, aa, aa, aa, dv (.bool (!true)), aa, aa, dv (.bool (decide ((chkB b) ≠ 0))), aa, aa, aa, dv (.bool (decide ((b.f_Height - 1) ≠ (h + ((l.length : Nat) : Int)))))], [.live (.box 74 [.d (.val (.int .i64 h)), .d (.val (strV d)), .d (.val (.bool true)), .own 1 (k_ledger_link false).sz 0 l.length]), .live (arrK 80 (k_ledger_link false) l), .live (.box 33 [.d (.val (.int .i64 b.f_Height)), .d (.val (strV b.f_Prev)), .d (dsl false false (k_api_Envelope false) b.f_Requests), .d (dsl false false (k_api_Result false) b.f_Results)])]⟩) (fun _ _ hG => Gs.norm (by kernel_rfl) hG) ?_
      refine Ends.turn (s' := ⟨[pv 0 0, .tv (.agg [.d (.val (.int .i64 b.f_Height)), .d (.val (strV b.f_Prev)), .d (dsl false false (k_api_Envelope false) b.f_Requests), .d (dsl false false (k_api_Result false) b.f_Results)]), aa, pv 2 0, dv (.int .i64 100), dv (.int .i64 (chkB b)), aa, aa, aa, aa, aa, aa, aa, aa, dv (.bool (!true)), aa, aa, dv (.bool (decide ((chkB b) ≠ 0))), aa, aa, aa, dv (.bool (decide ((b.f_Height - 1) ≠ (h + ((l.length : Nat) : Int)))))], [.live (.box 74 [.d (.val (.int .i64 h)), .d (.val (strV d)), .d (.val (.bool true)), .own 3 (k_ledger_link false).sz 0 l.length]), .dead, .live (.box 33 [.d (.val (.int .i64 b.f_Height)), .d (.val (strV b.f_Prev)), .d (dsl false false (k_api_Envelope false) b.f_Requests), .d (dsl false false (k_api_Result false) b.f_Results)]), .live (arrK 80 (k_ledger_link false) l)]⟩) (fun _ _ hG => Gs.move (s := ⟨[pv 0 0, .tv (.agg [.d (.val (.int .i64 b.f_Height)), .d (.val (strV b.f_Prev)), .d (dsl false false (k_api_Envelope false) b.f_Requests), .d (dsl false false (k_api_Result false) b.f_Results)]), aa, pv 2 0, dv (.int .i64 100), dv (.int .i64 (chkB b)), aa, aa, aa, aa, aa, aa, aa, aa, dv (.bool (!true)), aa, aa, dv (.bool (decide ((chkB b) ≠ 0))), aa, aa, aa, dv (.bool (decide ((b.f_Height - 1) ≠ (h + ((l.length : Nat) : Int)))))], [.live (.box 74 [.d (.val (.int .i64 h)), .d (.val (strV d)), .d (.val (.bool true)), .own 1 (k_ledger_link false).sz 0 l.length]), .live (arrK 80 (k_ledger_link false) l), .live (.box 33 [.d (.val (.int .i64 b.f_Height)), .d (.val (strV b.f_Prev)), .d (dsl false false (k_api_Envelope false) b.f_Requests), .d (dsl false false (k_api_Result false) b.f_Results)])]⟩) 1 3 (o := arrK 80 (k_ledger_link false) l) rfl rfl rfl ⟨(.inl rfl), ⟨(.inl rfl), ⟨(.inl rfl), ⟨(.inl rfl), ⟨(.inl rfl), ⟨(.inl rfl), ⟨(.inl rfl), ⟨(.inl rfl), ⟨(.inl rfl), ⟨(.inl rfl), ⟨(.inl rfl), ⟨(.inl rfl), ⟨(.inl rfl), ⟨(.inl rfl), ⟨(.inl rfl), ⟨(.inl rfl), ⟨(.inl rfl), ⟨(.inl rfl), ⟨(.inl rfl), ⟨(.inl rfl), ⟨(.inl rfl), ⟨(.inl rfl), trivial⟩⟩⟩⟩⟩⟩⟩⟩⟩⟩⟩⟩⟩⟩⟩⟩⟩⟩⟩⟩⟩⟩ ⟨(.inr (.inr ⟨by decide, by decide, (.inr ⟨rfl, ⟨(.inl rfl), ⟨(.inl rfl), ⟨(.inl rfl), ⟨(.inr rfl), trivial⟩⟩⟩⟩⟩)⟩)), ⟨(.inl ⟨rfl, rfl⟩), ⟨(.inr (.inr ⟨by decide, by decide, (.inl rfl)⟩)), ⟨(.inr (.inl ⟨rfl, rfl⟩)), trivial⟩⟩⟩⟩ hG) ?_
      exact tE (.inl rfl) [.t 4 (.one (.d (.val (.int .i64 100))))] ⟨⟨rfl, by kernel_rfl⟩, trivial⟩ [0, 1, 3] (by have e1 : ((appE h d l b) : Int) = 100 := (by (have hx := app_hgt (h := h) (d := d) (l := l) (b := b) (by assumption) (by assumption) ; exact hx.1)); have hE := congrArg (fun (q1 : Int) => (dv (.int .i64 q1) : AV)) e1; exact hE) rfl rfl rfl rfl rfl ⟨⟨rfl, (by have e1 : (l.length : Nat) = (appL h d l b).length := (by (have hx := app_hgt (h := h) (d := d) (l := l) (b := b) (by assumption) (by assumption) ; (rw [hx.2]; done))); have hE := congrArg (fun (q1 : Nat) => (.live (.box 74 [.d (.val (.int .i64 h)), .d (.val (strV d)), .d (.val (.bool true)), .own 3 (k_ledger_link false).sz 0 q1]) : HS)) e1; exact Eq.trans (by kernel_rfl) hE)⟩, ⟨⟨rfl, (by have e1 : (l : List ledger_link) = (appL h d l b) := (by (have hx := app_hgt (h := h) (d := d) (l := l) (b := b) (by assumption) (by assumption) ; exact hx.2.symm)); have hE := congrArg (fun (q1 : List ledger_link) => (.live (arrK 80 (k_ledger_link false) q1) : HS)) e1; exact Eq.trans (by kernel_rfl) hE)⟩, trivial⟩⟩
    · refine T.condF (by kernel_rfl) (decide_eq_false hq2) ?_
      refine T.seq ?_
      refine xD [[], [0], [], [2], [0, 1, 2, 3], [0, 1, 2, 3, 4]] [hR 3 rfl rfl (r_call (ledger_Head h d l (by assumption) (by assumption)) Try.func17 rfl (by decide) [0, 1] [] (l := [(.tmp 31, pv 0 0)]) [] rfl 2 2 rfl rfl rfl rfl rfl rfl rfl rfl rfl ⟨.inl ⟨rfl, rfl⟩, trivial⟩ rfl (fun b hb => by cases hb) (.inl rfl) (lt_of rfl) trivial)] (by kernel_rfl) (by kernel_rfl) (by kernel_rfl) (by kernel_rfl) (by kernel_rfl) (by kernel_rfl) ?_
      refine nT ?_
      by_cases hq3 : b.f_Prev ≠ (hdL d l)
      · refine T.condT (by kernel_rfl) (decide_eq_true hq3) ?_
        refine T.seq ?_
        refine xR [] (by kernel_rfl) (by kernel_rfl) ?_
        refine nT ?_
        refine T.ret ?_
        refine rB ?_
        refine rT ?_
        refine Ends.turn (s' := ⟨[pv 0 0, .tv (.agg [.d (.val (.int .i64 b.f_Height)), .d (.val (strV b.f_Prev)), .d (dsl false false (k_api_Envelope false) b.f_Requests), .d (dsl false false (k_api_Result false) b.f_Results)]), aa, pv 2 0, dv (.int .i64 101), dv (.int .i64 (chkB b)), aa, aa, aa, aa, aa, aa, aa, aa, dv (.bool (!true)), aa, aa, dv (.bool (decide ((chkB b) ≠ 0))), aa, aa, aa, dv (.bool (decide ((b.f_Height - 1) ≠ (h + ((l.length : Nat) : Int))))), aa, aa, aa, aa, aa, aa, dv (.bool (decide (b.f_Prev ≠ (hdL d l))))], [.live (.box 74 [.d (.val (.int .i64 h)), .d (.val (strV d)), .d (.val (.bool true)), .own 1 (k_ledger_link false).sz 0 l.length]), .live (arrK 80 (k_ledger_link false) l), .live (.box 33 [.d (.val (.int .i64 b.f_Height)), .d (.val (strV b.f_Prev)), .d (dsl false false (k_api_Envelope false) b.f_Requests), .d (dsl false false (k_api_Result false) b.f_Results)])]⟩) (fun _ _ hG => Gs.norm (by kernel_rfl) hG) ?_
        refine Ends.turn (s' := ⟨[pv 0 0, .tv (.agg [.d (.val (.int .i64 b.f_Height)), .d (.val (strV b.f_Prev)), .d (dsl false false (k_api_Envelope false) b.f_Requests), .d (dsl false false (k_api_Result false) b.f_Results)]), aa, pv 2 0, dv (.int .i64 101), dv (.int .i64 (chkB b)), aa, aa, aa, aa, aa, aa, aa, aa, dv (.bool (!true)), aa, aa, dv (.bool (decide ((chkB b) ≠ 0))), aa, aa, aa, dv (.bool (decide ((b.f_Height - 1) ≠ (h + ((l.length : Nat) : Int))))), aa, aa, aa, aa, aa, aa, dv (.bool (decide (b.f_Prev ≠ (hdL d l))))], [.live (.box 74 [.d (.val (.int .i64 h)), .d (.val (strV d)), .d (.val (.bool true)), .own 3 (k_ledger_link false).sz 0 l.length]), .dead, .live (.box 33 [.d (.val (.int .i64 b.f_Height)), .d (.val (strV b.f_Prev)), .d (dsl false false (k_api_Envelope false) b.f_Requests), .d (dsl false false (k_api_Result false) b.f_Results)]), .live (arrK 80 (k_ledger_link false) l)]⟩) (fun _ _ hG => Gs.move (s := ⟨[pv 0 0, .tv (.agg [.d (.val (.int .i64 b.f_Height)), .d (.val (strV b.f_Prev)), .d (dsl false false (k_api_Envelope false) b.f_Requests), .d (dsl false false (k_api_Result false) b.f_Results)]), aa, pv 2 0, dv (.int .i64 101), dv (.int .i64 (chkB b)), aa, aa, aa, aa, aa, aa, aa, aa, dv (.bool (!true)), aa, aa, dv (.bool (decide ((chkB b) ≠ 0))), aa, aa, aa, dv (.bool (decide ((b.f_Height - 1) ≠ (h + ((l.length : Nat) : Int))))), aa, aa, aa, aa, aa, aa, dv (.bool (decide (b.f_Prev ≠ (hdL d l))))], [.live (.box 74 [.d (.val (.int .i64 h)), .d (.val (strV d)), .d (.val (.bool true)), .own 1 (k_ledger_link false).sz 0 l.length]), .live (arrK 80 (k_ledger_link false) l), .live (.box 33 [.d (.val (.int .i64 b.f_Height)), .d (.val (strV b.f_Prev)), .d (dsl false false (k_api_Envelope false) b.f_Requests), .d (dsl false false (k_api_Result false) b.f_Results)])]⟩) 1 3 (o := arrK 80 (k_ledger_link false) l) rfl rfl rfl ⟨(.inl rfl), ⟨(.inl rfl), ⟨(.inl rfl), ⟨(.inl rfl), ⟨(.inl rfl), ⟨(.inl rfl), ⟨(.inl rfl), ⟨(.inl rfl), ⟨(.inl rfl), ⟨(.inl rfl), ⟨(.inl rfl), ⟨(.inl rfl), ⟨(.inl rfl), ⟨(.inl rfl), ⟨(.inl rfl), ⟨(.inl rfl), ⟨(.inl rfl), ⟨(.inl rfl), ⟨(.inl rfl), ⟨(.inl rfl), ⟨(.inl rfl), ⟨(.inl rfl), ⟨(.inl rfl), ⟨(.inl rfl), ⟨(.inl rfl), ⟨(.inl rfl), ⟨(.inl rfl), ⟨(.inl rfl), ⟨(.inl rfl), trivial⟩⟩⟩⟩⟩⟩⟩⟩⟩⟩⟩⟩⟩⟩⟩⟩⟩⟩⟩⟩⟩⟩⟩⟩⟩⟩⟩⟩⟩ ⟨(.inr (.inr ⟨by decide, by decide, (.inr ⟨rfl, ⟨(.inl rfl), ⟨(.inl rfl), ⟨(.inl rfl), ⟨(.inr rfl), trivial⟩⟩⟩⟩⟩)⟩)), ⟨(.inl ⟨rfl, rfl⟩), ⟨(.inr (.inr ⟨by decide, by decide, (.inl rfl)⟩)), ⟨(.inr (.inl ⟨rfl, rfl⟩)), trivial⟩⟩⟩⟩ hG) ?_
        exact tE (.inl rfl) [.t 4 (.one (.d (.val (.int .i64 101))))] ⟨⟨rfl, by kernel_rfl⟩, trivial⟩ [0, 1, 3] (by have e1 : ((appE h d l b) : Int) = 101 := (by (have hx := app_prv (h := h) (d := d) (l := l) (b := b) (by assumption) (by assumption) (by assumption) ; exact hx.1)); have hE := congrArg (fun (q1 : Int) => (dv (.int .i64 q1) : AV)) e1; exact hE) rfl rfl rfl rfl rfl ⟨⟨rfl, (by have e1 : (l.length : Nat) = (appL h d l b).length := (by (have hx := app_prv (h := h) (d := d) (l := l) (b := b) (by assumption) (by assumption) (by assumption) ; (rw [hx.2]; done))); have hE := congrArg (fun (q1 : Nat) => (.live (.box 74 [.d (.val (.int .i64 h)), .d (.val (strV d)), .d (.val (.bool true)), .own 3 (k_ledger_link false).sz 0 q1]) : HS)) e1; exact Eq.trans (by kernel_rfl) hE)⟩, ⟨⟨rfl, (by have e1 : (l : List ledger_link) = (appL h d l b) := (by (have hx := app_prv (h := h) (d := d) (l := l) (b := b) (by assumption) (by assumption) (by assumption) ; exact hx.2.symm)); have hE := congrArg (fun (q1 : List ledger_link) => (.live (arrK 80 (k_ledger_link false) q1) : HS)) e1; exact Eq.trans (by kernel_rfl) hE)⟩, trivial⟩⟩
      · refine T.condF (by kernel_rfl) (decide_eq_false hq3) ?_
        refine T.skip ?_
        refine nB ?_
        refine nT ?_
        refine T.seq ?_
        refine xD [[], [], [1], [1, 2], [1, 2, 3], [], [5], [], [5, 6, 7], [5, 6, 7, 8], [5, 6, 7, 8, 9], [5, 6, 7, 8, 9, 10], [1, 2, 3, 4, 5, 6, 7, 8, 9, 10, 11], [0, 1, 2, 3, 4, 5, 6, 7, 8, 9, 10, 11, 12], [0, 1, 2, 3, 4, 5, 6, 7, 8, 9, 10, 11, 12, 13], [0, 1, 2, 3, 4, 5, 6, 7, 8, 9, 10, 11, 12, 13, 14]] [hR 6 rfl rfl (r_call (ledger_twin b (by assumption)) Try.func41 rfl (by decide) [] [] (l := [(.tmp 39, .tv (.agg [.d (.val (.int .i64 b.f_Height)), .d (.val (strV b.f_Prev)), .d (dsl false false (k_api_Envelope false) b.f_Requests), .d (dsl false false (k_api_Result false) b.f_Results)]))]) [] rfl 0 0 rfl rfl rfl rfl rfl rfl rfl rfl rfl ⟨⟨.inl ⟨rfl, rfl⟩, ⟨.inl ⟨rfl, rfl⟩, ⟨.inl ⟨rfl, rfl⟩, ⟨.inl ⟨rfl, rfl⟩, trivial⟩⟩⟩⟩, trivial⟩ rfl (fun b hb => by cases hb) (.inl rfl) (lt_of rfl) trivial),
          hR 8 rfl rfl (r_call (block_Header false b (by assumption)) Try.func43 rfl (by decide) [] [] (l := [(.tmp 41, .tv (.agg [.d (.val (.int .i64 b.f_Height)), .d (.val (strV b.f_Prev)), .d (dsl false false (k_api_Envelope false) b.f_Requests), .d (dsl false false (k_api_Result false) b.f_Results)]))]) [] rfl 0 0 rfl rfl rfl rfl rfl rfl rfl rfl rfl ⟨⟨.inl ⟨rfl, rfl⟩, ⟨.inl ⟨rfl, rfl⟩, ⟨.inl ⟨rfl, rfl⟩, ⟨.inl ⟨rfl, rfl⟩, trivial⟩⟩⟩⟩, trivial⟩ rfl (fun b hb => by cases hb) (.inl rfl) (lt_of rfl) trivial),
          hR 9 rfl rfl (r_call (block_Digest (headB b) (by assumption) (by assumption)) Try.func42 rfl (by decide) [] [] (l := [(.tmp 42, .tv (.agg [.d (.val (.int .i64 (headB b).f_Height)), .d (.val (strV (headB b).f_Prev)), .d (.val (.int .i64 (headB b).f_Count)), .d (.val (strV (headB b).f_Root))]))]) [] rfl 0 0 rfl rfl rfl rfl rfl rfl rfl rfl rfl ⟨⟨.inl ⟨rfl, rfl⟩, ⟨.inl ⟨rfl, rfl⟩, ⟨.inl ⟨rfl, rfl⟩, ⟨.inl ⟨rfl, rfl⟩, trivial⟩⟩⟩⟩, trivial⟩ rfl (fun b hb => by cases hb) (.inl rfl) (lt_of rfl) trivial),
          hR 11 rfl rfl (q_buildSlice 3 80 (k_ledger_link false) (k_ledger_link_ok false) [(ledger_link.mk b (digB (headB b)))] [⟨0, .tmp 44, .agg [.d (.val (.int .i64 b.f_Height)), .d (.val (strV b.f_Prev)), .d (dsl false false (k_api_Envelope false) b.f_Requests), .d (dsl false false (k_api_Result false) b.f_Results), .d (.val (strV (digB (headB b))))], 0⟩] (cs := [.d (.val (.int .i64 b.f_Height)), .d (.val (strV b.f_Prev)), .d (dsl false false (k_api_Envelope false) b.f_Requests), .d (dsl false false (k_api_Result false) b.f_Results), .d (.val (strV (digB (headB b))))]) Try.underlying72 iat_80 rfl zero_80 rfl rfl rfl (Nat.le_of_ble_eq_true rfl) (part_cons rfl rfl (Nat.le_of_ble_eq_true rfl) part_ok) rfl ⟨(.inl rfl), ⟨(.inl rfl), ⟨(.inl rfl), ⟨(.inl rfl), ⟨(.inl rfl), trivial⟩⟩⟩⟩⟩ (lt_of rfl) trivial),
          hR 12 rfl rfl (q_appendO 1 4 80 88 (k_ledger_link false) (k_ledger_link_ok false) l [(ledger_link.mk b (digB (headB b)))] (l ++ [(ledger_link.mk b (digB (headB b)))]) l.length (sy := (.own 3 (k_ledger_link false).sz 0 [(ledger_link.mk b (digB (headB b)))].length)) (rhs := [(3, .live (arrK 80 (k_ledger_link false) [(ledger_link.mk b (digB (headB b)))]))]) elem_72 (by omega) (src_own 3 80 (k_ledger_link false) [(ledger_link.mk b (digB (headB b)))]) (by rw [List.take_length]) (by (simp [maxLen, -List.getD_eq_getElem?_getD] <;> omega)) (by (simp [maxLen, -List.getD_eq_getElem?_getD] <;> omega)) (lt_of rfl) trivial)] (by kernel_rfl) (by kernel_rfl) (by kernel_rfl) (by kernel_rfl) (by kernel_rfl) (by kernel_rfl) ?_
        refine nT ?_
        refine T.seq ?_
        refine xR [] (by kernel_rfl) (by kernel_rfl) ?_
        refine nT ?_
        refine T.ret ?_
        exact tE (.inl rfl) [.t 4 (.one (.d (.val (.int .i64 0))))] ⟨⟨rfl, by kernel_rfl⟩, trivial⟩ [0, 1, 4] (by have e1 : ((appE h d l b) : Int) = 0 := (by (have hx := app_ok (h := h) (d := d) (l := l) (b := b) (by assumption) (by assumption) (by assumption) ; exact hx.1)); have hE := congrArg (fun (q1 : Int) => (dv (.int .i64 q1) : AV)) e1; exact hE) rfl rfl rfl rfl rfl ⟨⟨rfl, (by have e1 : ((l ++ [(ledger_link.mk b (digB (headB b)))]).length : Nat) = (appL h d l b).length := (by (have hx := app_ok (h := h) (d := d) (l := l) (b := b) (by assumption) (by assumption) (by assumption) ; (rw [hx.2]; rfl))); have hE := congrArg (fun (q1 : Nat) => (.live (.box 74 [.d (.val (.int .i64 h)), .d (.val (strV d)), .d (.val (.bool true)), .own 4 (k_ledger_link false).sz 0 q1]) : HS)) e1; exact Eq.trans (by kernel_rfl) hE)⟩, ⟨⟨rfl, (by have e1 : (l ++ [(ledger_link.mk b (digB (headB b)))] : List ledger_link) = (appL h d l b) := (by (have hx := app_ok (h := h) (d := d) (l := l) (b := b) (by assumption) (by assumption) (by assumption) ; exact hx.2.symm)); have hE := congrArg (fun (q1 : List ledger_link) => (.live (arrK 80 (k_ledger_link false) q1) : HS)) e1; exact Eq.trans (by kernel_rfl) hE)⟩, trivial⟩⟩
end Go.Proofs.Ytdclfhahcfefeaa.Q
