import Derived.Test.YtdclfhahcfefeaaC11n3
namespace Go.Proofs.Ytdclfhahcfefeaa.Q
open Go Go.RowKit
set_option linter.unusedVariables false
set_option linter.unusedSimpArgs false
set_option maxRecDepth 100000
set_option maxHeartbeats 4000000
theorem elem_101 : Elem Try.prog 101 58 1 24 := ⟨Try.underlying101, _, _, iat_58, rfl, rfl, rfl, rfl, by decide⟩
theorem iat_78 : Try.prog.info? 78 = some Try.t78 := by kernel_rfl
theorem wide_78 : Wide Try.prog 78 (some 2) := ⟨_, _, Try.underlying78, .inl ⟨_, rfl⟩, iat_78, rfl⟩
theorem iat_88 : Try.prog.info? 88 = some Try.t88 := by kernel_rfl
theorem wide_88 : Wide Try.prog 88 (some 2) := ⟨_, _, Try.underlying88, .inl ⟨_, rfl⟩, iat_88, rfl⟩
theorem cells_58 : Cells Try.prog 58 1 := ⟨_, iat_58, rfl⟩
-- quaestor/block.leaves
theorem block_leaves (tb_ : Bool) (b : api_Block) (hf : fewW b) : Holds Try.prog 69 ⟨[.tv (.agg [.d (.val (.int .i64 b.f_Height)), .d (.val (strV b.f_Prev)), .d (dsl tb_ false (k_api_Envelope tb_) b.f_Requests), .d (dsl tb_ false (k_api_Result tb_) b.f_Results)])], [], ownV 0 (kSl false kU8) 0 (leavesB b).length, [.live (arrK 58 (kSl false kU8) (leavesB b))]⟩ := by
  refine Holds.of Try.func69 rfl (N := 34) Try.ntmps69 rfl fun w0 B0 S0 U0 => ?_
  show T _ (mkBase 34 0 w0 S0 U0 B0) ⟨[.tv (.agg [.d (.val (.int .i64 b.f_Height)), .d (.val (strV b.f_Prev)), .d (dsl tb_ false (k_api_Envelope tb_) b.f_Requests), .d (dsl tb_ false (k_api_Result tb_) b.f_Results)])], []⟩ _ _
  have hf1 := hf.1.1
  have hf2 := hf.2.1
  have hf3 := hf.2.2
  have hll := leaves_len b
  have hfl := few_leavesW hf
  refine T.seq ?_
  refine xR [] (by kernel_rfl) (by kernel_rfl) ?_
  refine nT ?_
  refine T.seq ?_
  refine xR [hR 6 rfl rfl (r_minN (k := .i64) (a := b.f_Requests.length) (b := b.f_Results.length) (lt_of rfl) trivial),
    hR 7 rfl rfl (q_makeW 1 58 24 (kSl false kU8) (fillL [] (leavesB b) 0) (min b.f_Requests.length b.f_Results.length) (min b.f_Requests.length b.f_Results.length) (p := ((min b.f_Requests.length b.f_Results.length : Nat) : Int)) (q := ((min b.f_Requests.length b.f_Results.length : Nat) : Int)) elem_101 zero_58 rfl rfl (by omega) (by omega) (by (unfold maxLen; omega)) (by intro j hj; replace hj : j < 1 := hj; rcases j with _ | j <;> first | exact .inr ⟨rfl, rfl, rfl⟩ | omega) (by (rw [fill_0, hll]; rfl)) (lt_of rfl) trivial)] (by kernel_rfl) (by kernel_rfl) ?_
  refine nT ?_
  refine T.seq ?_
  refine T.seq ?_
  refine xR [] (by kernel_rfl) (by kernel_rfl) ?_
  refine nT ?_
  refine T.block ?_
  refine T.loop (ι := Nat) (fun (k : Nat) => ⟨[aa, pv 0 0, aa, ownV 1 (kSl false kU8) 0 (fillL [] (leavesB b) k).length, aa, aa, aa, aa, aa, aa, aa, aa, aa, aa, dv (.int .i64 (((leavesB b).length : Nat) : Int)), dv (.int .i64 ((k : Nat) : Int))], [.live (.box 33 [.d (.val (.int .i64 b.f_Height)), .d (.val (strV b.f_Prev)), .d (dsl tb_ false (k_api_Envelope tb_) b.f_Requests), .d (dsl tb_ false (k_api_Result tb_) b.f_Results)]), .live (arrK 58 (kSl false kU8) (fillL [] (leavesB b) k))]⟩) (fun (k : Nat) => (k ≤ (leavesB b).length)) (fun (k : Nat) => (leavesB b).length - k) (0) (Nat.zero_le _) (fun _ _ hG => Gs.into2 (s' := ⟨[aa, pv 0 0, aa, ownV 1 (kSl false kU8) 0 (fillL [] (leavesB b) 0).length, aa, aa, aa, aa, aa, aa, aa, aa, aa, aa, dv (.int .i64 (((leavesB b).length : Nat) : Int)), dv (.int .i64 0)], [.live (.box 33 [.d (.val (.int .i64 b.f_Height)), .d (.val (strV b.f_Prev)), .d (dsl tb_ false (k_api_Envelope tb_) b.f_Requests), .d (dsl tb_ false (k_api_Result tb_) b.f_Results)]), .live (arrK 58 (kSl false kU8) (fillL [] (leavesB b) 0))]⟩) [0, 1] (bm 16 49162) (t1 := [aa, pv 0 0, aa, ownV 1 (kSl false kU8) 0 (fillL [] (leavesB b) 0).length, aa, aa, aa, aa, aa, aa, aa, aa, aa, aa, dv (.int .i64 (((leavesB b).length : Nat) : Int)), dv (.int .i64 0)]) (t2 := [aa, pv 0 0, aa, ownV 1 (kSl false kU8) 0 (fillL [] (leavesB b) 0).length, aa, aa, aa, aa, aa, aa, aa, aa, aa, aa, dv (.int .i64 (((fillL [] (leavesB b) 0).length : Nat) : Int)), dv (.int .i64 0)]) (h1 := [.live (.box 33 [.d (.val (.int .i64 b.f_Height)), .d (.val (strV b.f_Prev)), .d (dsl tb_ false (k_api_Envelope tb_) b.f_Requests), .d (dsl tb_ false (k_api_Result tb_) b.f_Results)]), .live (arrK 58 (kSl false kU8) (fillL [] (leavesB b) 0))]) (by have e1 : ((((leavesB b).length : Nat) : Int) : Int) = (((fillL [] (leavesB b) 0).length : Nat) : Int) := (by (simp only [fill_len]; done)); have hE := congrArg (fun (q1 : Int) => ([aa, pv 0 0, aa, ownV 1 (kSl false kU8) 0 (fillL [] (leavesB b) 0).length, aa, aa, aa, aa, aa, aa, aa, aa, aa, aa, dv (.int .i64 q1), dv (.int .i64 0)] : List AV)) e1; exact hE) rfl (by kernel_rfl) (by kernel_rfl) (by kernel_rfl) (by kernel_rfl) (by kernel_rfl) (by kernel_rfl) (by kernel_rfl) (by kernel_rfl) (by kernel_rfl) (by kernel_rfl) (by kernel_rfl) hG) ?_
  rintro k hk
  show T _ _ ⟨[aa, pv 0 0, aa, ownV 1 (kSl false kU8) 0 (fillL [] (leavesB b) k).length, aa, aa, aa, aa, aa, aa, aa, aa, aa, aa, dv (.int .i64 (((leavesB b).length : Nat) : Int)), dv (.int .i64 ((k : Nat) : Int))], [.live (.box 33 [.d (.val (.int .i64 b.f_Height)), .d (.val (strV b.f_Prev)), .d (dsl tb_ false (k_api_Envelope tb_) b.f_Requests), .d (dsl tb_ false (k_api_Result tb_) b.f_Results)]), .live (arrK 58 (kSl false kU8) (fillL [] (leavesB b) k))]⟩ _ _
  replace hk : k ≤ (leavesB b).length := hk
  have hf1 := hf.1.1
  have hf2 := hf.2.1
  have hf3 := hf.2.2
  have hll := leaves_len b
  have hfl := few_leavesW hf
  have hbk : (b.f_Requests.getD k z_api_Envelope).f_Body.length ≤ 20000 := fewG_get (sz := szE) hf.1 (by decide) k
  have hfk := fill_len ([] : List UInt8) (leavesB b) k
  refine T.seq ?_
  refine xR [] (by kernel_rfl) (by kernel_rfl) ?_
  refine nT ?_
  refine T.seq ?_
  by_cases hq1 : ((k : Nat) : Int) < (((leavesB b).length : Nat) : Int)
  · refine T.condT (by kernel_rfl) (decide_eq_true hq1) ?_
    refine T.skip ?_
    refine nT ?_
    refine T.seq ?_
    refine T.block ?_
    refine T.seq ?_
    refine xR [] (by kernel_rfl) (by kernel_rfl) ?_
    refine nT ?_
    refine xD [[], [], [], [2], [], [2, 3, 4], [2, 3, 4, 5], [], [7], [], [7, 8, 9], [7, 8, 9, 10], [2, 3, 4, 5, 6, 7, 8, 9, 10, 11], [0, 1, 2, 3, 4, 5, 6, 7, 8, 9, 10, 11, 12], [0, 1, 2, 3, 4, 5, 6, 7, 8, 9, 10, 11, 12, 13]] [hR 5 rfl rfl (q_index tb_ false (k_api_Envelope tb_) b.f_Requests k (k := .i64) (i := ((k : Nat) : Int)) Try.underlying30 iat_78 rfl rfl (by omega) (lt_of rfl) trivial),
      hR 10 rfl rfl (q_index tb_ false (k_api_Result tb_) b.f_Results k (k := .i64) (i := ((k : Nat) : Int)) Try.underlying31 iat_88 rfl rfl (by omega) (lt_of rfl) trivial),
      hR 12 rfl rfl (r_call (block_Leaf tb_ (b.f_Requests.getD k z_api_Envelope) (b.f_Results.getD k z_api_Result) (by omega)) Try.func84 rfl (by decide) [2] [] (l := [(.tmp 24, .tv (.agg [.d (.val (.int .i64 (b.f_Requests.getD k z_api_Envelope).f_Signer)), .d (dsl tb_ false kU8 (b.f_Requests.getD k z_api_Envelope).f_Body)])), (.tmp 29, .tv (.agg [.d (.val (.int .i64 (b.f_Results.getD k z_api_Result).f_Code)), .d (.val (.int .i64 (b.f_Results.getD k z_api_Result).f_Stage))]))]) [] rfl 0 1 rfl rfl rfl rfl rfl rfl rfl rfl rfl ⟨⟨.inl ⟨rfl, rfl⟩, ⟨.inl ⟨rfl, rfl⟩, trivial⟩⟩, ⟨⟨.inl ⟨rfl, rfl⟩, ⟨.inl ⟨rfl, rfl⟩, trivial⟩⟩, trivial⟩⟩ rfl (fun b hb => by cases hb) (.inl rfl) (lt_of rfl) trivial),
      hR 13 rfl rfl (r_indexO (k := .i64) (l := 1) (sz := (kSl false kU8).sz) (off := 0) (n := (fillL [] (leavesB b) k).length) (i := ((k : Nat) : Int)) (m := k) (o' := k * (kSl false kU8).sz + 0) Try.underlying101 iat_58 rfl rfl (by omega) (by simp) (lt_of rfl) trivial),
      hR 14 rfl rfl (ORule.frz 1 30 2 5 kU8 (leafB (b.f_Requests.getD k z_api_Envelope) (b.f_Results.getD k z_api_Result)) (av := ownV 2 kU8 0 (leafB (b.f_Requests.getD k z_api_Envelope) (b.f_Results.getD k z_api_Result)).length) (q_storeA 1 58 (kSl false kU8) (fillL [] (leavesB b) k) (leafB (b.f_Requests.getD k z_api_Envelope) (b.f_Results.getD k z_api_Result)) k 0 1 [dsl false false kU8 (leafB (b.f_Requests.getD k z_api_Envelope) (b.f_Results.getD k z_api_Result))] (tv := .one (.d (dsl false false kU8 (leafB (b.f_Requests.getD k z_api_Envelope) (b.f_Results.getD k z_api_Result))))) (off := k * (kSl false kU8).sz + 0) cells_58 ⟨(.inl rfl), trivial⟩ rfl rfl (by omega) (by decide) rfl (by intro j hj; replace hj : j < 1 := hj; rcases j with _ | j <;> first | rfl | omega) trivial) rfl (.inr (.inr ⟨rfl, rfl, rfl, (fun h => by cases h), rfl, rfl, by omega, fun i j _ => by rw [Nat.zero_add]⟩)) (by intro h; cases h) rfl rfl)] (by kernel_rfl) (by kernel_rfl) (by kernel_rfl) (by kernel_rfl) (by kernel_rfl) (by kernel_rfl) ?_
    refine nB ?_
    refine nT ?_
    refine xR [hR 0 rfl rfl (r_bin (u1 := .int .i64 ((k : Nat) : Int)) (u2 := .int .i64 1) (v := .int .i64 ((k + 1 : Nat) : Int)) (b_add (by rw [IntKind.wrap_i64]; omega)) (lt_of rfl) ⟨rfl, trivial⟩)] (by kernel_rfl) (by kernel_rfl) ?_
    refine Ends.turn (s' := ⟨[aa, pv 0 0, aa, ownV 1 (kSl false kU8) 0 (fillL [] (leavesB b) k).length, dv (.int .i64 ((k : Nat) : Int)), aa, aa, aa, aa, aa, aa, aa, aa, aa, dv (.int .i64 (((leavesB b).length : Nat) : Int)), dv (.int .i64 ((k + 1 : Nat) : Int)), dv (.bool (decide (((k : Nat) : Int) < (((leavesB b).length : Nat) : Int))))], [.live (.box 33 [.d (.val (.int .i64 b.f_Height)), .d (.val (strV b.f_Prev)), .d (dsl tb_ false (k_api_Envelope tb_) b.f_Requests), .d (dsl tb_ false (k_api_Result tb_) b.f_Results)]), .live (arrK 58 (kSl false kU8) ((fillL [] (leavesB b) k).set k (leafB (b.f_Requests.getD k z_api_Envelope) (b.f_Results.getD k z_api_Result)))), .dead]⟩) (fun _ _ hG => Gs.norm (by kernel_rfl) hG) ?_
    refine Ends.turn (s' := ⟨[aa, pv 0 0, aa, ownV 1 (kSl false kU8) 0 (fillL [] (leavesB b) k).length, dv (.int .i64 ((k : Nat) : Int)), aa, aa, aa, aa, aa, aa, aa, aa, aa, dv (.int .i64 (((leavesB b).length : Nat) : Int)), dv (.int .i64 ((k + 1 : Nat) : Int)), dv (.bool (decide (((k : Nat) : Int) < (((leavesB b).length : Nat) : Int))))], [.live (.box 33 [.d (.val (.int .i64 b.f_Height)), .d (.val (strV b.f_Prev)), .d (dsl tb_ false (k_api_Envelope tb_) b.f_Requests), .d (dsl tb_ false (k_api_Result tb_) b.f_Results)]), .live (arrK 58 (kSl false kU8) (((fillL [] (leavesB b) k).set k (leafB (b.f_Requests.getD k z_api_Envelope) (b.f_Results.getD k z_api_Result))).take (fillL [] (leavesB b) k).length)), .dead]⟩) (fun _ _ hG => Gs.trunc 1 58 (kSl false kU8) ((fillL [] (leavesB b) k).set k (leafB (b.f_Requests.getD k z_api_Envelope) (b.f_Results.getD k z_api_Result))) (((fillL [] (leavesB b) k).set k (leafB (b.f_Requests.getD k z_api_Envelope) (b.f_Results.getD k z_api_Result))).take (fillL [] (leavesB b) k).length) (fillL [] (leavesB b) k).length rfl rfl hG) ?_
    refine nL (k + 1) (show (k + 1) ≤ (leavesB b).length from (by omega)) (show ((leavesB b).length - (k + 1) : Nat) < (leavesB b).length - k from (by omega)) (fun _ _ hG => Gs.into2 (s' := ⟨[aa, pv 0 0, aa, ownV 1 (kSl false kU8) 0 (fillL [] (leavesB b) (k + 1)).length, aa, aa, aa, aa, aa, aa, aa, aa, aa, aa, dv (.int .i64 (((leavesB b).length : Nat) : Int)), dv (.int .i64 ((k + 1 : Nat) : Int))], [.live (.box 33 [.d (.val (.int .i64 b.f_Height)), .d (.val (strV b.f_Prev)), .d (dsl tb_ false (k_api_Envelope tb_) b.f_Requests), .d (dsl tb_ false (k_api_Result tb_) b.f_Results)]), .live (arrK 58 (kSl false kU8) (fillL [] (leavesB b) (k + 1)))]⟩) [0, 1] (bm 16 49162) (t1 := [aa, pv 0 0, aa, ownV 1 (kSl false kU8) 0 (fillL [] (leavesB b) (k + 1)).length, aa, aa, aa, aa, aa, aa, aa, aa, aa, aa, dv (.int .i64 (((leavesB b).length : Nat) : Int)), dv (.int .i64 ((k + 1 : Nat) : Int))]) (t2 := [aa, pv 0 0, aa, ownV 1 (kSl false kU8) 0 (fillL [] (leavesB b) k).length, aa, aa, aa, aa, aa, aa, aa, aa, aa, aa, dv (.int .i64 (((leavesB b).length : Nat) : Int)), dv (.int .i64 ((k + 1 : Nat) : Int))]) (h1 := [.live (.box 33 [.d (.val (.int .i64 b.f_Height)), .d (.val (strV b.f_Prev)), .d (dsl tb_ false (k_api_Envelope tb_) b.f_Requests), .d (dsl tb_ false (k_api_Result tb_) b.f_Results)]), .live (arrK 58 (kSl false kU8) (fillL [] (leavesB b) (k + 1)))]) (h2 := [.live (.box 33 [.d (.val (.int .i64 b.f_Height)), .d (.val (strV b.f_Prev)), .d (dsl tb_ false (k_api_Envelope tb_) b.f_Requests), .d (dsl tb_ false (k_api_Result tb_) b.f_Results)]), .live (arrK 58 (kSl false kU8) (((fillL [] (leavesB b) k).set k (leafB (b.f_Requests.getD k z_api_Envelope) (b.f_Results.getD k z_api_Result))).take (fillL [] (leavesB b) k).length))]) (by have e1 : ((fillL [] (leavesB b) (k + 1)).length : Nat) = (fillL [] (leavesB b) k).length := (by (simp only [fill_len, List.length_set])); have hE := congrArg (fun (q1 : Nat) => ([aa, pv 0 0, aa, ownV 1 (kSl false kU8) 0 q1, aa, aa, aa, aa, aa, aa, aa, aa, aa, aa, dv (.int .i64 (((leavesB b).length : Nat) : Int)), dv (.int .i64 ((k + 1 : Nat) : Int))] : List AV)) e1; exact hE) (by have e1 : ((fillL [] (leavesB b) (k + 1)) : List (List UInt8)) = (((fillL [] (leavesB b) k).set k (leafB (b.f_Requests.getD k z_api_Envelope) (b.f_Results.getD k z_api_Result))).take (fillL [] (leavesB b) k).length) := (by (rw [← leaves_get (by omega) (by omega), fill_set (by omega), List.take_of_length_le (by simp only [fill_len]; omega)])); have hE := congrArg (fun (q1 : List (List UInt8)) => ([.live (.box 33 [.d (.val (.int .i64 b.f_Height)), .d (.val (strV b.f_Prev)), .d (dsl tb_ false (k_api_Envelope tb_) b.f_Requests), .d (dsl tb_ false (k_api_Result tb_) b.f_Results)]), .live (arrK 58 (kSl false kU8) q1)] : List HS)) e1; exact hE) (by kernel_rfl) (by kernel_rfl) (by kernel_rfl) (by kernel_rfl) (by kernel_rfl) (by kernel_rfl) (by kernel_rfl) (by kernel_rfl) (by kernel_rfl) (by kernel_rfl) (by kernel_rfl) hG)
  · refine T.condF (by kernel_rfl) (decide_eq_false hq1) ?_
    refine T.exit ?_
    refine xT ?_
    refine xT ?_
    refine xH ?_
    refine nT ?_
    refine T.seq ?_
    refine xR [] (by kernel_rfl) (by kernel_rfl) ?_
    refine nT ?_
    refine T.ret ?_
    exact tE (.inl rfl) [.t 2 (.one (.own 1 (kSl false kU8).sz 0 (fillL [] (leavesB b) k).length))] ⟨⟨rfl, by kernel_rfl⟩, trivial⟩ [1] (by have e1 : ((leavesB b).length : Nat) = (fillL [] (leavesB b) k).length := (by (rw [fill_end (by omega)])); have hE := congrArg (fun (q1 : Nat) => (ownV 1 (kSl false kU8) 0 q1 : AV)) e1; exact hE) rfl rfl rfl rfl rfl ⟨⟨rfl, (by have e1 : ((fillL [] (leavesB b) k) : List (List UInt8)) = (leavesB b) := (by (rw [fill_end (by omega)])); have hE := congrArg (fun (q1 : List (List UInt8)) => (.live (arrK 58 (kSl false kU8) q1) : HS)) e1; exact Eq.trans (by kernel_rfl) hE)⟩, trivial⟩
end Go.Proofs.Ytdclfhahcfefeaa.Q
namespace Go.Proofs.Ytdclfhahcfefeaa.Q
open Go Go.RowKit
set_option linter.unusedVariables false
set_option linter.unusedSimpArgs false
set_option maxRecDepth 100000
set_option maxHeartbeats 4000000
-- quaestor/quaestorref10.leaves
theorem ref10_leaves (tb_ : Bool) (b : api_Block) (hf : fewW b) : Holds Try.prog 89 ⟨[.tv (.agg [.d (.val (.int .i64 b.f_Height)), .d (.val (strV b.f_Prev)), .d (dsl tb_ false (k_api_Envelope tb_) b.f_Requests), .d (dsl tb_ false (k_api_Result tb_) b.f_Results)])], [], ownV 0 (kSl false kU8) 0 (leavesB b).length, [.live (arrK 58 (kSl false kU8) (leavesB b))]⟩ := by
  refine Holds.of Try.func89 rfl (N := 34) Try.ntmps89 rfl fun w0 B0 S0 U0 => ?_
  show T _ (mkBase 34 0 w0 S0 U0 B0) ⟨[.tv (.agg [.d (.val (.int .i64 b.f_Height)), .d (.val (strV b.f_Prev)), .d (dsl tb_ false (k_api_Envelope tb_) b.f_Requests), .d (dsl tb_ false (k_api_Result tb_) b.f_Results)])], []⟩ _ _
  have hf1 := hf.1.1
  have hf2 := hf.2.1
  have hf3 := hf.2.2
  have hll := leaves_len b
  have hfl := few_leavesW hf
  refine T.seq ?_
  refine xR [] (by kernel_rfl) (by kernel_rfl) ?_
  refine nT ?_
  refine T.seq ?_
  refine xR [] (by kernel_rfl) (by kernel_rfl) ?_
  refine nT ?_
  refine T.seq ?_
  refine T.seq ?_
  refine xR [] (by kernel_rfl) (by kernel_rfl) ?_
  refine nT ?_
  refine T.block ?_
  refine T.turn (s' := ⟨[.tv (.agg [.d (.val (.int .i64 b.f_Height)), .d (.val (strV b.f_Prev)), .d (dsl tb_ false (k_api_Envelope tb_) b.f_Requests), .d (dsl tb_ false (k_api_Result tb_) b.f_Results)]), pv 0 0, dv (.slice none 0 0), dv (.slice none 0 0), dv (.int .i64 0)], [.live (.box 33 [.d (.val (.int .i64 b.f_Height)), .d (.val (strV b.f_Prev)), .d (dsl tb_ false (k_api_Envelope tb_) b.f_Requests), .d (dsl tb_ false (k_api_Result tb_) b.f_Results)])]⟩) (fun _ _ hG => Gs.norm (by kernel_rfl) hG) ?_
  refine T.turn (s' := ⟨[.tv (.agg [.d (.val (.int .i64 b.f_Height)), .d (.val (strV b.f_Prev)), .d (dsl tb_ false (k_api_Envelope tb_) b.f_Requests), .d (dsl tb_ false (k_api_Result tb_) b.f_Results)]), pv 0 0, dv (.slice none 0 0), ownV 1 (kSl false kU8) 0 0, dv (.int .i64 0)], [.live (.box 33 [.d (.val (.int .i64 b.f_Height)), .d (.val (strV b.f_Prev)), .d (dsl tb_ false (k_api_Envelope tb_) b.f_Requests), .d (dsl tb_ false (k_api_Result tb_) b.f_Results)]), .live (arrK 58 (kSl false kU8) ([] : List (List UInt8)))]⟩) (fun _ _ hG => Gs.absent 1 3 58 (kSl false kU8) rfl rfl hG) ?_
  refine T.loop (ι := Nat) (fun (k : Nat) => ⟨[aa, pv 0 0, aa, ownV 1 (kSl false kU8) 0 ((leavesB b).take k).length, dv (.int .i64 ((k : Nat) : Int))], [.live (.box 33 [.d (.val (.int .i64 b.f_Height)), .d (.val (strV b.f_Prev)), .d (dsl tb_ false (k_api_Envelope tb_) b.f_Requests), .d (dsl tb_ false (k_api_Result tb_) b.f_Results)]), .live (arrK 58 (kSl false kU8) ((leavesB b).take k))]⟩) (fun (k : Nat) => (k ≤ (leavesB b).length)) (fun (k : Nat) => (leavesB b).length - k) (0) (Nat.zero_le _) (fun _ _ hG => Gs.into2 (s' := ⟨[aa, pv 0 0, aa, ownV 1 (kSl false kU8) 0 ((leavesB b).take 0).length, dv (.int .i64 0)], [.live (.box 33 [.d (.val (.int .i64 b.f_Height)), .d (.val (strV b.f_Prev)), .d (dsl tb_ false (k_api_Envelope tb_) b.f_Requests), .d (dsl tb_ false (k_api_Result tb_) b.f_Results)]), .live (arrK 58 (kSl false kU8) ((leavesB b).take 0))]⟩) [0, 1] (bm 5 26) (t1 := [aa, pv 0 0, aa, ownV 1 (kSl false kU8) 0 ((leavesB b).take 0).length, dv (.int .i64 0)]) (t2 := [aa, pv 0 0, aa, ownV 1 (kSl false kU8) 0 0, dv (.int .i64 0)]) (h1 := [.live (.box 33 [.d (.val (.int .i64 b.f_Height)), .d (.val (strV b.f_Prev)), .d (dsl tb_ false (k_api_Envelope tb_) b.f_Requests), .d (dsl tb_ false (k_api_Result tb_) b.f_Results)]), .live (arrK 58 (kSl false kU8) ((leavesB b).take 0))]) (h2 := [.live (.box 33 [.d (.val (.int .i64 b.f_Height)), .d (.val (strV b.f_Prev)), .d (dsl tb_ false (k_api_Envelope tb_) b.f_Requests), .d (dsl tb_ false (k_api_Result tb_) b.f_Results)]), .live (arrK 58 (kSl false kU8) ([] : List (List UInt8)))]) (by have e1 : (((leavesB b).take 0).length : Nat) = 0 := (by rfl); have hE := congrArg (fun (q1 : Nat) => ([aa, pv 0 0, aa, ownV 1 (kSl false kU8) 0 q1, dv (.int .i64 0)] : List AV)) e1; exact hE) (by have e1 : (((leavesB b).take 0) : List (List UInt8)) = ([] : List (List UInt8)) := (by rfl); have hE := congrArg (fun (q1 : List (List UInt8)) => ([.live (.box 33 [.d (.val (.int .i64 b.f_Height)), .d (.val (strV b.f_Prev)), .d (dsl tb_ false (k_api_Envelope tb_) b.f_Requests), .d (dsl tb_ false (k_api_Result tb_) b.f_Results)]), .live (arrK 58 (kSl false kU8) q1)] : List HS)) e1; exact hE) (by kernel_rfl) (by kernel_rfl) (by kernel_rfl) (by kernel_rfl) (by kernel_rfl) (by kernel_rfl) (by kernel_rfl) (by kernel_rfl) (by kernel_rfl) (by kernel_rfl) (by kernel_rfl) hG) ?_
  rintro k hk
  show T _ _ ⟨[aa, pv 0 0, aa, ownV 1 (kSl false kU8) 0 ((leavesB b).take k).length, dv (.int .i64 ((k : Nat) : Int))], [.live (.box 33 [.d (.val (.int .i64 b.f_Height)), .d (.val (strV b.f_Prev)), .d (dsl tb_ false (k_api_Envelope tb_) b.f_Requests), .d (dsl tb_ false (k_api_Result tb_) b.f_Results)]), .live (arrK 58 (kSl false kU8) ((leavesB b).take k))]⟩ _ _
  replace hk : k ≤ (leavesB b).length := hk
  have hf1 := hf.1.1
  have hf2 := hf.2.1
  have hf3 := hf.2.2
  have hll := leaves_len b
  have hfl := few_leavesW hf
  have hbk : (b.f_Requests.getD k z_api_Envelope).f_Body.length ≤ 20000 := fewG_get (sz := szE) hf.1 (by decide) k
  refine T.seq ?_
  refine T.seq ?_
  by_cases hq1 : ((k : Nat) : Int) < ((b.f_Requests.length : Nat) : Int)
  · refine xR [hY 6 (decide_eq_true hq1),
      hY 7 (decide_eq_true hq1),
      hY 8 (decide_eq_true hq1),
      hY 9 (decide_eq_true hq1),
      hY 10 (decide_eq_true hq1),
      hP 11 (decide_eq_true hq1)] (by kernel_rfl) (by kernel_rfl) ?_
    refine nT ?_
    by_cases hq2 : ((k : Nat) : Int) < ((b.f_Results.length : Nat) : Int)
    · refine T.condT (by kernel_rfl) (decide_eq_true hq2) ?_
      refine T.skip ?_
      refine nT ?_
      refine T.seq ?_
      refine T.block ?_
      refine xD [[], [], [1], [], [1, 2, 3], [1, 2, 3, 4], [], [6], [], [6, 7, 8], [6, 7, 8, 9], [1, 2, 3, 4, 5, 6, 7, 8, 9, 10], [1, 2, 3, 4, 5, 6, 7, 8, 9, 10, 11], [0, 1, 2, 3, 4, 5, 6, 7, 8, 9, 10, 11, 12], [0, 1, 2, 3, 4, 5, 6, 7, 8, 9, 10, 11, 12, 13]] [hR 4 rfl rfl (q_index tb_ false (k_api_Envelope tb_) b.f_Requests k (k := .i64) (i := ((k : Nat) : Int)) Try.underlying30 iat_78 rfl rfl (by omega) (lt_of rfl) trivial),
        hR 9 rfl rfl (q_index tb_ false (k_api_Result tb_) b.f_Results k (k := .i64) (i := ((k : Nat) : Int)) Try.underlying31 iat_88 rfl rfl (by omega) (lt_of rfl) trivial),
        hR 11 rfl rfl (r_call (ref10_Leaf tb_ (b.f_Requests.getD k z_api_Envelope) (b.f_Results.getD k z_api_Result) (by omega)) Try.func92 rfl (by decide) [2] [] (l := [(.tmp 24, .tv (.agg [.d (.val (.int .i64 (b.f_Requests.getD k z_api_Envelope).f_Signer)), .d (dsl tb_ false kU8 (b.f_Requests.getD k z_api_Envelope).f_Body)])), (.tmp 29, .tv (.agg [.d (.val (.int .i64 (b.f_Results.getD k z_api_Result).f_Code)), .d (.val (.int .i64 (b.f_Results.getD k z_api_Result).f_Stage))]))]) [] rfl 0 1 rfl rfl rfl rfl rfl rfl rfl rfl rfl ⟨⟨.inl ⟨rfl, rfl⟩, ⟨.inl ⟨rfl, rfl⟩, trivial⟩⟩, ⟨⟨.inl ⟨rfl, rfl⟩, ⟨.inl ⟨rfl, rfl⟩, trivial⟩⟩, trivial⟩⟩ rfl (fun b hb => by cases hb) (.inl rfl) (lt_of rfl) trivial),
        hR 12 rfl rfl (ORule.frz 0 30 2 5 kU8 (leafB (b.f_Requests.getD k z_api_Envelope) (b.f_Results.getD k z_api_Result)) (av := ownV 2 kU8 0 (leafB (b.f_Requests.getD k z_api_Envelope) (b.f_Results.getD k z_api_Result)).length) (q_buildSlice 3 58 (kSl false kU8) (kSl_ok false kU8) [leafB (b.f_Requests.getD k z_api_Envelope) (b.f_Results.getD k z_api_Result)] [⟨0, .tmp 30, .one (.d (dsl false false kU8 (leafB (b.f_Requests.getD k z_api_Envelope) (b.f_Results.getD k z_api_Result)))), 0⟩] (cs := [.d (dsl false false kU8 (leafB (b.f_Requests.getD k z_api_Envelope) (b.f_Results.getD k z_api_Result)))]) Try.underlying101 iat_58 rfl zero_58 rfl rfl rfl (Nat.le_of_ble_eq_true rfl) (part_cons rfl rfl (Nat.le_of_ble_eq_true rfl) part_ok) rfl ⟨(.inl rfl), trivial⟩ (lt_of rfl) trivial) rfl (.inr (.inr ⟨rfl, rfl, rfl, (fun h => by cases h), rfl, rfl, by omega, fun i j _ => by rw [Nat.zero_add]⟩)) (by intro h; cases h) rfl rfl),
        hR 13 rfl rfl (q_appendO 1 4 58 24 (kSl false kU8) (kSl_ok false kU8) ((leavesB b).take k) [leafB (b.f_Requests.getD k z_api_Envelope) (b.f_Results.getD k z_api_Result)] (((leavesB b).take k) ++ [leafB (b.f_Requests.getD k z_api_Envelope) (b.f_Results.getD k z_api_Result)]) ((leavesB b).take k).length (sy := (.own 3 (kSl false kU8).sz 0 [leafB (b.f_Requests.getD k z_api_Envelope) (b.f_Results.getD k z_api_Result)].length)) (rhs := [(3, .live (arrK 58 (kSl false kU8) [leafB (b.f_Requests.getD k z_api_Envelope) (b.f_Results.getD k z_api_Result)]))]) elem_101 (by omega) (src_own 3 58 (kSl false kU8) [leafB (b.f_Requests.getD k z_api_Envelope) (b.f_Results.getD k z_api_Result)]) (by rw [List.take_length]) (by (simp [maxLen, -List.getD_eq_getElem?_getD] <;> omega)) (by (simp [maxLen, -List.getD_eq_getElem?_getD] <;> omega)) (lt_of rfl) trivial)] (by kernel_rfl) (by kernel_rfl) (by kernel_rfl) (by kernel_rfl) (by kernel_rfl) (by kernel_rfl) ?_
      refine nB ?_
      refine nT ?_
      refine xR [hR 1 rfl rfl (r_bin (u1 := .int .i64 ((k : Nat) : Int)) (u2 := .int .i64 1) (v := .int .i64 ((k + 1 : Nat) : Int)) (b_add (by rw [IntKind.wrap_i64]; omega)) (lt_of rfl) ⟨rfl, trivial⟩)] (by kernel_rfl) (by kernel_rfl) ?_
      refine nL (k + 1) (show (k + 1) ≤ (leavesB b).length from (by omega)) (show ((leavesB b).length - (k + 1) : Nat) < (leavesB b).length - k from (by omega)) (fun _ _ hG => Gs.into2 (s' := ⟨[aa, pv 0 0, aa, ownV 1 (kSl false kU8) 0 ((leavesB b).take (k + 1)).length, dv (.int .i64 ((k + 1 : Nat) : Int))], [.live (.box 33 [.d (.val (.int .i64 b.f_Height)), .d (.val (strV b.f_Prev)), .d (dsl tb_ false (k_api_Envelope tb_) b.f_Requests), .d (dsl tb_ false (k_api_Result tb_) b.f_Results)]), .live (arrK 58 (kSl false kU8) ((leavesB b).take (k + 1)))]⟩) [0, 4] (bm 5 26) (t1 := [aa, pv 0 0, aa, ownV 4 (kSl false kU8) 0 ((leavesB b).take (k + 1)).length, dv (.int .i64 ((k + 1 : Nat) : Int))]) (t2 := [aa, pv 0 0, aa, ownV 4 (kSl false kU8) 0 (((leavesB b).take k) ++ [leafB (b.f_Requests.getD k z_api_Envelope) (b.f_Results.getD k z_api_Result)]).length, dv (.int .i64 ((k + 1 : Nat) : Int))]) (h1 := [.live (.box 33 [.d (.val (.int .i64 b.f_Height)), .d (.val (strV b.f_Prev)), .d (dsl tb_ false (k_api_Envelope tb_) b.f_Requests), .d (dsl tb_ false (k_api_Result tb_) b.f_Results)]), .live (arrK 58 (kSl false kU8) ((leavesB b).take (k + 1)))]) (h2 := [.live (.box 33 [.d (.val (.int .i64 b.f_Height)), .d (.val (strV b.f_Prev)), .d (dsl tb_ false (k_api_Envelope tb_) b.f_Requests), .d (dsl tb_ false (k_api_Result tb_) b.f_Results)]), .live (arrK 58 (kSl false kU8) (((leavesB b).take k) ++ [leafB (b.f_Requests.getD k z_api_Envelope) (b.f_Results.getD k z_api_Result)]))]) (by have e1 : (((leavesB b).take (k + 1)).length : Nat) = (((leavesB b).take k) ++ [leafB (b.f_Requests.getD k z_api_Envelope) (b.f_Results.getD k z_api_Result)]).length := (by (rw [← leaves_get (by omega) (by omega), tk_succ (z := []) (by omega)])); have hE := congrArg (fun (q1 : Nat) => ([aa, pv 0 0, aa, ownV 4 (kSl false kU8) 0 q1, dv (.int .i64 ((k + 1 : Nat) : Int))] : List AV)) e1; exact hE) (by have e1 : (((leavesB b).take (k + 1)) : List (List UInt8)) = ((leavesB b).take k) ++ [leafB (b.f_Requests.getD k z_api_Envelope) (b.f_Results.getD k z_api_Result)] := (by (rw [← leaves_get (by omega) (by omega), tk_succ (z := []) (by omega)])); have hE := congrArg (fun (q1 : List (List UInt8)) => ([.live (.box 33 [.d (.val (.int .i64 b.f_Height)), .d (.val (strV b.f_Prev)), .d (dsl tb_ false (k_api_Envelope tb_) b.f_Requests), .d (dsl tb_ false (k_api_Result tb_) b.f_Results)]), .live (arrK 58 (kSl false kU8) q1)] : List HS)) e1; exact hE) (by kernel_rfl) (by kernel_rfl) (by kernel_rfl) (by kernel_rfl) (by kernel_rfl) (by kernel_rfl) (by kernel_rfl) (by kernel_rfl) (by kernel_rfl) (by kernel_rfl) (by kernel_rfl) hG)
    · refine T.condF (by kernel_rfl) (decide_eq_false hq2) ?_
      refine T.exit ?_
      refine xT ?_
      refine xT ?_
      refine xH ?_
      refine nT ?_
      refine T.seq ?_
      refine xR [] (by kernel_rfl) (by kernel_rfl) ?_
      refine nT ?_
      refine T.ret ?_
      exact tE (.inl rfl) [.t 2 (.one (.own 1 (kSl false kU8).sz 0 ((leavesB b).take k).length))] ⟨⟨rfl, by kernel_rfl⟩, trivial⟩ [1] (by have e1 : ((leavesB b).length : Nat) = ((leavesB b).take k).length := (by (rw [List.take_of_length_le (by omega)])); have hE := congrArg (fun (q1 : Nat) => (ownV 1 (kSl false kU8) 0 q1 : AV)) e1; exact hE) rfl rfl rfl rfl rfl ⟨⟨rfl, (by have e1 : (((leavesB b).take k) : List (List UInt8)) = (leavesB b) := (by (rw [List.take_of_length_le (by omega)])); have hE := congrArg (fun (q1 : List (List UInt8)) => (.live (arrK 58 (kSl false kU8) q1) : HS)) e1; exact Eq.trans (by kernel_rfl) hE)⟩, trivial⟩
  · refine xR [hN 6 true (decide_eq_false hq1),
      hN 7 true (decide_eq_false hq1),
      hN 8 true (decide_eq_false hq1),
      hN 9 true (decide_eq_false hq1),
      hN 10 true (decide_eq_false hq1),
      hP 11 (decide_eq_false hq1)] (by kernel_rfl) (by kernel_rfl) ?_
    refine nT ?_
    refine T.condF (b := false) (by kernel_rfl) rfl ?_
    refine T.exit ?_
    refine xT ?_
    refine xT ?_
    refine xH ?_
    refine nT ?_
    refine T.seq ?_
    refine xR [] (by kernel_rfl) (by kernel_rfl) ?_
    refine nT ?_
    refine T.ret ?_
    exact tE (.inl rfl) [.t 2 (.one (.own 1 (kSl false kU8).sz 0 ((leavesB b).take k).length))] ⟨⟨rfl, by kernel_rfl⟩, trivial⟩ [1] (by have e1 : ((leavesB b).length : Nat) = ((leavesB b).take k).length := (by (rw [List.take_of_length_le (by omega)])); have hE := congrArg (fun (q1 : Nat) => (ownV 1 (kSl false kU8) 0 q1 : AV)) e1; exact hE) rfl rfl rfl rfl rfl ⟨⟨rfl, (by have e1 : (((leavesB b).take k) : List (List UInt8)) = (leavesB b) := (by (rw [List.take_of_length_le (by omega)])); have hE := congrArg (fun (q1 : List (List UInt8)) => (.live (arrK 58 (kSl false kU8) q1) : HS)) e1; exact Eq.trans (by kernel_rfl) hE)⟩, trivial⟩
end Go.Proofs.Ytdclfhahcfefeaa.Q
namespace Go.Proofs.Ytdclfhahcfefeaa.Q
open Go Go.RowKit
set_option linter.unusedVariables false
set_option linter.unusedSimpArgs false
set_option maxRecDepth 100000
set_option maxHeartbeats 4000000
theorem iat_84 : Try.prog.info? 84 = some Try.t84 := by kernel_rfl
theorem zero_84 : Zero Try.prog 84 [.int .i64 0, strV [], .int .i64 0, strV []] := ⟨_, _, iat_84, rfl, rfl⟩
theorem iat_33 : Try.prog.info? 33 = some Try.t33 := by kernel_rfl
theorem wide_33 : Wide Try.prog 33 (some 4) := ⟨_, _, Try.underlying33, .inl ⟨_, rfl⟩, iat_33, rfl⟩
theorem iat_29 : Try.prog.info? 29 = some Try.t29 := by kernel_rfl
theorem fld_33_1 : FieldAt Try.prog 33 1 1 := ⟨_, _, _, Try.underlying33, rfl, iat_29, by decide, rfl⟩
theorem wide_29 : Wide Try.prog 29 none := ⟨_, Try.underlying29, (fun _ h => by cases h), (fun _ _ h => by cases h)⟩
theorem places_84 : Places Try.prog 84 [(0, 1), (1, 1), (2, 1), (3, 1)] := ⟨_, Try.underlying84, ⟨⟨rfl, _, iat_3, rfl⟩, ⟨⟨rfl, _, iat_29, rfl⟩, ⟨⟨rfl, _, iat_3, rfl⟩, ⟨⟨rfl, _, iat_29, rfl⟩, trivial⟩⟩⟩⟩⟩
theorem cells_84 : Cells Try.prog 84 4 := ⟨_, iat_84, rfl⟩
theorem wide_84 : Wide Try.prog 84 (some 4) := ⟨_, _, Try.underlying84, .inl ⟨_, rfl⟩, iat_84, rfl⟩
-- quaestor/block.Header
theorem block_Header (tb_ : Bool) (b : api_Block) (hf : fewB b) : Holds Try.prog 43 ⟨[.tv (.agg [.d (.val (.int .i64 b.f_Height)), .d (.val (strV b.f_Prev)), .d (dsl tb_ false (k_api_Envelope tb_) b.f_Requests), .d (dsl tb_ false (k_api_Result tb_) b.f_Results)])], [], .tv (.agg [.d (.val (.int .i64 (headB b).f_Height)), .d (.val (strV (headB b).f_Prev)), .d (.val (.int .i64 (headB b).f_Count)), .d (.val (strV (headB b).f_Root))]), []⟩ := by
  refine Holds.of Try.func43 rfl (N := 15) Try.ntmps43 rfl fun w0 B0 S0 U0 => ?_
  show T _ (mkBase 15 0 w0 S0 U0 B0) ⟨[.tv (.agg [.d (.val (.int .i64 b.f_Height)), .d (.val (strV b.f_Prev)), .d (dsl tb_ false (k_api_Envelope tb_) b.f_Requests), .d (dsl tb_ false (k_api_Result tb_) b.f_Results)])], []⟩ _ _
  have hf1 := hf.1.1
  have hf2 := hf.2.1
  have hf3 := hf.2.2
  have hll := leaves_len b
  have hfl := few_leaves hf
  have hrl := few_root hfl
  refine T.seq ?_
  refine xR [] (by kernel_rfl) (by kernel_rfl) ?_
  refine nT ?_
  refine T.seq ?_
  refine xR [hR 1 rfl rfl (r_call (block_leaves tb_ b (by exact few_wide (by assumption))) Try.func69 rfl (by decide) [2] [] (l := [(.tmp 4, .tv (.agg [.d (.val (.int .i64 b.f_Height)), .d (.val (strV b.f_Prev)), .d (dsl tb_ false (k_api_Envelope tb_) b.f_Requests), .d (dsl tb_ false (k_api_Result tb_) b.f_Results)]))]) [] rfl 0 1 rfl rfl rfl rfl rfl rfl rfl rfl rfl ⟨⟨.inl ⟨rfl, rfl⟩, ⟨.inl ⟨rfl, rfl⟩, ⟨.inl ⟨rfl, rfl⟩, ⟨.inl ⟨rfl, rfl⟩, trivial⟩⟩⟩⟩, trivial⟩ rfl (fun b hb => by cases hb) (.inl rfl) (lt_of rfl) trivial)] (by kernel_rfl) (by kernel_rfl) ?_
  refine nT ?_
  refine T.seq ?_
  refine xD [[], [0], [], [2], [], [4], [], [6], [0, 1, 2, 3, 4, 5, 6, 7], [0, 1, 2, 3, 4, 5, 6, 7, 8]] [hR 7 rfl rfl (r_call (merkle_Root true false false (leavesB b) (by assumption)) Try.func70 rfl (by decide) [] [2] (l := [(.tmp 12, ownV 2 (kSl false kU8) 0 (leavesB b).length)]) [(2, .live (arrK 58 (kSl false kU8) (leavesB b)))] rfl 0 0 rfl rfl rfl rfl rfl rfl rfl rfl rfl ⟨.inr (.inl ⟨rfl, (fun h => by cases h), rfl, rfl, by simp, 58, (leavesB b).length, elOf (kSl false kU8) (leavesB b), List.Mem.head _, by omega, fun i j => by rw [Nat.zero_add]⟩), trivial⟩ rfl (by intro b hb; simp only [List.mem_cons, List.not_mem_nil, or_false] at hb; rcases hb with rfl; exact ⟨_, List.Mem.head _⟩) (.inr ⟨trivial, trivial⟩) (lt_of rfl) trivial)] (by kernel_rfl) (by kernel_rfl) (by kernel_rfl) (by kernel_rfl) (by kernel_rfl) (by kernel_rfl) ?_
  refine nT ?_
  refine T.ret ?_
  exact tE (.inl rfl) [.c 2 1 84 0 84 [.d (.val (.int .i64 b.f_Height)), .d (.val (strV b.f_Prev)), .d (.val (.int .i64 (((leavesB b).length : Nat) : Int))), .d (.val (strV (rootB (leavesB b))))] (.agg [.d (.val (.int .i64 b.f_Height)), .d (.val (strV b.f_Prev)), .d (.val (.int .i64 (((leavesB b).length : Nat) : Int))), .d (.val (strV (rootB (leavesB b))))])] ⟨⟨rfl, rfl, by kernel_rfl, by kernel_rfl, .inl ⟨4, wide_84, rfl, Nat.le_of_ble_eq_true rfl⟩⟩, trivial⟩ [] (by have e1 : ((headB b).f_Height : Int) = b.f_Height := (by rfl); have e2 : ((headB b).f_Prev : List UInt8) = b.f_Prev := (by rfl); have e3 : ((headB b).f_Count : Int) = (((leavesB b).length : Nat) : Int) := (by rfl); have e4 : ((headB b).f_Root : List UInt8) = (rootB (leavesB b)) := (by rfl); have hE := congr (congr (congr (congrArg (fun (q1 : Int) (q2 : List UInt8) (q3 : Int) (q4 : List UInt8) => (.tv (.agg [.d (.val (.int .i64 q1)), .d (.val (strV q2)), .d (.val (.int .i64 q3)), .d (.val (strV q4))]) : AV)) e1) e2) e3) e4; exact hE) rfl rfl rfl rfl rfl trivial
end Go.Proofs.Ytdclfhahcfefeaa.Q
namespace Go.Proofs.Ytdclfhahcfefeaa.Q
open Go Go.RowKit
set_option linter.unusedVariables false
set_option linter.unusedSimpArgs false
set_option maxRecDepth 100000
set_option maxHeartbeats 4000000
-- quaestor/quaestorref10.Header
theorem ref10_Header (tb_ : Bool) (b : api_Block) (hf : fewB b) : Holds Try.prog 82 ⟨[.tv (.agg [.d (.val (.int .i64 b.f_Height)), .d (.val (strV b.f_Prev)), .d (dsl tb_ false (k_api_Envelope tb_) b.f_Requests), .d (dsl tb_ false (k_api_Result tb_) b.f_Results)])], [], .tv (.agg [.d (.val (.int .i64 (headB b).f_Height)), .d (.val (strV (headB b).f_Prev)), .d (.val (.int .i64 (headB b).f_Count)), .d (.val (strV (headB b).f_Root))]), []⟩ := by
  refine Holds.of Try.func82 rfl (N := 15) Try.ntmps82 rfl fun w0 B0 S0 U0 => ?_
  show T _ (mkBase 15 0 w0 S0 U0 B0) ⟨[.tv (.agg [.d (.val (.int .i64 b.f_Height)), .d (.val (strV b.f_Prev)), .d (dsl tb_ false (k_api_Envelope tb_) b.f_Requests), .d (dsl tb_ false (k_api_Result tb_) b.f_Results)])], []⟩ _ _
  have hf1 := hf.1.1
  have hf2 := hf.2.1
  have hf3 := hf.2.2
  have hll := leaves_len b
  have hfl := few_leaves hf
  have hrl := few_root hfl
  refine T.seq ?_
  refine xR [] (by kernel_rfl) (by kernel_rfl) ?_
  refine nT ?_
  refine T.seq ?_
  refine xR [hR 1 rfl rfl (r_call (ref10_leaves tb_ b (by exact few_wide (by assumption))) Try.func89 rfl (by decide) [2] [] (l := [(.tmp 4, .tv (.agg [.d (.val (.int .i64 b.f_Height)), .d (.val (strV b.f_Prev)), .d (dsl tb_ false (k_api_Envelope tb_) b.f_Requests), .d (dsl tb_ false (k_api_Result tb_) b.f_Results)]))]) [] rfl 0 1 rfl rfl rfl rfl rfl rfl rfl rfl rfl ⟨⟨.inl ⟨rfl, rfl⟩, ⟨.inl ⟨rfl, rfl⟩, ⟨.inl ⟨rfl, rfl⟩, ⟨.inl ⟨rfl, rfl⟩, trivial⟩⟩⟩⟩, trivial⟩ rfl (fun b hb => by cases hb) (.inl rfl) (lt_of rfl) trivial)] (by kernel_rfl) (by kernel_rfl) ?_
  refine nT ?_
  refine T.seq ?_
  refine xD [[], [0], [], [2], [], [4], [], [6], [0, 1, 2, 3, 4, 5, 6, 7], [0, 1, 2, 3, 4, 5, 6, 7, 8]] [hR 7 rfl rfl (r_call (ref09_Root true false false (leavesB b) (by assumption)) Try.func90 rfl (by decide) [] [2] (l := [(.tmp 12, ownV 2 (kSl false kU8) 0 (leavesB b).length)]) [(2, .live (arrK 58 (kSl false kU8) (leavesB b)))] rfl 0 0 rfl rfl rfl rfl rfl rfl rfl rfl rfl ⟨.inr (.inl ⟨rfl, (fun h => by cases h), rfl, rfl, by simp, 58, (leavesB b).length, elOf (kSl false kU8) (leavesB b), List.Mem.head _, by omega, fun i j => by rw [Nat.zero_add]⟩), trivial⟩ rfl (by intro b hb; simp only [List.mem_cons, List.not_mem_nil, or_false] at hb; rcases hb with rfl; exact ⟨_, List.Mem.head _⟩) (.inr ⟨trivial, trivial⟩) (lt_of rfl) trivial)] (by kernel_rfl) (by kernel_rfl) (by kernel_rfl) (by kernel_rfl) (by kernel_rfl) (by kernel_rfl) ?_
  refine nT ?_
  refine T.ret ?_
  exact tE (.inl rfl) [.c 2 1 84 0 84 [.d (.val (.int .i64 b.f_Height)), .d (.val (strV b.f_Prev)), .d (.val (.int .i64 (((leavesB b).length : Nat) : Int))), .d (.val (strV (rootB (leavesB b))))] (.agg [.d (.val (.int .i64 b.f_Height)), .d (.val (strV b.f_Prev)), .d (.val (.int .i64 (((leavesB b).length : Nat) : Int))), .d (.val (strV (rootB (leavesB b))))])] ⟨⟨rfl, rfl, by kernel_rfl, by kernel_rfl, .inl ⟨4, wide_84, rfl, Nat.le_of_ble_eq_true rfl⟩⟩, trivial⟩ [] (by have e1 : ((headB b).f_Height : Int) = b.f_Height := (by rfl); have e2 : ((headB b).f_Prev : List UInt8) = b.f_Prev := (by rfl); have e3 : ((headB b).f_Count : Int) = (((leavesB b).length : Nat) : Int) := (by rfl); have e4 : ((headB b).f_Root : List UInt8) = (rootB (leavesB b)) := (by rfl); have hE := congr (congr (congr (congrArg (fun (q1 : Int) (q2 : List UInt8) (q3 : Int) (q4 : List UInt8) => (.tv (.agg [.d (.val (.int .i64 q1)), .d (.val (strV q2)), .d (.val (.int .i64 q3)), .d (.val (strV q4))]) : AV)) e1) e2) e3) e4; exact hE) rfl rfl rfl rfl rfl trivial
end Go.Proofs.Ytdclfhahcfefeaa.Q
namespace Go.Proofs.Ytdclfhahcfefeaa.Q
open Go Go.RowKit
set_option linter.unusedVariables false
set_option linter.unusedSimpArgs false
set_option maxRecDepth 100000
set_option maxHeartbeats 4000000
theorem fld_84_0 : FieldAt Try.prog 84 0 0 := ⟨_, _, _, Try.underlying84, rfl, iat_3, by decide, rfl⟩
theorem fld_84_1 : FieldAt Try.prog 84 1 1 := ⟨_, _, _, Try.underlying84, rfl, iat_29, by decide, rfl⟩
theorem fld_84_2 : FieldAt Try.prog 84 2 2 := ⟨_, _, _, Try.underlying84, rfl, iat_3, by decide, rfl⟩
theorem fld_84_3 : FieldAt Try.prog 84 3 3 := ⟨_, _, _, Try.underlying84, rfl, iat_29, by decide, rfl⟩
-- quaestor/block.Digest
theorem block_Digest (h : api_Header) (hp : h.f_Prev.length ≤ 10000000) (hr : h.f_Root.length ≤ 10000000) : Holds Try.prog 42 ⟨[.tv (.agg [.d (.val (.int .i64 h.f_Height)), .d (.val (strV h.f_Prev)), .d (.val (.int .i64 h.f_Count)), .d (.val (strV h.f_Root))])], [], dv (strV (digB h)), []⟩ := by
  refine Holds.of Try.func42 rfl (N := 19) Try.ntmps42 rfl fun w0 B0 S0 U0 => ?_
  show T _ (mkBase 19 0 w0 S0 U0 B0) ⟨[.tv (.agg [.d (.val (.int .i64 h.f_Height)), .d (.val (strV h.f_Prev)), .d (.val (.int .i64 h.f_Count)), .d (.val (strV h.f_Root))])], []⟩ _ _
  have hz1 := sz4 (([] : List UInt8) ++ intsB [h.f_Height]) h.f_Prev (([] : List UInt8) ++ intsB [h.f_Count]) h.f_Root
  have hz2 := sz4 (([] : List UInt8) ++ intB h.f_Height) h.f_Prev (([] : List UInt8) ++ intB h.f_Count) h.f_Root
  have hi1n : (([] : List UInt8) ++ intB h.f_Height).length = 8 := int_len _
  have hi2n : (([] : List UInt8) ++ intB h.f_Count).length = 8 := int_len _
  have hi1 := int_len h.f_Height
  have hi2 := int_len h.f_Count
  have hi3 : (intsB [h.f_Height]).length = 8 := ints_len [h.f_Height]
  have hi3n : (([] : List UInt8) ++ intsB [h.f_Height]).length = 8 := ints_len [h.f_Height]
  have hi4 : (intsB [h.f_Count]).length = 8 := ints_len [h.f_Count]
  have hi4n : (([] : List UInt8) ++ intsB [h.f_Count]).length = 8 := ints_len [h.f_Count]
  refine T.seq ?_
  refine xR [] (by kernel_rfl) (by kernel_rfl) ?_
  refine nT ?_
  refine T.seq ?_
  refine xD [[], [0], [0, 1], [0, 1, 2], [], [4], [4, 5], [], [7], [7, 8], [0, 1, 2, 3, 7, 8, 9], [], [11], [11, 12], [0, 1, 2, 3, 4, 5, 6, 7, 8, 9, 10, 11, 12, 13], [0, 1, 2, 3, 4, 5, 6, 7, 8, 9, 10, 11, 12, 13, 14], [0, 1, 2, 3, 4, 5, 6, 7, 8, 9, 10, 11, 12, 13, 14, 15]] [hR 2 rfl rfl (q_buildSlice 1 3 (kInt .i64) (kInt_ok .i64) [h.f_Height] [⟨0, .tmp 4, .one (.d (.val (.int .i64 h.f_Height))), 0⟩] (cs := [.d (.val (.int .i64 h.f_Height))]) Try.underlying122 iat_3 rfl zero_3 rfl rfl rfl (Nat.le_of_ble_eq_true rfl) (part_cons rfl rfl (Nat.le_of_ble_eq_true rfl) part_ok) rfl ⟨(.inl rfl), trivial⟩ (lt_of rfl) trivial),
    hR 3 rfl rfl (r_call (block_ints false false ([] : List UInt8) true false [h.f_Height] (by (simp [maxLen, -List.getD_eq_getElem?_getD] <;> omega)) (by (simp [maxLen, -List.getD_eq_getElem?_getD] <;> omega))) Try.func68 rfl (by decide) [2] [1] (l := [(.const (.slice none 0 0), dv (.slice none 0 0)), (.tmp 5, ownV 1 (kInt .i64) 0 [h.f_Height].length)]) [(1, .live (arrK 3 (kInt .i64) [h.f_Height]))] rfl 0 1 rfl rfl rfl rfl rfl rfl rfl rfl rfl ⟨.inr (.inr ⟨rfl, rfl, rfl⟩), ⟨.inr (.inl ⟨rfl, (fun h => by cases h), rfl, rfl, by simp, 3, [h.f_Height].length, elOf (kInt .i64) [h.f_Height], List.Mem.head _, by omega, fun i j => by rw [Nat.zero_add]⟩), trivial⟩⟩ rfl (by intro b hb; simp only [List.mem_cons, List.not_mem_nil, or_false] at hb; rcases hb with rfl; exact ⟨_, List.Mem.head _⟩) (.inr ⟨trivial, (And.intro (arr_nt kU8_nt) trivial)⟩) (lt_of rfl) ⟨rfl, trivial⟩),
    hR 6 rfl rfl (r_bytesOf (l := h.f_Prev) Try.underlying29 Try.underlying58 Try.underlying5 (lt_of rfl) trivial),
    hR 9 rfl rfl (q_buildSlice 3 3 (kInt .i64) (kInt_ok .i64) [h.f_Count] [⟨0, .tmp 11, .one (.d (.val (.int .i64 h.f_Count))), 0⟩] (cs := [.d (.val (.int .i64 h.f_Count))]) Try.underlying122 iat_3 rfl zero_3 rfl rfl rfl (Nat.le_of_ble_eq_true rfl) (part_cons rfl rfl (Nat.le_of_ble_eq_true rfl) part_ok) rfl ⟨(.inl rfl), trivial⟩ (lt_of rfl) trivial),
    hR 10 rfl rfl (r_call (block_ints false false ([] : List UInt8) true false [h.f_Count] (by (simp [maxLen, -List.getD_eq_getElem?_getD] <;> omega)) (by (simp [maxLen, -List.getD_eq_getElem?_getD] <;> omega))) Try.func68 rfl (by decide) [4] [3] (l := [(.const (.slice none 0 0), dv (.slice none 0 0)), (.tmp 12, ownV 3 (kInt .i64) 0 [h.f_Count].length)]) [(3, .live (arrK 3 (kInt .i64) [h.f_Count]))] rfl 0 1 rfl rfl rfl rfl rfl rfl rfl rfl rfl ⟨.inr (.inr ⟨rfl, rfl, rfl⟩), ⟨.inr (.inl ⟨rfl, (fun h => by cases h), rfl, rfl, by simp, 3, [h.f_Count].length, elOf (kInt .i64) [h.f_Count], List.Mem.head _, by omega, fun i j => by rw [Nat.zero_add]⟩), trivial⟩⟩ rfl (by intro b hb; simp only [List.mem_cons, List.not_mem_nil, or_false] at hb; rcases hb with rfl; exact ⟨_, List.Mem.head _⟩) (.inr ⟨trivial, (And.intro (arr_nt kU8_nt) trivial)⟩) (lt_of rfl) ⟨rfl, trivial⟩),
    hR 13 rfl rfl (r_bytesOf (l := h.f_Root) Try.underlying29 Try.underlying58 Try.underlying5 (lt_of rfl) trivial),
    hR 14 rfl rfl (ORule.frz 0 6 2 5 kU8 (([] : List UInt8) ++ intsB [h.f_Height]) (av := ownV 2 kU8 0 (([] : List UInt8) ++ intsB [h.f_Height]).length) (ORule.frz 2 13 4 5 kU8 (([] : List UInt8) ++ intsB [h.f_Count]) (av := ownV 4 kU8 0 (([] : List UInt8) ++ intsB [h.f_Count]).length) (q_buildSlice 5 58 (kSl false kU8) (kSl_ok false kU8) [([] : List UInt8) ++ intsB [h.f_Height], h.f_Prev, ([] : List UInt8) ++ intsB [h.f_Count], h.f_Root] [⟨0, .tmp 6, .one (.d (dsl false false kU8 (([] : List UInt8) ++ intsB [h.f_Height]))), 0⟩, ⟨1, .tmp 9, .one (.d (dsl false true kU8 h.f_Prev)), 1⟩, ⟨2, .tmp 13, .one (.d (dsl false false kU8 (([] : List UInt8) ++ intsB [h.f_Count]))), 2⟩, ⟨3, .tmp 16, .one (.d (dsl false true kU8 h.f_Root)), 3⟩] (cs := [.d (dsl false false kU8 (([] : List UInt8) ++ intsB [h.f_Height])), .d (dsl false true kU8 h.f_Prev), .d (dsl false false kU8 (([] : List UInt8) ++ intsB [h.f_Count])), .d (dsl false true kU8 h.f_Root)]) Try.underlying101 iat_58 rfl zero_58 rfl rfl rfl (Nat.le_of_ble_eq_true rfl) (part_cons rfl rfl (Nat.le_of_ble_eq_true rfl) (part_cons rfl rfl (Nat.le_of_ble_eq_true rfl) (part_cons rfl rfl (Nat.le_of_ble_eq_true rfl) (part_cons rfl rfl (Nat.le_of_ble_eq_true rfl) part_ok)))) rfl ⟨(.inl rfl), ⟨(.inr ⟨rfl, (fun h => by cases h), rfl, rfl, rfl⟩), ⟨(.inl rfl), ⟨(.inr ⟨rfl, (fun h => by cases h), rfl, rfl, rfl⟩), trivial⟩⟩⟩⟩ (lt_of rfl) trivial) rfl (.inr (.inr ⟨rfl, rfl, rfl, (fun h => by cases h), rfl, rfl, by omega, fun i j _ => by rw [Nat.zero_add]⟩)) (by intro h; cases h) rfl rfl) rfl (.inr (.inr ⟨rfl, rfl, rfl, (fun h => by cases h), rfl, rfl, by omega, fun i j _ => by rw [Nat.zero_add]⟩)) (by intro h; cases h) rfl rfl),
    hR 15 rfl rfl (r_call (term_Of (5 : UInt8) true false false [([] : List UInt8) ++ intsB [h.f_Height], h.f_Prev, ([] : List UInt8) ++ intsB [h.f_Count], h.f_Root] (by omega)) Try.func33 rfl (by decide) [] [5] (l := [(.const (.int .u8 5), dv (.int .u8 5)), (.tmp 17, ownV 5 (kSl false kU8) 0 [([] : List UInt8) ++ intsB [h.f_Height], h.f_Prev, ([] : List UInt8) ++ intsB [h.f_Count], h.f_Root].length)]) [(5, .live (arrK 58 (kSl false kU8) [([] : List UInt8) ++ intsB [h.f_Height], h.f_Prev, ([] : List UInt8) ++ intsB [h.f_Count], h.f_Root]))] rfl 0 0 rfl rfl rfl rfl rfl rfl rfl rfl rfl ⟨.inl ⟨rfl, rfl⟩, ⟨.inr (.inl ⟨rfl, (fun h => by cases h), rfl, rfl, by simp, 58, [([] : List UInt8) ++ intsB [h.f_Height], h.f_Prev, ([] : List UInt8) ++ intsB [h.f_Count], h.f_Root].length, elOf (kSl false kU8) [([] : List UInt8) ++ intsB [h.f_Height], h.f_Prev, ([] : List UInt8) ++ intsB [h.f_Count], h.f_Root], List.Mem.head _, by omega, fun i j => by rw [Nat.zero_add]⟩), trivial⟩⟩ rfl (by intro b hb; simp only [List.mem_cons, List.not_mem_nil, or_false] at hb; rcases hb with rfl; exact ⟨_, List.Mem.head _⟩) (.inr ⟨trivial, trivial⟩) (lt_of rfl) ⟨rfl, trivial⟩)] (by kernel_rfl) (by kernel_rfl) (by kernel_rfl) (by kernel_rfl) (by kernel_rfl) (by kernel_rfl) ?_
  refine nT ?_
  refine T.ret ?_
  exact tE (.inl rfl) [.t 2 (.one (.d (.val (strV (ofB (5 : UInt8) [([] : List UInt8) ++ intsB [h.f_Height], h.f_Prev, ([] : List UInt8) ++ intsB [h.f_Count], h.f_Root])))))] ⟨⟨rfl, by kernel_rfl⟩, trivial⟩ [] (by have e1 : ((digB h) : List UInt8) = (ofB (5 : UInt8) [([] : List UInt8) ++ intsB [h.f_Height], h.f_Prev, ([] : List UInt8) ++ intsB [h.f_Count], h.f_Root]) := (by rfl); have hE := congrArg (fun (q1 : List UInt8) => (dv (strV q1) : AV)) e1; exact hE) rfl rfl rfl rfl rfl trivial
end Go.Proofs.Ytdclfhahcfefeaa.Q
namespace Go.Proofs.Ytdclfhahcfefeaa.Q
open Go Go.RowKit
set_option linter.unusedVariables false
set_option linter.unusedSimpArgs false
set_option maxRecDepth 100000
set_option maxHeartbeats 4000000
-- quaestor/quaestorref10.Digest
theorem ref10_Digest (h : api_Header) (hp : h.f_Prev.length ≤ 10000000) (hr : h.f_Root.length ≤ 10000000) : Holds Try.prog 81 ⟨[.tv (.agg [.d (.val (.int .i64 h.f_Height)), .d (.val (strV h.f_Prev)), .d (.val (.int .i64 h.f_Count)), .d (.val (strV h.f_Root))])], [], dv (strV (digB h)), []⟩ := by
  refine Holds.of Try.func81 rfl (N := 17) Try.ntmps81 rfl fun w0 B0 S0 U0 => ?_
  show T _ (mkBase 17 0 w0 S0 U0 B0) ⟨[.tv (.agg [.d (.val (.int .i64 h.f_Height)), .d (.val (strV h.f_Prev)), .d (.val (.int .i64 h.f_Count)), .d (.val (strV h.f_Root))])], []⟩ _ _
  have hz1 := sz4 (([] : List UInt8) ++ intsB [h.f_Height]) h.f_Prev (([] : List UInt8) ++ intsB [h.f_Count]) h.f_Root
  have hz2 := sz4 (([] : List UInt8) ++ intB h.f_Height) h.f_Prev (([] : List UInt8) ++ intB h.f_Count) h.f_Root
  have hi1n : (([] : List UInt8) ++ intB h.f_Height).length = 8 := int_len _
  have hi2n : (([] : List UInt8) ++ intB h.f_Count).length = 8 := int_len _
  have hi1 := int_len h.f_Height
  have hi2 := int_len h.f_Count
  have hi3 : (intsB [h.f_Height]).length = 8 := ints_len [h.f_Height]
  have hi3n : (([] : List UInt8) ++ intsB [h.f_Height]).length = 8 := ints_len [h.f_Height]
  have hi4 : (intsB [h.f_Count]).length = 8 := ints_len [h.f_Count]
  have hi4n : (([] : List UInt8) ++ intsB [h.f_Count]).length = 8 := ints_len [h.f_Count]
  refine T.seq ?_
  refine xR [] (by kernel_rfl) (by kernel_rfl) ?_
  refine nT ?_
  refine T.seq ?_
  refine xD [[], [0], [0, 1], [], [3], [3, 4], [], [6], [0, 1, 2, 6, 7], [], [9], [9, 10], [0, 1, 2, 3, 4, 5, 6, 7, 8, 9, 10, 11], [0, 1, 2, 3, 4, 5, 6, 7, 8, 9, 10, 11, 12], [0, 1, 2, 3, 4, 5, 6, 7, 8, 9, 10, 11, 12, 13]] [hR 2 rfl rfl (r_call (ref01_Int false false ([] : List UInt8) h.f_Height (by (simp [maxLen, -List.getD_eq_getElem?_getD] <;> omega))) Try.func57 rfl (by decide) [1] [] (l := [(.const (.slice none 0 0), dv (.slice none 0 0)), (.tmp 4, dv (.int .i64 h.f_Height))]) [] rfl 0 1 rfl rfl rfl rfl rfl rfl rfl rfl rfl ⟨.inr (.inr ⟨rfl, rfl, rfl⟩), ⟨.inl ⟨rfl, rfl⟩, trivial⟩⟩ rfl (fun b hb => by cases hb) (.inl rfl) (lt_of rfl) ⟨rfl, trivial⟩),
    hR 5 rfl rfl (r_bytesOf (l := h.f_Prev) Try.underlying29 Try.underlying58 Try.underlying5 (lt_of rfl) trivial),
    hR 8 rfl rfl (r_call (ref01_Int false false ([] : List UInt8) h.f_Count (by (simp [maxLen, -List.getD_eq_getElem?_getD] <;> omega))) Try.func57 rfl (by decide) [2] [] (l := [(.const (.slice none 0 0), dv (.slice none 0 0)), (.tmp 10, dv (.int .i64 h.f_Count))]) [] rfl 0 1 rfl rfl rfl rfl rfl rfl rfl rfl rfl ⟨.inr (.inr ⟨rfl, rfl, rfl⟩), ⟨.inl ⟨rfl, rfl⟩, trivial⟩⟩ rfl (fun b hb => by cases hb) (.inl rfl) (lt_of rfl) ⟨rfl, trivial⟩),
    hR 11 rfl rfl (r_bytesOf (l := h.f_Root) Try.underlying29 Try.underlying58 Try.underlying5 (lt_of rfl) trivial),
    hR 12 rfl rfl (ORule.frz 0 5 1 5 kU8 (([] : List UInt8) ++ intB h.f_Height) (av := ownV 1 kU8 0 (([] : List UInt8) ++ intB h.f_Height).length) (ORule.frz 2 11 2 5 kU8 (([] : List UInt8) ++ intB h.f_Count) (av := ownV 2 kU8 0 (([] : List UInt8) ++ intB h.f_Count).length) (q_buildSlice 3 58 (kSl false kU8) (kSl_ok false kU8) [([] : List UInt8) ++ intB h.f_Height, h.f_Prev, ([] : List UInt8) ++ intB h.f_Count, h.f_Root] [⟨0, .tmp 5, .one (.d (dsl false false kU8 (([] : List UInt8) ++ intB h.f_Height))), 0⟩, ⟨1, .tmp 8, .one (.d (dsl false true kU8 h.f_Prev)), 1⟩, ⟨2, .tmp 11, .one (.d (dsl false false kU8 (([] : List UInt8) ++ intB h.f_Count))), 2⟩, ⟨3, .tmp 14, .one (.d (dsl false true kU8 h.f_Root)), 3⟩] (cs := [.d (dsl false false kU8 (([] : List UInt8) ++ intB h.f_Height)), .d (dsl false true kU8 h.f_Prev), .d (dsl false false kU8 (([] : List UInt8) ++ intB h.f_Count)), .d (dsl false true kU8 h.f_Root)]) Try.underlying101 iat_58 rfl zero_58 rfl rfl rfl (Nat.le_of_ble_eq_true rfl) (part_cons rfl rfl (Nat.le_of_ble_eq_true rfl) (part_cons rfl rfl (Nat.le_of_ble_eq_true rfl) (part_cons rfl rfl (Nat.le_of_ble_eq_true rfl) (part_cons rfl rfl (Nat.le_of_ble_eq_true rfl) part_ok)))) rfl ⟨(.inl rfl), ⟨(.inr ⟨rfl, (fun h => by cases h), rfl, rfl, rfl⟩), ⟨(.inl rfl), ⟨(.inr ⟨rfl, (fun h => by cases h), rfl, rfl, rfl⟩), trivial⟩⟩⟩⟩ (lt_of rfl) trivial) rfl (.inr (.inr ⟨rfl, rfl, rfl, (fun h => by cases h), rfl, rfl, by omega, fun i j _ => by rw [Nat.zero_add]⟩)) (by intro h; cases h) rfl rfl) rfl (.inr (.inr ⟨rfl, rfl, rfl, (fun h => by cases h), rfl, rfl, by omega, fun i j _ => by rw [Nat.zero_add]⟩)) (by intro h; cases h) rfl rfl),
    hR 13 rfl rfl (r_call (ref02_Of (5 : UInt8) true false false [([] : List UInt8) ++ intB h.f_Height, h.f_Prev, ([] : List UInt8) ++ intB h.f_Count, h.f_Root] (by omega)) Try.func61 rfl (by decide) [] [3] (l := [(.const (.int .u8 5), dv (.int .u8 5)), (.tmp 15, ownV 3 (kSl false kU8) 0 [([] : List UInt8) ++ intB h.f_Height, h.f_Prev, ([] : List UInt8) ++ intB h.f_Count, h.f_Root].length)]) [(3, .live (arrK 58 (kSl false kU8) [([] : List UInt8) ++ intB h.f_Height, h.f_Prev, ([] : List UInt8) ++ intB h.f_Count, h.f_Root]))] rfl 0 0 rfl rfl rfl rfl rfl rfl rfl rfl rfl ⟨.inl ⟨rfl, rfl⟩, ⟨.inr (.inl ⟨rfl, (fun h => by cases h), rfl, rfl, by simp, 58, [([] : List UInt8) ++ intB h.f_Height, h.f_Prev, ([] : List UInt8) ++ intB h.f_Count, h.f_Root].length, elOf (kSl false kU8) [([] : List UInt8) ++ intB h.f_Height, h.f_Prev, ([] : List UInt8) ++ intB h.f_Count, h.f_Root], List.Mem.head _, by omega, fun i j => by rw [Nat.zero_add]⟩), trivial⟩⟩ rfl (by intro b hb; simp only [List.mem_cons, List.not_mem_nil, or_false] at hb; rcases hb with rfl; exact ⟨_, List.Mem.head _⟩) (.inr ⟨trivial, trivial⟩) (lt_of rfl) ⟨rfl, trivial⟩)] (by kernel_rfl) (by kernel_rfl) (by kernel_rfl) (by kernel_rfl) (by kernel_rfl) (by kernel_rfl) ?_
  refine nT ?_
  refine T.ret ?_
  exact tE (.inl rfl) [.t 2 (.one (.d (.val (strV (ofB (5 : UInt8) [([] : List UInt8) ++ intB h.f_Height, h.f_Prev, ([] : List UInt8) ++ intB h.f_Count, h.f_Root])))))] ⟨⟨rfl, by kernel_rfl⟩, trivial⟩ [] (by have e1 : ((digB h) : List UInt8) = (ofB (5 : UInt8) [([] : List UInt8) ++ intB h.f_Height, h.f_Prev, ([] : List UInt8) ++ intB h.f_Count, h.f_Root]) := (by rfl); have hE := congrArg (fun (q1 : List UInt8) => (dv (strV q1) : AV)) e1; exact hE) rfl rfl rfl rfl rfl trivial
end Go.Proofs.Ytdclfhahcfefeaa.Q
