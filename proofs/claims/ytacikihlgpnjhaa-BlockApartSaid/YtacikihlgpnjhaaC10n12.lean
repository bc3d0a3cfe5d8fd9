import Derived.Test.YtacikihlgpnjhaaC10n11
namespace Go.Proofs.Ytacikihlgpnjhaa.Q
open Go Go.RowKit
set_option linter.unusedVariables false
set_option linter.unusedSimpArgs false
set_option maxRecDepth 100000
set_option maxHeartbeats 4000000
-- quaestor/block.Put
theorem block_Put (tb_ : Bool) (b : api_Block) (hf : fewB b) : Holds Try.prog 27 ⟨[.tv (.agg [.d (.val (.int .i64 b.f_Height)), .d (.val (strV b.f_Prev)), .d (dsl tb_ false (k_api_Envelope tb_) b.f_Requests), .d (dsl tb_ false (k_api_Result tb_) b.f_Results)])], [], slV false false kU8 (putB b), []⟩ := by
  refine Holds.of Try.func27 rfl (N := 34) Try.ntmps27 rfl fun w0 B0 S0 U0 => ?_
  show T _ (mkBase 34 0 w0 S0 U0 B0) ⟨[.tv (.agg [.d (.val (.int .i64 b.f_Height)), .d (.val (strV b.f_Prev)), .d (dsl tb_ false (k_api_Envelope tb_) b.f_Requests), .d (dsl tb_ false (k_api_Result tb_) b.f_Results)])], []⟩ _ _
  have hf1 := hf.1.1
  have hf2 := hf.2.1
  have hf3 := hf.2.2
  have hll := leaves_len b
  have hfl := few_leaves hf
  have hi2 : (intsB [b.f_Height]).length = 8 := ints_len [b.f_Height]
  have hi2n : (([] : List UInt8) ++ intsB [b.f_Height]).length = 8 := ints_len [b.f_Height]
  have hy := bytes_len b.f_Prev
  have hcc := cnt_len (((leavesB b).length : Nat) : Int)
  refine T.seq ?_
  refine tR (s1 := ⟨[.tv (.agg [.d (.val (.int .i64 b.f_Height)), .d (.val (strV b.f_Prev)), .d (dsl tb_ false (k_api_Envelope tb_) b.f_Requests), .d (dsl tb_ false (k_api_Result tb_) b.f_Results)]), pv 0 0, dv (.slice none 0 0)], [.live (.box 26 [.d (.val (.int .i64 b.f_Height)), .d (.val (strV b.f_Prev)), .d (dsl tb_ false (k_api_Envelope tb_) b.f_Requests), .d (dsl tb_ false (k_api_Result tb_) b.f_Results)])]⟩) [true, true, true] [true]
    (oC (oS rfl rfl (r_box (l := 0) (t := .agg [.d (.val (.int .i64 b.f_Height)), .d (.val (strV b.f_Prev)), .d (dsl tb_ false (k_api_Envelope tb_) b.f_Requests), .d (dsl tb_ false (k_api_Result tb_) b.f_Results)]) rfl (lt_of rfl) trivial))
    (oC (oS rfl rfl (r_assign (av := dv (.slice none 0 0)) (lt_of rfl) ⟨rfl, trivial⟩)) (oZ rfl)))
    (by kernel_rfl) (by kernel_rfl) ?_
  refine nT ?_
  refine T.seq ?_
  refine T.seq ?_
  refine tR (s1 := ⟨[.tv (.agg [.d (.val (.int .i64 b.f_Height)), .d (.val (strV b.f_Prev)), .d (dsl tb_ false (k_api_Envelope tb_) b.f_Requests), .d (dsl tb_ false (k_api_Result tb_) b.f_Results)]), pv 0 0, dv (.slice none 0 0), aa, aa, aa, aa, aa, aa, dv (.bool (decide ((chkB b) ≠ 0)))], [.live (.box 26 [.d (.val (.int .i64 b.f_Height)), .d (.val (strV b.f_Prev)), .d (dsl tb_ false (k_api_Envelope tb_) b.f_Requests), .d (dsl tb_ false (k_api_Result tb_) b.f_Results)])]⟩) (bm 10 519) [true]
    (oC (oS rfl rfl (r_loadBs (l := 0) (off := 0) (T := 26) (cs := [.d (.val (.int .i64 b.f_Height)), .d (.val (strV b.f_Prev)), .d (dsl tb_ false (k_api_Envelope tb_) b.f_Requests), .d (dsl tb_ false (k_api_Result tb_) b.f_Results)]) (ds := [.d (.val (.int .i64 b.f_Height)), .d (.val (strV b.f_Prev)), .d (dsl tb_ false (k_api_Envelope tb_) b.f_Requests), .d (dsl tb_ false (k_api_Result tb_) b.f_Results)]) wide_26 rfl (Nat.le_of_ble_eq_true rfl) (lt_of rfl) trivial))
    (oC (oS rfl rfl (r_call (block_Check tb_ b (by first | assumption | omega | (unfold maxLen; omega) | (simp [maxLen] <;> omega) | decide) (by first | assumption | omega | (unfold maxLen; omega) | (simp [maxLen] <;> omega) | decide)) Try.func14 rfl (by decide) [] [] (l := [(.tmp 7, .tv (.agg [.d (.val (.int .i64 b.f_Height)), .d (.val (strV b.f_Prev)), .d (dsl tb_ false (k_api_Envelope tb_) b.f_Requests), .d (dsl tb_ false (k_api_Result tb_) b.f_Results)]))]) [] rfl 0 0 rfl rfl rfl rfl rfl rfl rfl rfl rfl ⟨⟨.inl ⟨rfl, rfl⟩, ⟨.inl ⟨rfl, rfl⟩, ⟨.inl ⟨rfl, rfl⟩, ⟨.inl ⟨rfl, rfl⟩, trivial⟩⟩⟩⟩, trivial⟩ rfl (fun b hb => by cases hb) (.inl rfl) (lt_of rfl) trivial))
    (oC (oS rfl rfl (r_bin (u1 := .int .i64 (chkB b)) (u2 := .int .i64 0) (v := .bool (decide ((chkB b) ≠ 0))) b_neq (lt_of rfl) ⟨rfl, trivial⟩)) (oZ rfl))))
    (by kernel_rfl) (by kernel_rfl) ?_
  refine nT ?_
  by_cases hq1 : (chkB b) ≠ 0
  · refine T.condT (b := (decide ((chkB b) ≠ 0))) rfl (decide_eq_true hq1) ?_
    refine T.seq ?_
    refine tR (s1 := ⟨[.tv (.agg [.d (.val (.int .i64 b.f_Height)), .d (.val (strV b.f_Prev)), .d (dsl tb_ false (k_api_Envelope tb_) b.f_Requests), .d (dsl tb_ false (k_api_Result tb_) b.f_Results)]), pv 0 0, dv (.slice none 0 0), aa, aa, aa, aa, aa, aa, dv (.bool (decide ((chkB b) ≠ 0)))], [.live (.box 26 [.d (.val (.int .i64 b.f_Height)), .d (.val (strV b.f_Prev)), .d (dsl tb_ false (k_api_Envelope tb_) b.f_Requests), .d (dsl tb_ false (k_api_Result tb_) b.f_Results)])]⟩) (bm 10 519) [true]
      (oC (oS rfl rfl (r_assign (av := dv (.slice none 0 0)) (lt_of rfl) ⟨rfl, trivial⟩)) (oZ rfl))
      (by kernel_rfl) (by kernel_rfl) ?_
    refine nT ?_
    refine T.ret ?_
    refine rT ?_
    refine Ends.turn (s' := ⟨[.tv (.agg [.d (.val (.int .i64 b.f_Height)), .d (.val (strV b.f_Prev)), .d (dsl tb_ false (k_api_Envelope tb_) b.f_Requests), .d (dsl tb_ false (k_api_Result tb_) b.f_Results)]), pv 0 0, slV false false kU8 ([] : List UInt8), aa, aa, aa, aa, aa, aa, dv (.bool (decide ((chkB b) ≠ 0)))], [.live (.box 26 [.d (.val (.int .i64 b.f_Height)), .d (.val (strV b.f_Prev)), .d (dsl tb_ false (k_api_Envelope tb_) b.f_Requests), .d (dsl tb_ false (k_api_Result tb_) b.f_Results)])]⟩) (fun _ _ hG => Gs.less (s := ⟨[.tv (.agg [.d (.val (.int .i64 b.f_Height)), .d (.val (strV b.f_Prev)), .d (dsl tb_ false (k_api_Envelope tb_) b.f_Requests), .d (dsl tb_ false (k_api_Result tb_) b.f_Results)]), pv 0 0, dv (.slice none 0 0), aa, aa, aa, aa, aa, aa, dv (.bool (decide ((chkB b) ≠ 0)))], [.live (.box 26 [.d (.val (.int .i64 b.f_Height)), .d (.val (strV b.f_Prev)), .d (dsl tb_ false (k_api_Envelope tb_) b.f_Requests), .d (dsl tb_ false (k_api_Result tb_) b.f_Results)])]⟩) ⟨(.inl rfl), ⟨(.inl rfl), ⟨(.inr ⟨rfl, rfl, rfl⟩), ⟨(.inl rfl), ⟨(.inl rfl), ⟨(.inl rfl), ⟨(.inl rfl), ⟨(.inl rfl), ⟨(.inl rfl), ⟨(.inl rfl), trivial⟩⟩⟩⟩⟩⟩⟩⟩⟩⟩ ⟨(.inl rfl), trivial⟩ hG) ?_
    exact tE (.inl rfl) [.t 2 (.one (.d (dsl false false kU8 ([] : List UInt8))))] ⟨⟨rfl, rfl⟩, trivial⟩ [] (by have e1 : ((putB b) : List UInt8) = ([] : List UInt8) := (by first | rfl | (rw [putB, if_pos (Classical.not_not.1 (by assumption)), show k = (leavesB b).length by omega]) | (rw [putB, if_pos (by assumption), show k = (leavesB b).length by omega]) | (rw [putB, if_neg (by assumption)])); have hE := congrArg (fun (q1 : List UInt8) => (slV false false kU8 q1 : AV)) e1; exact hE) rfl rfl rfl rfl rfl trivial
  · refine T.condF (b := (decide ((chkB b) ≠ 0))) rfl (decide_eq_false hq1) ?_
    refine T.skip ?_
    refine nT ?_
    refine T.seq ?_
    refine tR (s1 := ⟨[.tv (.agg [.d (.val (.int .i64 b.f_Height)), .d (.val (strV b.f_Prev)), .d (dsl tb_ false (k_api_Envelope tb_) b.f_Requests), .d (dsl tb_ false (k_api_Result tb_) b.f_Results)]), pv 0 0, dv (.slice none 0 0), ownV 1 (kSl false kU8) 0 (leavesB b).length, aa, aa, aa, aa, aa, dv (.bool (decide ((chkB b) ≠ 0)))], [.live (.box 26 [.d (.val (.int .i64 b.f_Height)), .d (.val (strV b.f_Prev)), .d (dsl tb_ false (k_api_Envelope tb_) b.f_Requests), .d (dsl tb_ false (k_api_Result tb_) b.f_Results)]), .live (arrK 29 (kSl false kU8) (leavesB b))]⟩) (bm 10 527) [true, true]
      (oC (oS rfl rfl (r_loadBs (l := 0) (off := 0) (T := 26) (cs := [.d (.val (.int .i64 b.f_Height)), .d (.val (strV b.f_Prev)), .d (dsl tb_ false (k_api_Envelope tb_) b.f_Requests), .d (dsl tb_ false (k_api_Result tb_) b.f_Results)]) (ds := [.d (.val (.int .i64 b.f_Height)), .d (.val (strV b.f_Prev)), .d (dsl tb_ false (k_api_Envelope tb_) b.f_Requests), .d (dsl tb_ false (k_api_Result tb_) b.f_Results)]) wide_26 rfl (Nat.le_of_ble_eq_true rfl) (lt_of rfl) trivial))
      (oC (oS rfl rfl (r_call (block_leaves tb_ b (by first | assumption | omega | (unfold maxLen; omega) | (simp [maxLen] <;> omega) | decide)) Try.func32 rfl (by decide) [1] [] (l := [(.tmp 10, .tv (.agg [.d (.val (.int .i64 b.f_Height)), .d (.val (strV b.f_Prev)), .d (dsl tb_ false (k_api_Envelope tb_) b.f_Requests), .d (dsl tb_ false (k_api_Result tb_) b.f_Results)]))]) [] rfl 0 1 rfl rfl rfl rfl rfl rfl rfl rfl rfl ⟨⟨.inl ⟨rfl, rfl⟩, ⟨.inl ⟨rfl, rfl⟩, ⟨.inl ⟨rfl, rfl⟩, ⟨.inl ⟨rfl, rfl⟩, trivial⟩⟩⟩⟩, trivial⟩ rfl (fun b hb => by cases hb) (.inl rfl) (lt_of rfl) trivial))
      (oC (oS rfl rfl (r_assign (av := ownV 1 (kSl false kU8) 0 (leavesB b).length) (lt_of rfl) trivial)) (oZ rfl))))
      (by kernel_rfl) (by kernel_rfl) ?_
    refine nT ?_
    refine T.seq ?_
    refine tD (s1 := ⟨[.tv (.agg [.d (.val (.int .i64 b.f_Height)), .d (.val (strV b.f_Prev)), .d (dsl tb_ false (k_api_Envelope tb_) b.f_Requests), .d (dsl tb_ false (k_api_Result tb_) b.f_Results)]), pv 0 0, dv (.slice none 0 0), ownV 1 (kSl false kU8) 0 (leavesB b).length, ownV 5 kU8 0 (([] : List UInt8) ++ intsB [b.f_Height] ++ bytesB b.f_Prev ++ cntB (((leavesB b).length : Nat) : Int)).length, aa, aa, aa, aa, dv (.bool (decide ((chkB b) ≠ 0)))], [.live (.box 26 [.d (.val (.int .i64 b.f_Height)), .d (.val (strV b.f_Prev)), .d (dsl tb_ false (k_api_Envelope tb_) b.f_Requests), .d (dsl tb_ false (k_api_Result tb_) b.f_Results)]), .live (arrK 29 (kSl false kU8) (leavesB b)), .live (arrK 3 (kInt .i64) [b.f_Height]), .live (arrK 5 kU8 (([] : List UInt8) ++ intsB [b.f_Height])), .live (arrK 5 kU8 (([] : List UInt8) ++ intsB [b.f_Height] ++ bytesB b.f_Prev)), .live (arrK 5 kU8 (([] : List UInt8) ++ intsB [b.f_Height] ++ bytesB b.f_Prev ++ cntB (((leavesB b).length : Nat) : Int)))]⟩) (by kernel_rfl) [[], [0], [0, 1], [0, 1, 2], [], [4], [4, 5], [0, 1, 2, 3, 4, 5, 6], [], [8], [0, 1, 2, 3, 4, 5, 6, 7, 8, 9], [0, 1, 2, 3, 4, 5, 6, 7, 8, 9, 10]] (bm 10 543) (bm 6 63)
      (oC (oS rfl rfl (r_fieldAddr (l := 0) (off := 0) fld_26_0 (lt_of rfl) trivial))
      (oC (oS rfl rfl (r_loadB (l := 0) (off := 0) (T := 26) (cs := [.d (.val (.int .i64 b.f_Height)), .d (.val (strV b.f_Prev)), .d (dsl tb_ false (k_api_Envelope tb_) b.f_Requests), .d (dsl tb_ false (k_api_Result tb_) b.f_Results)]) (c := .d (.val (.int .i64 b.f_Height))) wide_3 rfl (lt_of rfl) trivial))
      (oC (oS rfl rfl (q_buildSlice 2 3 (kInt .i64) (kInt_ok .i64) [b.f_Height] [⟨0, .tmp 13, .one (.d (.val (.int .i64 b.f_Height))), 0⟩] (cs := [.d (.val (.int .i64 b.f_Height))]) Try.underlying77 iat_3 rfl zero_3 rfl rfl rfl (Nat.le_of_ble_eq_true rfl) (part_cons rfl rfl (Nat.le_of_ble_eq_true rfl) part_ok) rfl ⟨(.inl rfl), trivial⟩ (lt_of rfl) trivial))
      (oC (oS rfl rfl (r_call (block_ints false false ([] : List UInt8) true false [b.f_Height] (by first | assumption | omega | (unfold maxLen; omega) | (simp [maxLen] <;> omega) | decide) (by first | assumption | omega | (unfold maxLen; omega) | (simp [maxLen] <;> omega) | decide)) Try.func28 rfl (by decide) [3] [2] (l := [(.const (.slice none 0 0), dv (.slice none 0 0)), (.tmp 14, ownV 2 (kInt .i64) 0 [b.f_Height].length)]) [(2, .live (arrK 3 (kInt .i64) [b.f_Height]))] rfl 0 1 rfl rfl rfl rfl rfl rfl rfl rfl rfl ⟨.inr (.inr ⟨rfl, rfl, rfl⟩), ⟨.inr (.inl ⟨rfl, (fun h => by cases h), rfl, rfl, by simp, 3, [b.f_Height].length, elOf (kInt .i64) [b.f_Height], List.Mem.head _, by omega, fun i j => by rw [Nat.zero_add]⟩), trivial⟩⟩ rfl (by intro b hb; simp only [List.mem_cons, List.not_mem_nil, or_false] at hb; rcases hb with rfl; exact ⟨_, List.Mem.head _⟩) (.inr ⟨trivial, (And.intro (arr_nt kU8_nt) trivial)⟩) (lt_of rfl) ⟨rfl, trivial⟩))
      (oC (oS rfl rfl (r_fieldAddr (l := 0) (off := 0) fld_26_1 (lt_of rfl) trivial))
      (oC (oS rfl rfl (r_loadB (l := 0) (off := 1) (T := 26) (cs := [.d (.val (.int .i64 b.f_Height)), .d (.val (strV b.f_Prev)), .d (dsl tb_ false (k_api_Envelope tb_) b.f_Requests), .d (dsl tb_ false (k_api_Result tb_) b.f_Results)]) (c := .d (.val (strV b.f_Prev))) wide_22 rfl (lt_of rfl) trivial))
      (oC (oS rfl rfl (r_bytesOf (l := b.f_Prev) Try.underlying22 Try.underlying29 Try.underlying5 (lt_of rfl) trivial))
      (oC (oS rfl rfl (r_call (wire_PutBytes true false (([] : List UInt8) ++ intsB [b.f_Height]) false true b.f_Prev (by first | assumption | omega | (unfold maxLen; omega) | (simp [maxLen] <;> omega) | decide)) Try.func29 rfl (by decide) [4] [3] (l := [(.tmp 15, ownV 3 kU8 0 (([] : List UInt8) ++ intsB [b.f_Height]).length), (.tmp 18, slV false true kU8 b.f_Prev)]) [(3, .live (arrK 5 kU8 (([] : List UInt8) ++ intsB [b.f_Height])))] rfl 0 1 rfl rfl rfl rfl rfl rfl rfl rfl rfl ⟨.inr (.inl ⟨rfl, (fun h => by cases h), rfl, rfl, by simp, 5, (([] : List UInt8) ++ intsB [b.f_Height]).length, elOf kU8 (([] : List UInt8) ++ intsB [b.f_Height]), List.Mem.head _, by omega, fun i j => by rw [Nat.zero_add]⟩), ⟨.inl ⟨rfl, rfl⟩, trivial⟩⟩ rfl (by intro b hb; simp only [List.mem_cons, List.not_mem_nil, or_false] at hb; rcases hb with rfl; exact ⟨_, List.Mem.head _⟩) (.inr ⟨trivial, (And.intro (arr_nt kU8_nt) trivial)⟩) (lt_of rfl) trivial))
      (oC (oS rfl rfl (r_move (av := ownV 1 (kSl false kU8) 0 (leavesB b).length) (lt_of rfl) trivial))
      (oC (oS rfl rfl (r_lenO (l := 1) (sz := (kSl false kU8).sz) (off := 0) (n := (leavesB b).length) Try.underlying60 (lt_of rfl) trivial))
      (oC (oS rfl rfl (r_call (wire_PutCount true false (([] : List UInt8) ++ intsB [b.f_Height] ++ bytesB b.f_Prev) (((leavesB b).length : Nat) : Int) (by first | assumption | omega | (unfold maxLen; omega) | (simp [maxLen] <;> omega) | decide)) Try.func49 rfl (by decide) [5] [4] (l := [(.tmp 19, ownV 4 kU8 0 (([] : List UInt8) ++ intsB [b.f_Height] ++ bytesB b.f_Prev).length), (.tmp 21, dv (.int .i64 (((leavesB b).length : Nat) : Int)))]) [(4, .live (arrK 5 kU8 (([] : List UInt8) ++ intsB [b.f_Height] ++ bytesB b.f_Prev)))] rfl 0 1 rfl rfl rfl rfl rfl rfl rfl rfl rfl ⟨.inr (.inl ⟨rfl, (fun h => by cases h), rfl, rfl, by simp, 5, (([] : List UInt8) ++ intsB [b.f_Height] ++ bytesB b.f_Prev).length, elOf kU8 (([] : List UInt8) ++ intsB [b.f_Height] ++ bytesB b.f_Prev), List.Mem.head _, by omega, fun i j => by rw [Nat.zero_add]⟩), ⟨.inl ⟨rfl, rfl⟩, trivial⟩⟩ rfl (by intro b hb; simp only [List.mem_cons, List.not_mem_nil, or_false] at hb; rcases hb with rfl; exact ⟨_, List.Mem.head _⟩) (.inr ⟨trivial, (And.intro (arr_nt kU8_nt) trivial)⟩) (lt_of rfl) trivial))
      (oC (oS rfl rfl (r_assign (av := ownV 5 kU8 0 (([] : List UInt8) ++ intsB [b.f_Height] ++ bytesB b.f_Prev ++ cntB (((leavesB b).length : Nat) : Int)).length) (lt_of rfl) trivial)) (oZ rfl)))))))))))))
      (by kernel_rfl) (by kernel_rfl) (by kernel_rfl) (by kernel_rfl) (by kernel_rfl) ?_
    refine nT ?_
    refine T.seq ?_
    refine T.seq ?_
    refine tR (s1 := ⟨[.tv (.agg [.d (.val (.int .i64 b.f_Height)), .d (.val (strV b.f_Prev)), .d (dsl tb_ false (k_api_Envelope tb_) b.f_Requests), .d (dsl tb_ false (k_api_Result tb_) b.f_Results)]), pv 0 0, dv (.slice none 0 0), ownV 1 (kSl false kU8) 0 (leavesB b).length, ownV 5 kU8 0 (([] : List UInt8) ++ intsB [b.f_Height] ++ bytesB b.f_Prev ++ cntB (((leavesB b).length : Nat) : Int)).length, aa, aa, aa, aa, dv (.bool (decide ((chkB b) ≠ 0))), aa, aa, aa, aa, aa, aa, aa, aa, aa, aa, aa, aa, aa, ownV 1 (kSl false kU8) 0 (leavesB b).length, dv (.int .i64 (((leavesB b).length : Nat) : Int)), dv (.int .i64 0)], [.live (.box 26 [.d (.val (.int .i64 b.f_Height)), .d (.val (strV b.f_Prev)), .d (dsl tb_ false (k_api_Envelope tb_) b.f_Requests), .d (dsl tb_ false (k_api_Result tb_) b.f_Results)]), .live (arrK 29 (kSl false kU8) (leavesB b)), .live (arrK 3 (kInt .i64) [b.f_Height]), .live (arrK 5 kU8 (([] : List UInt8) ++ intsB [b.f_Height])), .live (arrK 5 kU8 (([] : List UInt8) ++ intsB [b.f_Height] ++ bytesB b.f_Prev)), .live (arrK 5 kU8 (([] : List UInt8) ++ intsB [b.f_Height] ++ bytesB b.f_Prev ++ cntB (((leavesB b).length : Nat) : Int)))]⟩) (bm 26 58720799) (bm 6 63)
      (oC (oS rfl rfl (r_move (av := ownV 1 (kSl false kU8) 0 (leavesB b).length) (lt_of rfl) trivial))
      (oC (oS rfl rfl (r_lenO (l := 1) (sz := (kSl false kU8).sz) (off := 0) (n := (leavesB b).length) Try.underlying60 (lt_of rfl) trivial))
      (oC (oS rfl rfl (r_move (av := dv (.int .i64 0)) (lt_of rfl) ⟨rfl, trivial⟩)) (oZ rfl))))
      (by kernel_rfl) (by kernel_rfl) ?_
    refine nT ?_
    refine T.block ?_
    refine T.loop (ι := Nat) (fun (k : Nat) => ⟨[aa, pv 0 0, aa, ownV 1 (kSl false kU8) 0 (leavesB b).length, ownV 2 kU8 0 (outB b k).length, aa, aa, aa, aa, aa, aa, aa, aa, aa, aa, aa, aa, aa, aa, aa, aa, aa, aa, ownV 1 (kSl false kU8) 0 (leavesB b).length, dv (.int .i64 (((leavesB b).length : Nat) : Int)), dv (.int .i64 ((k : Nat) : Int))], [.live (.box 26 [.d (.val (.int .i64 b.f_Height)), .d (.val (strV b.f_Prev)), .d (dsl tb_ false (k_api_Envelope tb_) b.f_Requests), .d (dsl tb_ false (k_api_Result tb_) b.f_Results)]), .live (arrK 29 (kSl false kU8) (leavesB b)), .live (arrK 5 kU8 (outB b k))]⟩) (fun (k : Nat) => (k ≤ (leavesB b).length)) (fun (k : Nat) => (leavesB b).length - k) (0) (Nat.zero_le _) (fun _ _ hG => Gs.into2 (s := ⟨[.tv (.agg [.d (.val (.int .i64 b.f_Height)), .d (.val (strV b.f_Prev)), .d (dsl tb_ false (k_api_Envelope tb_) b.f_Requests), .d (dsl tb_ false (k_api_Result tb_) b.f_Results)]), pv 0 0, dv (.slice none 0 0), ownV 1 (kSl false kU8) 0 (leavesB b).length, ownV 5 kU8 0 (([] : List UInt8) ++ intsB [b.f_Height] ++ bytesB b.f_Prev ++ cntB (((leavesB b).length : Nat) : Int)).length, aa, aa, aa, aa, dv (.bool (decide ((chkB b) ≠ 0))), aa, aa, aa, aa, aa, aa, aa, aa, aa, aa, aa, aa, aa, ownV 1 (kSl false kU8) 0 (leavesB b).length, dv (.int .i64 (((leavesB b).length : Nat) : Int)), dv (.int .i64 0)], [.live (.box 26 [.d (.val (.int .i64 b.f_Height)), .d (.val (strV b.f_Prev)), .d (dsl tb_ false (k_api_Envelope tb_) b.f_Requests), .d (dsl tb_ false (k_api_Result tb_) b.f_Results)]), .live (arrK 29 (kSl false kU8) (leavesB b)), .live (arrK 3 (kInt .i64) [b.f_Height]), .live (arrK 5 kU8 (([] : List UInt8) ++ intsB [b.f_Height])), .live (arrK 5 kU8 (([] : List UInt8) ++ intsB [b.f_Height] ++ bytesB b.f_Prev)), .live (arrK 5 kU8 (([] : List UInt8) ++ intsB [b.f_Height] ++ bytesB b.f_Prev ++ cntB (((leavesB b).length : Nat) : Int)))]⟩) (s' := ⟨[aa, pv 0 0, aa, ownV 1 (kSl false kU8) 0 (leavesB b).length, ownV 2 kU8 0 (outB b 0).length, aa, aa, aa, aa, aa, aa, aa, aa, aa, aa, aa, aa, aa, aa, aa, aa, aa, aa, ownV 1 (kSl false kU8) 0 (leavesB b).length, dv (.int .i64 (((leavesB b).length : Nat) : Int)), dv (.int .i64 0)], [.live (.box 26 [.d (.val (.int .i64 b.f_Height)), .d (.val (strV b.f_Prev)), .d (dsl tb_ false (k_api_Envelope tb_) b.f_Requests), .d (dsl tb_ false (k_api_Result tb_) b.f_Results)]), .live (arrK 29 (kSl false kU8) (leavesB b)), .live (arrK 5 kU8 (outB b 0))]⟩) [0, 1, 5] (bm 26 58720282) (t1 := [aa, pv 0 0, aa, ownV 1 (kSl false kU8) 0 (leavesB b).length, ownV 5 kU8 0 (outB b 0).length, aa, aa, aa, aa, aa, aa, aa, aa, aa, aa, aa, aa, aa, aa, aa, aa, aa, aa, ownV 1 (kSl false kU8) 0 (leavesB b).length, dv (.int .i64 (((leavesB b).length : Nat) : Int)), dv (.int .i64 0)]) (t2 := [aa, pv 0 0, aa, ownV 1 (kSl false kU8) 0 (leavesB b).length, ownV 5 kU8 0 (([] : List UInt8) ++ intsB [b.f_Height] ++ bytesB b.f_Prev ++ cntB (((leavesB b).length : Nat) : Int)).length, aa, aa, aa, aa, aa, aa, aa, aa, aa, aa, aa, aa, aa, aa, aa, aa, aa, aa, ownV 1 (kSl false kU8) 0 (leavesB b).length, dv (.int .i64 (((leavesB b).length : Nat) : Int)), dv (.int .i64 0)]) (h1 := [.live (.box 26 [.d (.val (.int .i64 b.f_Height)), .d (.val (strV b.f_Prev)), .d (dsl tb_ false (k_api_Envelope tb_) b.f_Requests), .d (dsl tb_ false (k_api_Result tb_) b.f_Results)]), .live (arrK 29 (kSl false kU8) (leavesB b)), .live (arrK 5 kU8 (outB b 0))]) (h2 := [.live (.box 26 [.d (.val (.int .i64 b.f_Height)), .d (.val (strV b.f_Prev)), .d (dsl tb_ false (k_api_Envelope tb_) b.f_Requests), .d (dsl tb_ false (k_api_Result tb_) b.f_Results)]), .live (arrK 29 (kSl false kU8) (leavesB b)), .live (arrK 5 kU8 (([] : List UInt8) ++ intsB [b.f_Height] ++ bytesB b.f_Prev ++ cntB (((leavesB b).length : Nat) : Int)))]) (by have e1 : ((outB b 0).length : Nat) = (([] : List UInt8) ++ intsB [b.f_Height] ++ bytesB b.f_Prev ++ cntB (((leavesB b).length : Nat) : Int)).length := (by first | rfl | (simp [outB, intsB]; done)); have hE := congrArg (fun (q1 : Nat) => ([aa, pv 0 0, aa, ownV 1 (kSl false kU8) 0 (leavesB b).length, ownV 5 kU8 0 q1, aa, aa, aa, aa, aa, aa, aa, aa, aa, aa, aa, aa, aa, aa, aa, aa, aa, aa, ownV 1 (kSl false kU8) 0 (leavesB b).length, dv (.int .i64 (((leavesB b).length : Nat) : Int)), dv (.int .i64 0)] : List AV)) e1; exact hE) (by have e1 : ((outB b 0) : List UInt8) = ([] : List UInt8) ++ intsB [b.f_Height] ++ bytesB b.f_Prev ++ cntB (((leavesB b).length : Nat) : Int) := (by first | rfl | (simp [outB, intsB]; done)); have hE := congrArg (fun (q1 : List UInt8) => ([.live (.box 26 [.d (.val (.int .i64 b.f_Height)), .d (.val (strV b.f_Prev)), .d (dsl tb_ false (k_api_Envelope tb_) b.f_Requests), .d (dsl tb_ false (k_api_Result tb_) b.f_Results)]), .live (arrK 29 (kSl false kU8) (leavesB b)), .live (arrK 5 kU8 q1)] : List HS)) e1; exact hE) (by kernel_rfl) (by kernel_rfl) (by kernel_rfl) (by kernel_rfl) (by kernel_rfl) (by kernel_rfl) (by kernel_rfl) (by kernel_rfl) (by kernel_rfl) (by kernel_rfl) (by kernel_rfl) hG) ?_
    rintro k hk
    show T _ _ ⟨[aa, pv 0 0, aa, ownV 1 (kSl false kU8) 0 (leavesB b).length, ownV 2 kU8 0 (outB b k).length, aa, aa, aa, aa, aa, aa, aa, aa, aa, aa, aa, aa, aa, aa, aa, aa, aa, aa, ownV 1 (kSl false kU8) 0 (leavesB b).length, dv (.int .i64 (((leavesB b).length : Nat) : Int)), dv (.int .i64 ((k : Nat) : Int))], [.live (.box 26 [.d (.val (.int .i64 b.f_Height)), .d (.val (strV b.f_Prev)), .d (dsl tb_ false (k_api_Envelope tb_) b.f_Requests), .d (dsl tb_ false (k_api_Result tb_) b.f_Results)]), .live (arrK 29 (kSl false kU8) (leavesB b)), .live (arrK 5 kU8 (outB b k))]⟩ _ _
    replace hk : k ≤ (leavesB b).length := hk
    have hf1 := hf.1.1
    have hf2 := hf.2.1
    have hf3 := hf.2.2
    have hll := leaves_len b
    have hfl := few_leaves hf
    have hol := out_len hf k
    have hgk : ((leavesB b).getD k []).length ≤ 600 := fewG_get (sz := szL) hfl (by decide) k
    refine T.seq ?_
    refine tR (s1 := ⟨[aa, pv 0 0, aa, ownV 1 (kSl false kU8) 0 (leavesB b).length, ownV 2 kU8 0 (outB b k).length, aa, aa, aa, aa, aa, aa, aa, aa, aa, aa, aa, aa, aa, aa, aa, aa, aa, aa, ownV 1 (kSl false kU8) 0 (leavesB b).length, dv (.int .i64 (((leavesB b).length : Nat) : Int)), dv (.int .i64 ((k : Nat) : Int)), dv (.bool (decide (((k : Nat) : Int) < (((leavesB b).length : Nat) : Int))))], [.live (.box 26 [.d (.val (.int .i64 b.f_Height)), .d (.val (strV b.f_Prev)), .d (dsl tb_ false (k_api_Envelope tb_) b.f_Requests), .d (dsl tb_ false (k_api_Result tb_) b.f_Results)]), .live (arrK 29 (kSl false kU8) (leavesB b)), .live (arrK 5 kU8 (outB b k))]⟩) (bm 27 125829146) [true, true, true]
      (oC (oS rfl rfl (r_bin (u1 := .int .i64 ((k : Nat) : Int)) (u2 := .int .i64 (((leavesB b).length : Nat) : Int)) (v := .bool (decide (((k : Nat) : Int) < (((leavesB b).length : Nat) : Int)))) b_lss (lt_of rfl) trivial)) (oZ rfl))
      (by kernel_rfl) (by kernel_rfl) ?_
    refine nT ?_
    refine T.seq ?_
    by_cases hq2 : ((k : Nat) : Int) < (((leavesB b).length : Nat) : Int)
    · refine T.condT (b := (decide (((k : Nat) : Int) < (((leavesB b).length : Nat) : Int)))) rfl (decide_eq_true hq2) ?_
      refine T.skip ?_
      refine nT ?_
      refine T.seq ?_
      refine T.block ?_
      refine T.seq ?_
      refine tR (s1 := ⟨[aa, pv 0 0, aa, ownV 1 (kSl false kU8) 0 (leavesB b).length, ownV 2 kU8 0 (outB b k).length, aa, slV false false kU8 ((leavesB b).getD k []), aa, aa, aa, aa, aa, aa, aa, aa, aa, aa, aa, aa, aa, aa, aa, aa, ownV 1 (kSl false kU8) 0 (leavesB b).length, dv (.int .i64 (((leavesB b).length : Nat) : Int)), dv (.int .i64 ((k : Nat) : Int)), dv (.bool (decide (((k : Nat) : Int) < (((leavesB b).length : Nat) : Int))))], [.live (.box 26 [.d (.val (.int .i64 b.f_Height)), .d (.val (strV b.f_Prev)), .d (dsl tb_ false (k_api_Envelope tb_) b.f_Requests), .d (dsl tb_ false (k_api_Result tb_) b.f_Results)]), .live (arrK 29 (kSl false kU8) (leavesB b)), .live (arrK 5 kU8 (outB b k))]⟩) (bm 27 125829210) [true, true, true]
        (oC (oS rfl rfl (r_indexO (k := .i64) (l := 1) (sz := (kSl false kU8).sz) (off := 0) (n := (leavesB b).length) (i := ((k : Nat) : Int)) (m := k) (o' := k * (kSl false kU8).sz + 0) Try.underlying60 iat_29 rfl rfl (by first | assumption | omega | (unfold maxLen; omega) | (simp [maxLen] <;> omega) | decide) (by first | rfl | simp) (lt_of rfl) trivial))
        (oC (oS rfl rfl (r_loadA (l := 1) (off := k * (kSl false kU8).sz + 0) (i := k) (j := 0) (T := 29) (sz := (kSl false kU8).sz) (n := (leavesB b).length) (el := elOf (kSl false kU8) (leavesB b)) (c := dsl false false kU8 ((leavesB b).getD k [])) wide_29 rfl (by first | assumption | omega | (unfold maxLen; omega) | (simp [maxLen] <;> omega) | decide) (by decide) rfl (lt_of rfl) trivial))
        (oC (oS rfl rfl (r_assign (av := slV false false kU8 ((leavesB b).getD k [])) (lt_of rfl) trivial)) (oZ rfl))))
        (by kernel_rfl) (by kernel_rfl) ?_
      refine nT ?_
      refine tR (s1 := ⟨[aa, pv 0 0, aa, ownV 1 (kSl false kU8) 0 (leavesB b).length, ownV 3 kU8 0 ((outB b k) ++ ((leavesB b).getD k [])).length, aa, slV false false kU8 ((leavesB b).getD k []), aa, aa, aa, aa, aa, aa, aa, aa, aa, aa, aa, aa, aa, aa, aa, aa, ownV 1 (kSl false kU8) 0 (leavesB b).length, dv (.int .i64 (((leavesB b).length : Nat) : Int)), dv (.int .i64 ((k : Nat) : Int)), dv (.bool (decide (((k : Nat) : Int) < (((leavesB b).length : Nat) : Int))))], [.live (.box 26 [.d (.val (.int .i64 b.f_Height)), .d (.val (strV b.f_Prev)), .d (dsl tb_ false (k_api_Envelope tb_) b.f_Requests), .d (dsl tb_ false (k_api_Result tb_) b.f_Results)]), .live (arrK 29 (kSl false kU8) (leavesB b)), .dead, .live (arrK 5 kU8 ((outB b k) ++ ((leavesB b).getD k [])))]⟩) (bm 27 125829210) (bm 4 15)
        (oC (oS rfl rfl (r_move (av := ownV 2 kU8 0 (outB b k).length) (lt_of rfl) trivial))
        (oC (oS rfl rfl (r_move (av := slV false false kU8 ((leavesB b).getD k [])) (lt_of rfl) trivial))
        (oC (oS rfl rfl (q_appendO 2 3 5 1 kU8 kU8_ok (outB b k) ((leavesB b).getD k []) ((outB b k) ++ ((leavesB b).getD k [])) (outB b k).length (sy := (.d (dsl false false kU8 ((leavesB b).getD k [])))) (rhs := []) elem_29 (by first | assumption | omega | (unfold maxLen; omega) | (simp [maxLen] <;> omega) | decide) (src_sl false false kU8 ((leavesB b).getD k [])) (by rw [List.take_length]) (by first | assumption | omega | (unfold maxLen; omega) | (simp [maxLen] <;> omega) | decide) (by first | assumption | omega | (unfold maxLen; omega) | (simp [maxLen] <;> omega) | decide) (lt_of rfl) trivial))
        (oC (oS rfl rfl (r_assign (av := ownV 3 kU8 0 ((outB b k) ++ ((leavesB b).getD k [])).length) (lt_of rfl) trivial)) (oZ rfl)))))
        (by kernel_rfl) (by kernel_rfl) ?_
      refine nB ?_
      refine nT ?_
      refine tR (s1 := ⟨[aa, pv 0 0, aa, ownV 1 (kSl false kU8) 0 (leavesB b).length, ownV 3 kU8 0 ((outB b k) ++ ((leavesB b).getD k [])).length, aa, slV false false kU8 ((leavesB b).getD k []), aa, aa, aa, aa, aa, aa, aa, aa, aa, aa, aa, aa, aa, aa, aa, aa, ownV 1 (kSl false kU8) 0 (leavesB b).length, dv (.int .i64 (((leavesB b).length : Nat) : Int)), dv (.int .i64 ((k + 1 : Nat) : Int)), dv (.bool (decide (((k : Nat) : Int) < (((leavesB b).length : Nat) : Int))))], [.live (.box 26 [.d (.val (.int .i64 b.f_Height)), .d (.val (strV b.f_Prev)), .d (dsl tb_ false (k_api_Envelope tb_) b.f_Requests), .d (dsl tb_ false (k_api_Result tb_) b.f_Results)]), .live (arrK 29 (kSl false kU8) (leavesB b)), .dead, .live (arrK 5 kU8 ((outB b k) ++ ((leavesB b).getD k [])))]⟩) (bm 27 125829210) (bm 4 15)
        (oC (oS rfl rfl (r_bin (u1 := .int .i64 ((k : Nat) : Int)) (u2 := .int .i64 1) (v := .int .i64 ((k + 1 : Nat) : Int)) (b_add (by rw [IntKind.wrap_i64]; omega)) (lt_of rfl) ⟨rfl, trivial⟩))
        (oC (oS rfl rfl (r_move (av := dv (.int .i64 ((k + 1 : Nat) : Int))) (lt_of rfl) trivial)) (oZ rfl)))
        (by kernel_rfl) (by kernel_rfl) ?_
      refine nL (k + 1) (show (k + 1) ≤ (leavesB b).length from (by omega)) (show ((leavesB b).length - (k + 1) : Nat) < (leavesB b).length - k from (by omega)) (fun _ _ hG => Gs.into2 (s := ⟨[aa, pv 0 0, aa, ownV 1 (kSl false kU8) 0 (leavesB b).length, ownV 3 kU8 0 ((outB b k) ++ ((leavesB b).getD k [])).length, aa, slV false false kU8 ((leavesB b).getD k []), aa, aa, aa, aa, aa, aa, aa, aa, aa, aa, aa, aa, aa, aa, aa, aa, ownV 1 (kSl false kU8) 0 (leavesB b).length, dv (.int .i64 (((leavesB b).length : Nat) : Int)), dv (.int .i64 ((k + 1 : Nat) : Int)), dv (.bool (decide (((k : Nat) : Int) < (((leavesB b).length : Nat) : Int))))], [.live (.box 26 [.d (.val (.int .i64 b.f_Height)), .d (.val (strV b.f_Prev)), .d (dsl tb_ false (k_api_Envelope tb_) b.f_Requests), .d (dsl tb_ false (k_api_Result tb_) b.f_Results)]), .live (arrK 29 (kSl false kU8) (leavesB b)), .dead, .live (arrK 5 kU8 ((outB b k) ++ ((leavesB b).getD k [])))]⟩) (s' := ⟨[aa, pv 0 0, aa, ownV 1 (kSl false kU8) 0 (leavesB b).length, ownV 2 kU8 0 (outB b (k + 1)).length, aa, aa, aa, aa, aa, aa, aa, aa, aa, aa, aa, aa, aa, aa, aa, aa, aa, aa, ownV 1 (kSl false kU8) 0 (leavesB b).length, dv (.int .i64 (((leavesB b).length : Nat) : Int)), dv (.int .i64 ((k + 1 : Nat) : Int))], [.live (.box 26 [.d (.val (.int .i64 b.f_Height)), .d (.val (strV b.f_Prev)), .d (dsl tb_ false (k_api_Envelope tb_) b.f_Requests), .d (dsl tb_ false (k_api_Result tb_) b.f_Results)]), .live (arrK 29 (kSl false kU8) (leavesB b)), .live (arrK 5 kU8 (outB b (k + 1)))]⟩) [0, 1, 3] (bm 26 58720282) (t1 := [aa, pv 0 0, aa, ownV 1 (kSl false kU8) 0 (leavesB b).length, ownV 3 kU8 0 (outB b (k + 1)).length, aa, aa, aa, aa, aa, aa, aa, aa, aa, aa, aa, aa, aa, aa, aa, aa, aa, aa, ownV 1 (kSl false kU8) 0 (leavesB b).length, dv (.int .i64 (((leavesB b).length : Nat) : Int)), dv (.int .i64 ((k + 1 : Nat) : Int))]) (t2 := [aa, pv 0 0, aa, ownV 1 (kSl false kU8) 0 (leavesB b).length, ownV 3 kU8 0 ((outB b k) ++ ((leavesB b).getD k [])).length, aa, aa, aa, aa, aa, aa, aa, aa, aa, aa, aa, aa, aa, aa, aa, aa, aa, aa, ownV 1 (kSl false kU8) 0 (leavesB b).length, dv (.int .i64 (((leavesB b).length : Nat) : Int)), dv (.int .i64 ((k + 1 : Nat) : Int))]) (h1 := [.live (.box 26 [.d (.val (.int .i64 b.f_Height)), .d (.val (strV b.f_Prev)), .d (dsl tb_ false (k_api_Envelope tb_) b.f_Requests), .d (dsl tb_ false (k_api_Result tb_) b.f_Results)]), .live (arrK 29 (kSl false kU8) (leavesB b)), .live (arrK 5 kU8 (outB b (k + 1)))]) (h2 := [.live (.box 26 [.d (.val (.int .i64 b.f_Height)), .d (.val (strV b.f_Prev)), .d (dsl tb_ false (k_api_Envelope tb_) b.f_Requests), .d (dsl tb_ false (k_api_Result tb_) b.f_Results)]), .live (arrK 29 (kSl false kU8) (leavesB b)), .live (arrK 5 kU8 ((outB b k) ++ ((leavesB b).getD k [])))]) (by have e1 : ((outB b (k + 1)).length : Nat) = ((outB b k) ++ ((leavesB b).getD k [])).length := (by first | rfl | (rw [out_succ (by omega)])); have hE := congrArg (fun (q1 : Nat) => ([aa, pv 0 0, aa, ownV 1 (kSl false kU8) 0 (leavesB b).length, ownV 3 kU8 0 q1, aa, aa, aa, aa, aa, aa, aa, aa, aa, aa, aa, aa, aa, aa, aa, aa, aa, aa, ownV 1 (kSl false kU8) 0 (leavesB b).length, dv (.int .i64 (((leavesB b).length : Nat) : Int)), dv (.int .i64 ((k + 1 : Nat) : Int))] : List AV)) e1; exact hE) (by have e1 : ((outB b (k + 1)) : List UInt8) = (outB b k) ++ ((leavesB b).getD k []) := (by first | rfl | (rw [out_succ (by omega)])); have hE := congrArg (fun (q1 : List UInt8) => ([.live (.box 26 [.d (.val (.int .i64 b.f_Height)), .d (.val (strV b.f_Prev)), .d (dsl tb_ false (k_api_Envelope tb_) b.f_Requests), .d (dsl tb_ false (k_api_Result tb_) b.f_Results)]), .live (arrK 29 (kSl false kU8) (leavesB b)), .live (arrK 5 kU8 q1)] : List HS)) e1; exact hE) (by kernel_rfl) (by kernel_rfl) (by kernel_rfl) (by kernel_rfl) (by kernel_rfl) (by kernel_rfl) (by kernel_rfl) (by kernel_rfl) (by kernel_rfl) (by kernel_rfl) (by kernel_rfl) hG)
    · refine T.condF (b := (decide (((k : Nat) : Int) < (((leavesB b).length : Nat) : Int)))) rfl (decide_eq_false hq2) ?_
      refine T.exit ?_
      refine xT ?_
      refine xT ?_
      refine xH ?_
      refine nT ?_
      refine T.seq ?_
      refine tR (s1 := ⟨[aa, pv 0 0, ownV 2 kU8 0 (outB b k).length, ownV 1 (kSl false kU8) 0 (leavesB b).length, ownV 2 kU8 0 (outB b k).length, aa, aa, aa, aa, aa, aa, aa, aa, aa, aa, aa, aa, aa, aa, aa, aa, aa, aa, ownV 1 (kSl false kU8) 0 (leavesB b).length, dv (.int .i64 (((leavesB b).length : Nat) : Int)), dv (.int .i64 ((k : Nat) : Int)), dv (.bool (decide (((k : Nat) : Int) < (((leavesB b).length : Nat) : Int))))], [.live (.box 26 [.d (.val (.int .i64 b.f_Height)), .d (.val (strV b.f_Prev)), .d (dsl tb_ false (k_api_Envelope tb_) b.f_Requests), .d (dsl tb_ false (k_api_Result tb_) b.f_Results)]), .live (arrK 29 (kSl false kU8) (leavesB b)), .live (arrK 5 kU8 (outB b k))]⟩) (bm 27 125829150) [true, true, true]
        (oC (oS rfl rfl (r_move (av := ownV 2 kU8 0 (outB b k).length) (lt_of rfl) trivial))
        (oC (oS rfl rfl (r_assign (av := ownV 2 kU8 0 (outB b k).length) (lt_of rfl) trivial)) (oZ rfl)))
        (by kernel_rfl) (by kernel_rfl) ?_
      refine nT ?_
      refine T.ret ?_
      refine Ends.turn (s' := ⟨[aa, pv 0 0, slV false false kU8 (outB b k), ownV 1 (kSl false kU8) 0 (leavesB b).length, slV false false kU8 (outB b k), aa, aa, aa, aa, aa, aa, aa, aa, aa, aa, aa, aa, aa, aa, aa, aa, aa, aa, ownV 1 (kSl false kU8) 0 (leavesB b).length, dv (.int .i64 (((leavesB b).length : Nat) : Int)), dv (.int .i64 ((k : Nat) : Int)), dv (.bool (decide (((k : Nat) : Int) < (((leavesB b).length : Nat) : Int))))], [.live (.box 26 [.d (.val (.int .i64 b.f_Height)), .d (.val (strV b.f_Prev)), .d (dsl tb_ false (k_api_Envelope tb_) b.f_Requests), .d (dsl tb_ false (k_api_Result tb_) b.f_Results)]), .live (arrK 29 (kSl false kU8) (leavesB b)), .dead]⟩) (fun _ _ hG => Gs.freeze (s := ⟨[aa, pv 0 0, ownV 2 kU8 0 (outB b k).length, ownV 1 (kSl false kU8) 0 (leavesB b).length, ownV 2 kU8 0 (outB b k).length, aa, aa, aa, aa, aa, aa, aa, aa, aa, aa, aa, aa, aa, aa, aa, aa, aa, aa, ownV 1 (kSl false kU8) 0 (leavesB b).length, dv (.int .i64 (((leavesB b).length : Nat) : Int)), dv (.int .i64 ((k : Nat) : Int)), dv (.bool (decide (((k : Nat) : Int) < (((leavesB b).length : Nat) : Int))))], [.live (.box 26 [.d (.val (.int .i64 b.f_Height)), .d (.val (strV b.f_Prev)), .d (dsl tb_ false (k_api_Envelope tb_) b.f_Requests), .d (dsl tb_ false (k_api_Result tb_) b.f_Results)]), .live (arrK 29 (kSl false kU8) (leavesB b)), .live (arrK 5 kU8 (outB b k))]⟩) 2 (el := elOf kU8 (outB b k)) (sz := kU8.sz) (n := (outB b k).length) rfl ⟨(.inl rfl), ⟨(.inl rfl), ⟨(.inr (.inr ⟨rfl, rfl, rfl, (fun h => by cases h), rfl, rfl, by omega, fun i j _ => by rw [Nat.zero_add]⟩)), ⟨(.inl rfl), ⟨(.inr (.inr ⟨rfl, rfl, rfl, (fun h => by cases h), rfl, rfl, by omega, fun i j _ => by rw [Nat.zero_add]⟩)), ⟨(.inl rfl), ⟨(.inl rfl), ⟨(.inl rfl), ⟨(.inl rfl), ⟨(.inl rfl), ⟨(.inl rfl), ⟨(.inl rfl), ⟨(.inl rfl), ⟨(.inl rfl), ⟨(.inl rfl), ⟨(.inl rfl), ⟨(.inl rfl), ⟨(.inl rfl), ⟨(.inl rfl), ⟨(.inl rfl), ⟨(.inl rfl), ⟨(.inl rfl), ⟨(.inl rfl), ⟨(.inl rfl), ⟨(.inl rfl), ⟨(.inl rfl), ⟨(.inl rfl), trivial⟩⟩⟩⟩⟩⟩⟩⟩⟩⟩⟩⟩⟩⟩⟩⟩⟩⟩⟩⟩⟩⟩⟩⟩⟩⟩⟩ ⟨(.inr ⟨by decide, .inl rfl⟩), ⟨(.inr ⟨by decide, .inl rfl⟩), ⟨(.inl ⟨rfl, rfl⟩), trivial⟩⟩⟩ hG) ?_
      exact tE (.inl rfl) [.t 2 (.one (.d (dsl false false kU8 (outB b k))))] ⟨⟨rfl, rfl⟩, trivial⟩ [] (by have e1 : ((putB b) : List UInt8) = (outB b k) := (by first | rfl | (rw [putB, if_pos (Classical.not_not.1 (by assumption)), show k = (leavesB b).length by omega]) | (rw [putB, if_pos (by assumption), show k = (leavesB b).length by omega]) | (rw [putB, if_neg (by assumption)])); have hE := congrArg (fun (q1 : List UInt8) => (slV false false kU8 q1 : AV)) e1; exact hE) rfl rfl rfl rfl rfl trivial

-- quaestor/quaestorlaw10.Few
theorem law_Few (tb_ : Bool) (b : api_Block) (hq : b.f_Requests.length ≤ 9223372036854775807) (hr : b.f_Results.length ≤ 9223372036854775807) : Holds Try.prog 8 ⟨[.tv (.agg [.d (.val (.int .i64 b.f_Height)), .d (.val (strV b.f_Prev)), .d (dsl tb_ false (k_api_Envelope tb_) b.f_Requests), .d (dsl tb_ false (k_api_Result tb_) b.f_Results)])], [], dv (.bool (decide (fewB b))), []⟩ := by
  refine Holds.of Try.func8 rfl (N := 35) Try.ntmps8 rfl fun w0 B0 S0 U0 => ?_
  show T _ (mkBase 35 0 w0 S0 U0 B0) ⟨[.tv (.agg [.d (.val (.int .i64 b.f_Height)), .d (.val (strV b.f_Prev)), .d (dsl tb_ false (k_api_Envelope tb_) b.f_Requests), .d (dsl tb_ false (k_api_Result tb_) b.f_Results)])], []⟩ _ _
  refine T.seq ?_
  refine tR (s1 := ⟨[.tv (.agg [.d (.val (.int .i64 b.f_Height)), .d (.val (strV b.f_Prev)), .d (dsl tb_ false (k_api_Envelope tb_) b.f_Requests), .d (dsl tb_ false (k_api_Result tb_) b.f_Results)]), pv 0 0, dv (.bool false)], [.live (.box 26 [.d (.val (.int .i64 b.f_Height)), .d (.val (strV b.f_Prev)), .d (dsl tb_ false (k_api_Envelope tb_) b.f_Requests), .d (dsl tb_ false (k_api_Result tb_) b.f_Results)])]⟩) [true, true, true] [true]
    (oC (oS rfl rfl (r_box (l := 0) (t := .agg [.d (.val (.int .i64 b.f_Height)), .d (.val (strV b.f_Prev)), .d (dsl tb_ false (k_api_Envelope tb_) b.f_Requests), .d (dsl tb_ false (k_api_Result tb_) b.f_Results)]) rfl (lt_of rfl) trivial))
    (oC (oS rfl rfl (r_assign (av := dv (.bool false)) (lt_of rfl) ⟨rfl, trivial⟩)) (oZ rfl)))
    (by kernel_rfl) (by kernel_rfl) ?_
  refine nT ?_
  refine T.seq ?_
  refine T.seq ?_
  by_cases hq1 : ((b.f_Requests.length : Nat) : Int) > 20
  · refine tR (s1 := ⟨[.tv (.agg [.d (.val (.int .i64 b.f_Height)), .d (.val (strV b.f_Prev)), .d (dsl tb_ false (k_api_Envelope tb_) b.f_Requests), .d (dsl tb_ false (k_api_Result tb_) b.f_Results)]), pv 0 0, dv (.bool false), aa, aa, aa, aa, aa, aa, aa, aa, aa, aa, aa, aa, aa, aa, aa, aa, dv (.bool true)], [.live (.box 26 [.d (.val (.int .i64 b.f_Height)), .d (.val (strV b.f_Prev)), .d (dsl tb_ false (k_api_Envelope tb_) b.f_Requests), .d (dsl tb_ false (k_api_Result tb_) b.f_Results)])]⟩) (bm 20 524295) [true]
      (oC (oS rfl rfl (r_fieldAddr (l := 0) (off := 0) fld_26_2 (lt_of rfl) trivial))
      (oC (oS rfl rfl (r_loadB (l := 0) (off := 2) (T := 26) (cs := [.d (.val (.int .i64 b.f_Height)), .d (.val (strV b.f_Prev)), .d (dsl tb_ false (k_api_Envelope tb_) b.f_Requests), .d (dsl tb_ false (k_api_Result tb_) b.f_Results)]) (c := .d (dsl tb_ false (k_api_Envelope tb_) b.f_Requests)) wide_23 rfl (lt_of rfl) trivial))
      (oC (oS rfl rfl (q_len tb_ false (k_api_Envelope tb_) b.f_Requests Try.underlying23 (lt_of rfl) trivial))
      (oC (oS rfl rfl (r_bin (u1 := .int .i64 ((b.f_Requests.length : Nat) : Int)) (u2 := .int .i64 20) (v := .bool (decide (((b.f_Requests.length : Nat) : Int) > 20))) b_gtr (lt_of rfl) ⟨rfl, trivial⟩))
      (oC (oS rfl rfl (r_move (av := dv (.bool (decide (((b.f_Requests.length : Nat) : Int) > 20)))) (lt_of rfl) trivial))
      (oC (oN (b := (decide (((b.f_Requests.length : Nat) : Int) > 20))) rfl rfl rfl rfl (lt_of rfl) (decide_eq_true hq1) rfl (lt_of rfl))
      (oC (oN (b := (decide (((b.f_Requests.length : Nat) : Int) > 20))) rfl rfl rfl rfl (lt_of rfl) (decide_eq_true hq1) rfl (lt_of rfl))
      (oC (oN (b := (decide (((b.f_Requests.length : Nat) : Int) > 20))) rfl rfl rfl rfl (lt_of rfl) (decide_eq_true hq1) rfl (lt_of rfl))
      (oC (oN (b := (decide (((b.f_Requests.length : Nat) : Int) > 20))) rfl rfl rfl rfl (lt_of rfl) (decide_eq_true hq1) rfl (lt_of rfl))
      (oC (oS rfl rfl (r_pickT (b := (decide (((b.f_Requests.length : Nat) : Int) > 20))) (av := dv (.bool true)) (lt_of rfl) ⟨rfl, trivial⟩ (decide_eq_true hq1)))
      (oC (oS rfl rfl (r_move (av := dv (.bool true)) (lt_of rfl) trivial))
      (oC (oN (b := true) rfl rfl rfl rfl (lt_of rfl) rfl rfl (lt_of rfl))
      (oC (oN (b := true) rfl rfl rfl rfl (lt_of rfl) rfl rfl (lt_of rfl))
      (oC (oN (b := true) rfl rfl rfl rfl (lt_of rfl) rfl rfl (lt_of rfl))
      (oC (oN (b := true) rfl rfl rfl rfl (lt_of rfl) rfl rfl (lt_of rfl))
      (oC (oS rfl rfl (r_pickT (b := true) (av := dv (.bool true)) (lt_of rfl) ⟨rfl, trivial⟩ rfl)) (oZ rfl)))))))))))))))))
      (by kernel_rfl) (by kernel_rfl) ?_
    refine nT ?_
    refine T.condT (b := true) rfl rfl ?_
    refine T.seq ?_
    refine tR (s1 := ⟨[.tv (.agg [.d (.val (.int .i64 b.f_Height)), .d (.val (strV b.f_Prev)), .d (dsl tb_ false (k_api_Envelope tb_) b.f_Requests), .d (dsl tb_ false (k_api_Result tb_) b.f_Results)]), pv 0 0, dv (.bool false), aa, aa, aa, aa, aa, aa, aa, aa, aa, aa, aa, aa, aa, aa, aa, aa, dv (.bool true)], [.live (.box 26 [.d (.val (.int .i64 b.f_Height)), .d (.val (strV b.f_Prev)), .d (dsl tb_ false (k_api_Envelope tb_) b.f_Requests), .d (dsl tb_ false (k_api_Result tb_) b.f_Results)])]⟩) (bm 20 524295) [true]
      (oC (oS rfl rfl (r_assign (av := dv (.bool false)) (lt_of rfl) ⟨rfl, trivial⟩)) (oZ rfl))
      (by kernel_rfl) (by kernel_rfl) ?_
    refine nT ?_
    refine T.ret ?_
    refine rT ?_
    exact tE (.inl rfl) [.t 2 (.one (.d (.val (.bool false))))] ⟨⟨rfl, rfl⟩, trivial⟩ [] (by have e1 : ((decide (fewB b)) : Bool) = false := (by first | exact decide_eq_false (fun h9 => by have h8 := h9.1.1; omega) | exact decide_eq_false (fun h9 => by have h8 := h9.2.1; omega) | exact decide_eq_false (fun h9 => by have h8 := h9.2.2; omega) | exact decide_eq_false (fun h9 => fewG_no2 (z := z_api_Envelope) (k := k) (by omega) (by assumption) rfl h9.1) | exact decide_eq_true ⟨fewG_yes (z := z_api_Envelope) (k := k) (by assumption) rfl (by omega) hb, by omega, by omega⟩); have hE := congrArg (fun (q1 : Bool) => (dv (.bool q1) : AV)) e1; exact hE) rfl rfl rfl rfl rfl trivial
  · by_cases hq2 : ((b.f_Results.length : Nat) : Int) > 20
    · refine tR (s1 := ⟨[.tv (.agg [.d (.val (.int .i64 b.f_Height)), .d (.val (strV b.f_Prev)), .d (dsl tb_ false (k_api_Envelope tb_) b.f_Requests), .d (dsl tb_ false (k_api_Result tb_) b.f_Results)]), pv 0 0, dv (.bool false), aa, aa, aa, aa, aa, aa, aa, aa, aa, aa, aa, aa, aa, aa, aa, aa, dv (.bool true)], [.live (.box 26 [.d (.val (.int .i64 b.f_Height)), .d (.val (strV b.f_Prev)), .d (dsl tb_ false (k_api_Envelope tb_) b.f_Requests), .d (dsl tb_ false (k_api_Result tb_) b.f_Results)])]⟩) (bm 20 524295) [true]
        (oC (oS rfl rfl (r_fieldAddr (l := 0) (off := 0) fld_26_2 (lt_of rfl) trivial))
        (oC (oS rfl rfl (r_loadB (l := 0) (off := 2) (T := 26) (cs := [.d (.val (.int .i64 b.f_Height)), .d (.val (strV b.f_Prev)), .d (dsl tb_ false (k_api_Envelope tb_) b.f_Requests), .d (dsl tb_ false (k_api_Result tb_) b.f_Results)]) (c := .d (dsl tb_ false (k_api_Envelope tb_) b.f_Requests)) wide_23 rfl (lt_of rfl) trivial))
        (oC (oS rfl rfl (q_len tb_ false (k_api_Envelope tb_) b.f_Requests Try.underlying23 (lt_of rfl) trivial))
        (oC (oS rfl rfl (r_bin (u1 := .int .i64 ((b.f_Requests.length : Nat) : Int)) (u2 := .int .i64 20) (v := .bool (decide (((b.f_Requests.length : Nat) : Int) > 20))) b_gtr (lt_of rfl) ⟨rfl, trivial⟩))
        (oC (oS rfl rfl (r_move (av := dv (.bool (decide (((b.f_Requests.length : Nat) : Int) > 20)))) (lt_of rfl) trivial))
        (oC (oY (b := (decide (((b.f_Requests.length : Nat) : Int) > 20))) rfl rfl rfl rfl (lt_of rfl) (decide_eq_false hq1) (r_fieldAddr (l := 0) (off := 0) fld_26_3 (lt_of rfl) trivial))
        (oC (oY (b := (decide (((b.f_Requests.length : Nat) : Int) > 20))) rfl rfl rfl rfl (lt_of rfl) (decide_eq_false hq1) (r_loadB (l := 0) (off := 3) (T := 26) (cs := [.d (.val (.int .i64 b.f_Height)), .d (.val (strV b.f_Prev)), .d (dsl tb_ false (k_api_Envelope tb_) b.f_Requests), .d (dsl tb_ false (k_api_Result tb_) b.f_Results)]) (c := .d (dsl tb_ false (k_api_Result tb_) b.f_Results)) wide_24 rfl (lt_of rfl) trivial))
        (oC (oY (b := (decide (((b.f_Requests.length : Nat) : Int) > 20))) rfl rfl rfl rfl (lt_of rfl) (decide_eq_false hq1) (q_len tb_ false (k_api_Result tb_) b.f_Results Try.underlying24 (lt_of rfl) trivial))
        (oC (oY (b := (decide (((b.f_Requests.length : Nat) : Int) > 20))) rfl rfl rfl rfl (lt_of rfl) (decide_eq_false hq1) (r_bin (u1 := .int .i64 ((b.f_Results.length : Nat) : Int)) (u2 := .int .i64 20) (v := .bool (decide (((b.f_Results.length : Nat) : Int) > 20))) b_gtr (lt_of rfl) ⟨rfl, trivial⟩))
        (oC (oS rfl rfl (r_pickF (b := (decide (((b.f_Requests.length : Nat) : Int) > 20))) (av := dv (.bool (decide (((b.f_Results.length : Nat) : Int) > 20)))) (lt_of rfl) trivial (decide_eq_false hq1)))
        (oC (oS rfl rfl (r_move (av := dv (.bool (decide (((b.f_Results.length : Nat) : Int) > 20)))) (lt_of rfl) trivial))
        (oC (oN (b := (decide (((b.f_Results.length : Nat) : Int) > 20))) rfl rfl rfl rfl (lt_of rfl) (decide_eq_true hq2) rfl (lt_of rfl))
        (oC (oN (b := (decide (((b.f_Results.length : Nat) : Int) > 20))) rfl rfl rfl rfl (lt_of rfl) (decide_eq_true hq2) rfl (lt_of rfl))
        (oC (oN (b := (decide (((b.f_Results.length : Nat) : Int) > 20))) rfl rfl rfl rfl (lt_of rfl) (decide_eq_true hq2) rfl (lt_of rfl))
        (oC (oN (b := (decide (((b.f_Results.length : Nat) : Int) > 20))) rfl rfl rfl rfl (lt_of rfl) (decide_eq_true hq2) rfl (lt_of rfl))
        (oC (oS rfl rfl (r_pickT (b := (decide (((b.f_Results.length : Nat) : Int) > 20))) (av := dv (.bool true)) (lt_of rfl) ⟨rfl, trivial⟩ (decide_eq_true hq2))) (oZ rfl)))))))))))))))))
        (by kernel_rfl) (by kernel_rfl) ?_
      refine nT ?_
      refine T.condT (b := true) rfl rfl ?_
      refine T.seq ?_
      refine tR (s1 := ⟨[.tv (.agg [.d (.val (.int .i64 b.f_Height)), .d (.val (strV b.f_Prev)), .d (dsl tb_ false (k_api_Envelope tb_) b.f_Requests), .d (dsl tb_ false (k_api_Result tb_) b.f_Results)]), pv 0 0, dv (.bool false), aa, aa, aa, aa, aa, aa, aa, aa, aa, aa, aa, aa, aa, aa, aa, aa, dv (.bool true)], [.live (.box 26 [.d (.val (.int .i64 b.f_Height)), .d (.val (strV b.f_Prev)), .d (dsl tb_ false (k_api_Envelope tb_) b.f_Requests), .d (dsl tb_ false (k_api_Result tb_) b.f_Results)])]⟩) (bm 20 524295) [true]
        (oC (oS rfl rfl (r_assign (av := dv (.bool false)) (lt_of rfl) ⟨rfl, trivial⟩)) (oZ rfl))
        (by kernel_rfl) (by kernel_rfl) ?_
      refine nT ?_
      refine T.ret ?_
      refine rT ?_
      exact tE (.inl rfl) [.t 2 (.one (.d (.val (.bool false))))] ⟨⟨rfl, rfl⟩, trivial⟩ [] (by have e1 : ((decide (fewB b)) : Bool) = false := (by first | exact decide_eq_false (fun h9 => by have h8 := h9.1.1; omega) | exact decide_eq_false (fun h9 => by have h8 := h9.2.1; omega) | exact decide_eq_false (fun h9 => by have h8 := h9.2.2; omega) | exact decide_eq_false (fun h9 => fewG_no2 (z := z_api_Envelope) (k := k) (by omega) (by assumption) rfl h9.1) | exact decide_eq_true ⟨fewG_yes (z := z_api_Envelope) (k := k) (by assumption) rfl (by omega) hb, by omega, by omega⟩); have hE := congrArg (fun (q1 : Bool) => (dv (.bool q1) : AV)) e1; exact hE) rfl rfl rfl rfl rfl trivial
    · refine tR (s1 := ⟨[.tv (.agg [.d (.val (.int .i64 b.f_Height)), .d (.val (strV b.f_Prev)), .d (dsl tb_ false (k_api_Envelope tb_) b.f_Requests), .d (dsl tb_ false (k_api_Result tb_) b.f_Results)]), pv 0 0, dv (.bool false), aa, aa, aa, aa, aa, aa, aa, aa, aa, aa, aa, aa, aa, aa, aa, aa, dv (.bool (decide (((b.f_Prev.length : Nat) : Int) > 5000)))], [.live (.box 26 [.d (.val (.int .i64 b.f_Height)), .d (.val (strV b.f_Prev)), .d (dsl tb_ false (k_api_Envelope tb_) b.f_Requests), .d (dsl tb_ false (k_api_Result tb_) b.f_Results)])]⟩) (bm 20 524295) [true]
        (oC (oS rfl rfl (r_fieldAddr (l := 0) (off := 0) fld_26_2 (lt_of rfl) trivial))
        (oC (oS rfl rfl (r_loadB (l := 0) (off := 2) (T := 26) (cs := [.d (.val (.int .i64 b.f_Height)), .d (.val (strV b.f_Prev)), .d (dsl tb_ false (k_api_Envelope tb_) b.f_Requests), .d (dsl tb_ false (k_api_Result tb_) b.f_Results)]) (c := .d (dsl tb_ false (k_api_Envelope tb_) b.f_Requests)) wide_23 rfl (lt_of rfl) trivial))
        (oC (oS rfl rfl (q_len tb_ false (k_api_Envelope tb_) b.f_Requests Try.underlying23 (lt_of rfl) trivial))
        (oC (oS rfl rfl (r_bin (u1 := .int .i64 ((b.f_Requests.length : Nat) : Int)) (u2 := .int .i64 20) (v := .bool (decide (((b.f_Requests.length : Nat) : Int) > 20))) b_gtr (lt_of rfl) ⟨rfl, trivial⟩))
        (oC (oS rfl rfl (r_move (av := dv (.bool (decide (((b.f_Requests.length : Nat) : Int) > 20)))) (lt_of rfl) trivial))
        (oC (oY (b := (decide (((b.f_Requests.length : Nat) : Int) > 20))) rfl rfl rfl rfl (lt_of rfl) (decide_eq_false hq1) (r_fieldAddr (l := 0) (off := 0) fld_26_3 (lt_of rfl) trivial))
        (oC (oY (b := (decide (((b.f_Requests.length : Nat) : Int) > 20))) rfl rfl rfl rfl (lt_of rfl) (decide_eq_false hq1) (r_loadB (l := 0) (off := 3) (T := 26) (cs := [.d (.val (.int .i64 b.f_Height)), .d (.val (strV b.f_Prev)), .d (dsl tb_ false (k_api_Envelope tb_) b.f_Requests), .d (dsl tb_ false (k_api_Result tb_) b.f_Results)]) (c := .d (dsl tb_ false (k_api_Result tb_) b.f_Results)) wide_24 rfl (lt_of rfl) trivial))
        (oC (oY (b := (decide (((b.f_Requests.length : Nat) : Int) > 20))) rfl rfl rfl rfl (lt_of rfl) (decide_eq_false hq1) (q_len tb_ false (k_api_Result tb_) b.f_Results Try.underlying24 (lt_of rfl) trivial))
        (oC (oY (b := (decide (((b.f_Requests.length : Nat) : Int) > 20))) rfl rfl rfl rfl (lt_of rfl) (decide_eq_false hq1) (r_bin (u1 := .int .i64 ((b.f_Results.length : Nat) : Int)) (u2 := .int .i64 20) (v := .bool (decide (((b.f_Results.length : Nat) : Int) > 20))) b_gtr (lt_of rfl) ⟨rfl, trivial⟩))
        (oC (oS rfl rfl (r_pickF (b := (decide (((b.f_Requests.length : Nat) : Int) > 20))) (av := dv (.bool (decide (((b.f_Results.length : Nat) : Int) > 20)))) (lt_of rfl) trivial (decide_eq_false hq1)))
        (oC (oS rfl rfl (r_move (av := dv (.bool (decide (((b.f_Results.length : Nat) : Int) > 20)))) (lt_of rfl) trivial))
        (oC (oY (b := (decide (((b.f_Results.length : Nat) : Int) > 20))) rfl rfl rfl rfl (lt_of rfl) (decide_eq_false hq2) (r_fieldAddr (l := 0) (off := 0) fld_26_1 (lt_of rfl) trivial))
        (oC (oY (b := (decide (((b.f_Results.length : Nat) : Int) > 20))) rfl rfl rfl rfl (lt_of rfl) (decide_eq_false hq2) (r_loadB (l := 0) (off := 1) (T := 26) (cs := [.d (.val (.int .i64 b.f_Height)), .d (.val (strV b.f_Prev)), .d (dsl tb_ false (k_api_Envelope tb_) b.f_Requests), .d (dsl tb_ false (k_api_Result tb_) b.f_Results)]) (c := .d (.val (strV b.f_Prev))) wide_22 rfl (lt_of rfl) trivial))
        (oC (oY (b := (decide (((b.f_Results.length : Nat) : Int) > 20))) rfl rfl rfl rfl (lt_of rfl) (decide_eq_false hq2) (q_lenStr b.f_Prev Try.underlying22 (lt_of rfl) trivial))
        (oC (oY (b := (decide (((b.f_Results.length : Nat) : Int) > 20))) rfl rfl rfl rfl (lt_of rfl) (decide_eq_false hq2) (r_bin (u1 := .int .i64 ((b.f_Prev.length : Nat) : Int)) (u2 := .int .i64 5000) (v := .bool (decide (((b.f_Prev.length : Nat) : Int) > 5000))) b_gtr (lt_of rfl) ⟨rfl, trivial⟩))
        (oC (oS rfl rfl (r_pickF (b := (decide (((b.f_Results.length : Nat) : Int) > 20))) (av := dv (.bool (decide (((b.f_Prev.length : Nat) : Int) > 5000)))) (lt_of rfl) trivial (decide_eq_false hq2))) (oZ rfl)))))))))))))))))
        (by kernel_rfl) (by kernel_rfl) ?_
      refine nT ?_
      by_cases hq3 : ((b.f_Prev.length : Nat) : Int) > 5000
      · refine T.condT (b := (decide (((b.f_Prev.length : Nat) : Int) > 5000))) rfl (decide_eq_true hq3) ?_
        refine T.seq ?_
        refine tR (s1 := ⟨[.tv (.agg [.d (.val (.int .i64 b.f_Height)), .d (.val (strV b.f_Prev)), .d (dsl tb_ false (k_api_Envelope tb_) b.f_Requests), .d (dsl tb_ false (k_api_Result tb_) b.f_Results)]), pv 0 0, dv (.bool false), aa, aa, aa, aa, aa, aa, aa, aa, aa, aa, aa, aa, aa, aa, aa, aa, dv (.bool (decide (((b.f_Prev.length : Nat) : Int) > 5000)))], [.live (.box 26 [.d (.val (.int .i64 b.f_Height)), .d (.val (strV b.f_Prev)), .d (dsl tb_ false (k_api_Envelope tb_) b.f_Requests), .d (dsl tb_ false (k_api_Result tb_) b.f_Results)])]⟩) (bm 20 524295) [true]
          (oC (oS rfl rfl (r_assign (av := dv (.bool false)) (lt_of rfl) ⟨rfl, trivial⟩)) (oZ rfl))
          (by kernel_rfl) (by kernel_rfl) ?_
        refine nT ?_
        refine T.ret ?_
        refine rT ?_
        exact tE (.inl rfl) [.t 2 (.one (.d (.val (.bool false))))] ⟨⟨rfl, rfl⟩, trivial⟩ [] (by have e1 : ((decide (fewB b)) : Bool) = false := (by first | exact decide_eq_false (fun h9 => by have h8 := h9.1.1; omega) | exact decide_eq_false (fun h9 => by have h8 := h9.2.1; omega) | exact decide_eq_false (fun h9 => by have h8 := h9.2.2; omega) | exact decide_eq_false (fun h9 => fewG_no2 (z := z_api_Envelope) (k := k) (by omega) (by assumption) rfl h9.1) | exact decide_eq_true ⟨fewG_yes (z := z_api_Envelope) (k := k) (by assumption) rfl (by omega) hb, by omega, by omega⟩); have hE := congrArg (fun (q1 : Bool) => (dv (.bool q1) : AV)) e1; exact hE) rfl rfl rfl rfl rfl trivial
      · refine T.condF (b := (decide (((b.f_Prev.length : Nat) : Int) > 5000))) rfl (decide_eq_false hq3) ?_
        refine T.skip ?_
        refine nT ?_
        refine T.seq ?_
        refine T.seq ?_
        refine tR (s1 := ⟨[.tv (.agg [.d (.val (.int .i64 b.f_Height)), .d (.val (strV b.f_Prev)), .d (dsl tb_ false (k_api_Envelope tb_) b.f_Requests), .d (dsl tb_ false (k_api_Result tb_) b.f_Results)]), pv 0 0, dv (.bool false), dv (.int .i64 0), aa, aa, aa, aa, aa, aa, aa, aa, aa, aa, aa, aa, aa, aa, aa, dv (.bool (decide (((b.f_Prev.length : Nat) : Int) > 5000)))], [.live (.box 26 [.d (.val (.int .i64 b.f_Height)), .d (.val (strV b.f_Prev)), .d (dsl tb_ false (k_api_Envelope tb_) b.f_Requests), .d (dsl tb_ false (k_api_Result tb_) b.f_Results)])]⟩) (bm 20 524303) [true]
          (oC (oS rfl rfl (r_assign (av := dv (.int .i64 0)) (lt_of rfl) ⟨rfl, trivial⟩)) (oZ rfl))
          (by kernel_rfl) (by kernel_rfl) ?_
        refine nT ?_
        refine T.block ?_
        refine T.loop (ι := Nat) (fun (k : Nat) => ⟨[.tv (.agg [.d (.val (.int .i64 b.f_Height)), .d (.val (strV b.f_Prev)), .d (dsl tb_ false (k_api_Envelope tb_) b.f_Requests), .d (dsl tb_ false (k_api_Result tb_) b.f_Results)]), pv 0 0, dv (.bool false), dv (.int .i64 ((k : Nat) : Int)), aa, aa, aa, aa, aa, aa, aa, aa, aa, aa, aa, aa, aa, aa, aa, dv (.bool (decide (((b.f_Prev.length : Nat) : Int) > 5000)))], [.live (.box 26 [.d (.val (.int .i64 b.f_Height)), .d (.val (strV b.f_Prev)), .d (dsl tb_ false (k_api_Envelope tb_) b.f_Requests), .d (dsl tb_ false (k_api_Result tb_) b.f_Results)])]⟩) (fun (k : Nat) => (k ≤ b.f_Requests.length) ∧ (∀ j, j < k → szE (b.f_Requests.getD j z_api_Envelope) ≤ 500)) (fun (k : Nat) => b.f_Requests.length - k) (0) ⟨(Nat.zero_le _), (fun j hj => absurd hj (Nat.not_lt_zero _))⟩ (fun _ _ hG => Gs.into2 (s := ⟨[.tv (.agg [.d (.val (.int .i64 b.f_Height)), .d (.val (strV b.f_Prev)), .d (dsl tb_ false (k_api_Envelope tb_) b.f_Requests), .d (dsl tb_ false (k_api_Result tb_) b.f_Results)]), pv 0 0, dv (.bool false), dv (.int .i64 0), aa, aa, aa, aa, aa, aa, aa, aa, aa, aa, aa, aa, aa, aa, aa, dv (.bool (decide (((b.f_Prev.length : Nat) : Int) > 5000)))], [.live (.box 26 [.d (.val (.int .i64 b.f_Height)), .d (.val (strV b.f_Prev)), .d (dsl tb_ false (k_api_Envelope tb_) b.f_Requests), .d (dsl tb_ false (k_api_Result tb_) b.f_Results)])]⟩) (s' := ⟨[.tv (.agg [.d (.val (.int .i64 b.f_Height)), .d (.val (strV b.f_Prev)), .d (dsl tb_ false (k_api_Envelope tb_) b.f_Requests), .d (dsl tb_ false (k_api_Result tb_) b.f_Results)]), pv 0 0, dv (.bool false), dv (.int .i64 0), aa, aa, aa, aa, aa, aa, aa, aa, aa, aa, aa, aa, aa, aa, aa, dv (.bool (decide (((b.f_Prev.length : Nat) : Int) > 5000)))], [.live (.box 26 [.d (.val (.int .i64 b.f_Height)), .d (.val (strV b.f_Prev)), .d (dsl tb_ false (k_api_Envelope tb_) b.f_Requests), .d (dsl tb_ false (k_api_Result tb_) b.f_Results)])]⟩) [0] (bm 20 524303) (t1 := [.tv (.agg [.d (.val (.int .i64 b.f_Height)), .d (.val (strV b.f_Prev)), .d (dsl tb_ false (k_api_Envelope tb_) b.f_Requests), .d (dsl tb_ false (k_api_Result tb_) b.f_Results)]), pv 0 0, dv (.bool false), dv (.int .i64 0), aa, aa, aa, aa, aa, aa, aa, aa, aa, aa, aa, aa, aa, aa, aa, dv (.bool (decide (((b.f_Prev.length : Nat) : Int) > 5000)))]) (t2 := [.tv (.agg [.d (.val (.int .i64 b.f_Height)), .d (.val (strV b.f_Prev)), .d (dsl tb_ false (k_api_Envelope tb_) b.f_Requests), .d (dsl tb_ false (k_api_Result tb_) b.f_Results)]), pv 0 0, dv (.bool false), dv (.int .i64 0), aa, aa, aa, aa, aa, aa, aa, aa, aa, aa, aa, aa, aa, aa, aa, dv (.bool (decide (((b.f_Prev.length : Nat) : Int) > 5000)))]) (h1 := [.live (.box 26 [.d (.val (.int .i64 b.f_Height)), .d (.val (strV b.f_Prev)), .d (dsl tb_ false (k_api_Envelope tb_) b.f_Requests), .d (dsl tb_ false (k_api_Result tb_) b.f_Results)])]) (h2 := [.live (.box 26 [.d (.val (.int .i64 b.f_Height)), .d (.val (strV b.f_Prev)), .d (dsl tb_ false (k_api_Envelope tb_) b.f_Requests), .d (dsl tb_ false (k_api_Result tb_) b.f_Results)])]) rfl rfl (by kernel_rfl) (by kernel_rfl) (by kernel_rfl) (by kernel_rfl) (by kernel_rfl) (by kernel_rfl) (by kernel_rfl) (by kernel_rfl) (by kernel_rfl) (by kernel_rfl) (by kernel_rfl) hG) ?_
        rintro k ⟨hk, hb⟩
        show T _ _ ⟨[.tv (.agg [.d (.val (.int .i64 b.f_Height)), .d (.val (strV b.f_Prev)), .d (dsl tb_ false (k_api_Envelope tb_) b.f_Requests), .d (dsl tb_ false (k_api_Result tb_) b.f_Results)]), pv 0 0, dv (.bool false), dv (.int .i64 ((k : Nat) : Int)), aa, aa, aa, aa, aa, aa, aa, aa, aa, aa, aa, aa, aa, aa, aa, dv (.bool (decide (((b.f_Prev.length : Nat) : Int) > 5000)))], [.live (.box 26 [.d (.val (.int .i64 b.f_Height)), .d (.val (strV b.f_Prev)), .d (dsl tb_ false (k_api_Envelope tb_) b.f_Requests), .d (dsl tb_ false (k_api_Result tb_) b.f_Results)])]⟩ _ _
        replace hk : k ≤ b.f_Requests.length := hk
        replace hb : ∀ j, j < k → szE (b.f_Requests.getD j z_api_Envelope) ≤ 500 := hb
        refine T.seq ?_
        refine T.seq ?_
        refine tR (s1 := ⟨[.tv (.agg [.d (.val (.int .i64 b.f_Height)), .d (.val (strV b.f_Prev)), .d (dsl tb_ false (k_api_Envelope tb_) b.f_Requests), .d (dsl tb_ false (k_api_Result tb_) b.f_Results)]), pv 0 0, dv (.bool false), dv (.int .i64 ((k : Nat) : Int)), aa, aa, aa, aa, aa, aa, aa, aa, aa, aa, aa, aa, aa, aa, aa, dv (.bool (decide (((b.f_Prev.length : Nat) : Int) > 5000))), aa, aa, aa, aa, dv (.bool (decide (((k : Nat) : Int) < ((b.f_Requests.length : Nat) : Int))))], [.live (.box 26 [.d (.val (.int .i64 b.f_Height)), .d (.val (strV b.f_Prev)), .d (dsl tb_ false (k_api_Envelope tb_) b.f_Requests), .d (dsl tb_ false (k_api_Result tb_) b.f_Results)])]⟩) (bm 25 17301519) [true]
          (oC (oS rfl rfl (r_move (av := dv (.int .i64 ((k : Nat) : Int))) (lt_of rfl) trivial))
          (oC (oS rfl rfl (r_fieldAddr (l := 0) (off := 0) fld_26_2 (lt_of rfl) trivial))
          (oC (oS rfl rfl (r_loadB (l := 0) (off := 2) (T := 26) (cs := [.d (.val (.int .i64 b.f_Height)), .d (.val (strV b.f_Prev)), .d (dsl tb_ false (k_api_Envelope tb_) b.f_Requests), .d (dsl tb_ false (k_api_Result tb_) b.f_Results)]) (c := .d (dsl tb_ false (k_api_Envelope tb_) b.f_Requests)) wide_23 rfl (lt_of rfl) trivial))
          (oC (oS rfl rfl (q_len tb_ false (k_api_Envelope tb_) b.f_Requests Try.underlying23 (lt_of rfl) trivial))
          (oC (oS rfl rfl (r_bin (u1 := .int .i64 ((k : Nat) : Int)) (u2 := .int .i64 ((b.f_Requests.length : Nat) : Int)) (v := .bool (decide (((k : Nat) : Int) < ((b.f_Requests.length : Nat) : Int)))) b_lss (lt_of rfl) trivial)) (oZ rfl))))))
          (by kernel_rfl) (by kernel_rfl) ?_
        refine nT ?_
        by_cases hq4 : ((k : Nat) : Int) < ((b.f_Requests.length : Nat) : Int)
        · refine T.condT (b := (decide (((k : Nat) : Int) < ((b.f_Requests.length : Nat) : Int)))) rfl (decide_eq_true hq4) ?_
          refine T.skip ?_
          refine nT ?_
          refine T.seq ?_
          refine T.block ?_
          refine T.seq ?_
          refine tR (s1 := ⟨[.tv (.agg [.d (.val (.int .i64 b.f_Height)), .d (.val (strV b.f_Prev)), .d (dsl tb_ false (k_api_Envelope tb_) b.f_Requests), .d (dsl tb_ false (k_api_Result tb_) b.f_Results)]), pv 0 0, dv (.bool false), dv (.int .i64 ((k : Nat) : Int)), aa, aa, aa, aa, aa, aa, aa, aa, aa, aa, aa, aa, aa, aa, aa, dv (.bool (decide (((b.f_Prev.length : Nat) : Int) > 5000))), aa, aa, aa, aa, dv (.bool (decide (((k : Nat) : Int) < ((b.f_Requests.length : Nat) : Int)))), aa, aa, aa, aa, aa, aa, aa, aa, aa, dv (.bool (decide ((((b.f_Requests.getD k z_api_Envelope).f_Body.length : Nat) : Int) > 500)))], [.live (.box 26 [.d (.val (.int .i64 b.f_Height)), .d (.val (strV b.f_Prev)), .d (dsl tb_ false (k_api_Envelope tb_) b.f_Requests), .d (dsl tb_ false (k_api_Result tb_) b.f_Results)])]⟩) (bm 35 17197170703) [true]
            (oC (oS rfl rfl (r_fieldAddr (l := 0) (off := 0) fld_26_2 (lt_of rfl) trivial))
            (oC (oS rfl rfl (r_loadB (l := 0) (off := 2) (T := 26) (cs := [.d (.val (.int .i64 b.f_Height)), .d (.val (strV b.f_Prev)), .d (dsl tb_ false (k_api_Envelope tb_) b.f_Requests), .d (dsl tb_ false (k_api_Result tb_) b.f_Results)]) (c := .d (dsl tb_ false (k_api_Envelope tb_) b.f_Requests)) wide_23 rfl (lt_of rfl) trivial))
            (oC (oS rfl rfl (r_move (av := dv (.int .i64 ((k : Nat) : Int))) (lt_of rfl) trivial))
            (oC (oS rfl rfl (q_index tb_ false (k_api_Envelope tb_) b.f_Requests k (k := .i64) (i := ((k : Nat) : Int)) Try.underlying23 iat_32 rfl rfl (by first | assumption | omega | (unfold maxLen; omega) | (simp [maxLen] <;> omega) | decide) (lt_of rfl) trivial))
            (oC (oS rfl rfl (r_fieldAddrE (tag := tb_) (n := 2) (m := 1) (el := (k_api_Envelope tb_).cell (b.f_Requests.getD k (k_api_Envelope tb_).z)) fld_32_1 (by decide) (lt_of rfl) trivial))
            (oC (oS rfl rfl (r_loadE (tag := tb_) (n := 1) (el := fun j_ => ((k_api_Envelope tb_).cell (b.f_Requests.getD k (k_api_Envelope tb_).z)) (1 + j_)) (e0 := dsl tb_ false kU8 (b.f_Requests.getD k z_api_Envelope).f_Body) wide_29 (by decide) rfl (lt_of rfl) trivial))
            (oC (oS rfl rfl (q_len tb_ false kU8 (b.f_Requests.getD k z_api_Envelope).f_Body Try.underlying29 (lt_of rfl) trivial))
            (oC (oS rfl rfl (r_bin (u1 := .int .i64 (((b.f_Requests.getD k z_api_Envelope).f_Body.length : Nat) : Int)) (u2 := .int .i64 500) (v := .bool (decide ((((b.f_Requests.getD k z_api_Envelope).f_Body.length : Nat) : Int) > 500))) b_gtr (lt_of rfl) ⟨rfl, trivial⟩)) (oZ rfl)))))))))
            (by kernel_rfl) (by kernel_rfl) ?_
          refine nT ?_
          by_cases hq5 : (((b.f_Requests.getD k z_api_Envelope).f_Body.length : Nat) : Int) > 500
          · refine T.condT (b := (decide ((((b.f_Requests.getD k z_api_Envelope).f_Body.length : Nat) : Int) > 500))) rfl (decide_eq_true hq5) ?_
            refine T.seq ?_
            refine tR (s1 := ⟨[.tv (.agg [.d (.val (.int .i64 b.f_Height)), .d (.val (strV b.f_Prev)), .d (dsl tb_ false (k_api_Envelope tb_) b.f_Requests), .d (dsl tb_ false (k_api_Result tb_) b.f_Results)]), pv 0 0, dv (.bool false), dv (.int .i64 ((k : Nat) : Int)), aa, aa, aa, aa, aa, aa, aa, aa, aa, aa, aa, aa, aa, aa, aa, dv (.bool (decide (((b.f_Prev.length : Nat) : Int) > 5000))), aa, aa, aa, aa, dv (.bool (decide (((k : Nat) : Int) < ((b.f_Requests.length : Nat) : Int)))), aa, aa, aa, aa, aa, aa, aa, aa, aa, dv (.bool (decide ((((b.f_Requests.getD k z_api_Envelope).f_Body.length : Nat) : Int) > 500)))], [.live (.box 26 [.d (.val (.int .i64 b.f_Height)), .d (.val (strV b.f_Prev)), .d (dsl tb_ false (k_api_Envelope tb_) b.f_Requests), .d (dsl tb_ false (k_api_Result tb_) b.f_Results)])]⟩) (bm 35 17197170703) [true]
              (oC (oS rfl rfl (r_assign (av := dv (.bool false)) (lt_of rfl) ⟨rfl, trivial⟩)) (oZ rfl))
              (by kernel_rfl) (by kernel_rfl) ?_
            refine nT ?_
            refine T.ret ?_
            refine rB ?_
            refine rT ?_
            refine rT ?_
            refine rB ?_
            refine rT ?_
            exact tE (.inl rfl) [.t 2 (.one (.d (.val (.bool false))))] ⟨⟨rfl, rfl⟩, trivial⟩ [] (by have e1 : ((decide (fewB b)) : Bool) = false := (by first | exact decide_eq_false (fun h9 => by have h8 := h9.1.1; omega) | exact decide_eq_false (fun h9 => by have h8 := h9.2.1; omega) | exact decide_eq_false (fun h9 => by have h8 := h9.2.2; omega) | exact decide_eq_false (fun h9 => fewG_no2 (z := z_api_Envelope) (k := k) (by omega) (by assumption) rfl h9.1) | exact decide_eq_true ⟨fewG_yes (z := z_api_Envelope) (k := k) (by assumption) rfl (by omega) hb, by omega, by omega⟩); have hE := congrArg (fun (q1 : Bool) => (dv (.bool q1) : AV)) e1; exact hE) rfl rfl rfl rfl rfl trivial
          · refine T.condF (b := (decide ((((b.f_Requests.getD k z_api_Envelope).f_Body.length : Nat) : Int) > 500))) rfl (decide_eq_false hq5) ?_
            refine T.skip ?_
            refine nB ?_
            refine nT ?_
            refine tR (s1 := ⟨[.tv (.agg [.d (.val (.int .i64 b.f_Height)), .d (.val (strV b.f_Prev)), .d (dsl tb_ false (k_api_Envelope tb_) b.f_Requests), .d (dsl tb_ false (k_api_Result tb_) b.f_Results)]), pv 0 0, dv (.bool false), dv (.int .i64 ((k + 1 : Nat) : Int)), aa, aa, aa, aa, aa, aa, aa, aa, aa, aa, aa, aa, aa, aa, aa, dv (.bool (decide (((b.f_Prev.length : Nat) : Int) > 5000))), aa, aa, aa, aa, dv (.bool (decide (((k : Nat) : Int) < ((b.f_Requests.length : Nat) : Int)))), aa, aa, aa, aa, aa, aa, aa, aa, aa, dv (.bool (decide ((((b.f_Requests.getD k z_api_Envelope).f_Body.length : Nat) : Int) > 500)))], [.live (.box 26 [.d (.val (.int .i64 b.f_Height)), .d (.val (strV b.f_Prev)), .d (dsl tb_ false (k_api_Envelope tb_) b.f_Requests), .d (dsl tb_ false (k_api_Result tb_) b.f_Results)])]⟩) (bm 35 17197170703) [true]
              (oC (oS rfl rfl (r_move (av := dv (.int .i64 ((k : Nat) : Int))) (lt_of rfl) trivial))
              (oC (oS rfl rfl (r_bin (u1 := .int .i64 ((k : Nat) : Int)) (u2 := .int .i64 1) (v := .int .i64 ((k + 1 : Nat) : Int)) (b_add (by rw [IntKind.wrap_i64]; omega)) (lt_of rfl) ⟨rfl, trivial⟩))
              (oC (oS rfl rfl (r_assign (av := dv (.int .i64 ((k + 1 : Nat) : Int))) (lt_of rfl) trivial)) (oZ rfl))))
              (by kernel_rfl) (by kernel_rfl) ?_
            refine nL (k + 1) ⟨(show (k + 1) ≤ b.f_Requests.length from (by omega)), (show ∀ j, j < (k + 1) → szE (b.f_Requests.getD j z_api_Envelope) ≤ 500 from (all_succ hb (by have h9 : ((((b.f_Requests.getD k z_api_Envelope).f_Body.length : Nat) : Int)) ≤ 500 := (by omega); exact Int.ofNat_le.1 h9)))⟩ (show (b.f_Requests.length - (k + 1) : Nat) < b.f_Requests.length - k from (by omega)) (fun _ _ hG => Gs.into2 (s := ⟨[.tv (.agg [.d (.val (.int .i64 b.f_Height)), .d (.val (strV b.f_Prev)), .d (dsl tb_ false (k_api_Envelope tb_) b.f_Requests), .d (dsl tb_ false (k_api_Result tb_) b.f_Results)]), pv 0 0, dv (.bool false), dv (.int .i64 ((k + 1 : Nat) : Int)), aa, aa, aa, aa, aa, aa, aa, aa, aa, aa, aa, aa, aa, aa, aa, dv (.bool (decide (((b.f_Prev.length : Nat) : Int) > 5000))), aa, aa, aa, aa, dv (.bool (decide (((k : Nat) : Int) < ((b.f_Requests.length : Nat) : Int)))), aa, aa, aa, aa, aa, aa, aa, aa, aa, dv (.bool (decide ((((b.f_Requests.getD k z_api_Envelope).f_Body.length : Nat) : Int) > 500)))], [.live (.box 26 [.d (.val (.int .i64 b.f_Height)), .d (.val (strV b.f_Prev)), .d (dsl tb_ false (k_api_Envelope tb_) b.f_Requests), .d (dsl tb_ false (k_api_Result tb_) b.f_Results)])]⟩) (s' := ⟨[.tv (.agg [.d (.val (.int .i64 b.f_Height)), .d (.val (strV b.f_Prev)), .d (dsl tb_ false (k_api_Envelope tb_) b.f_Requests), .d (dsl tb_ false (k_api_Result tb_) b.f_Results)]), pv 0 0, dv (.bool false), dv (.int .i64 ((k + 1 : Nat) : Int)), aa, aa, aa, aa, aa, aa, aa, aa, aa, aa, aa, aa, aa, aa, aa, dv (.bool (decide (((b.f_Prev.length : Nat) : Int) > 5000)))], [.live (.box 26 [.d (.val (.int .i64 b.f_Height)), .d (.val (strV b.f_Prev)), .d (dsl tb_ false (k_api_Envelope tb_) b.f_Requests), .d (dsl tb_ false (k_api_Result tb_) b.f_Results)])]⟩) [0] (bm 20 524303) (t1 := [.tv (.agg [.d (.val (.int .i64 b.f_Height)), .d (.val (strV b.f_Prev)), .d (dsl tb_ false (k_api_Envelope tb_) b.f_Requests), .d (dsl tb_ false (k_api_Result tb_) b.f_Results)]), pv 0 0, dv (.bool false), dv (.int .i64 ((k + 1 : Nat) : Int)), aa, aa, aa, aa, aa, aa, aa, aa, aa, aa, aa, aa, aa, aa, aa, dv (.bool (decide (((b.f_Prev.length : Nat) : Int) > 5000)))]) (t2 := [.tv (.agg [.d (.val (.int .i64 b.f_Height)), .d (.val (strV b.f_Prev)), .d (dsl tb_ false (k_api_Envelope tb_) b.f_Requests), .d (dsl tb_ false (k_api_Result tb_) b.f_Results)]), pv 0 0, dv (.bool false), dv (.int .i64 ((k + 1 : Nat) : Int)), aa, aa, aa, aa, aa, aa, aa, aa, aa, aa, aa, aa, aa, aa, aa, dv (.bool (decide (((b.f_Prev.length : Nat) : Int) > 5000)))]) (h1 := [.live (.box 26 [.d (.val (.int .i64 b.f_Height)), .d (.val (strV b.f_Prev)), .d (dsl tb_ false (k_api_Envelope tb_) b.f_Requests), .d (dsl tb_ false (k_api_Result tb_) b.f_Results)])]) (h2 := [.live (.box 26 [.d (.val (.int .i64 b.f_Height)), .d (.val (strV b.f_Prev)), .d (dsl tb_ false (k_api_Envelope tb_) b.f_Requests), .d (dsl tb_ false (k_api_Result tb_) b.f_Results)])]) rfl rfl (by kernel_rfl) (by kernel_rfl) (by kernel_rfl) (by kernel_rfl) (by kernel_rfl) (by kernel_rfl) (by kernel_rfl) (by kernel_rfl) (by kernel_rfl) (by kernel_rfl) (by kernel_rfl) hG)
        · refine T.condF (b := (decide (((k : Nat) : Int) < ((b.f_Requests.length : Nat) : Int)))) rfl (decide_eq_false hq4) ?_
          refine T.exit ?_
          refine xT ?_
          refine xT ?_
          refine xH ?_
          refine nT ?_
          refine T.seq ?_
          refine tR (s1 := ⟨[.tv (.agg [.d (.val (.int .i64 b.f_Height)), .d (.val (strV b.f_Prev)), .d (dsl tb_ false (k_api_Envelope tb_) b.f_Requests), .d (dsl tb_ false (k_api_Result tb_) b.f_Results)]), pv 0 0, dv (.bool true), dv (.int .i64 ((k : Nat) : Int)), aa, aa, aa, aa, aa, aa, aa, aa, aa, aa, aa, aa, aa, aa, aa, dv (.bool (decide (((b.f_Prev.length : Nat) : Int) > 5000))), aa, aa, aa, aa, dv (.bool (decide (((k : Nat) : Int) < ((b.f_Requests.length : Nat) : Int))))], [.live (.box 26 [.d (.val (.int .i64 b.f_Height)), .d (.val (strV b.f_Prev)), .d (dsl tb_ false (k_api_Envelope tb_) b.f_Requests), .d (dsl tb_ false (k_api_Result tb_) b.f_Results)])]⟩) (bm 25 17301519) [true]
            (oC (oS rfl rfl (r_assign (av := dv (.bool true)) (lt_of rfl) ⟨rfl, trivial⟩)) (oZ rfl))
            (by kernel_rfl) (by kernel_rfl) ?_
          refine nT ?_
          refine T.ret ?_
          exact tE (.inl rfl) [.t 2 (.one (.d (.val (.bool true))))] ⟨⟨rfl, rfl⟩, trivial⟩ [] (by have e1 : ((decide (fewB b)) : Bool) = true := (by first | exact decide_eq_false (fun h9 => by have h8 := h9.1.1; omega) | exact decide_eq_false (fun h9 => by have h8 := h9.2.1; omega) | exact decide_eq_false (fun h9 => by have h8 := h9.2.2; omega) | exact decide_eq_false (fun h9 => fewG_no2 (z := z_api_Envelope) (k := k) (by omega) (by assumption) rfl h9.1) | exact decide_eq_true ⟨fewG_yes (z := z_api_Envelope) (k := k) (by assumption) rfl (by omega) hb, by omega, by omega⟩); have hE := congrArg (fun (q1 : Bool) => (dv (.bool q1) : AV)) e1; exact hE) rfl rfl rfl rfl rfl trivial

-- quaestor/quaestorref03.Same
theorem ref03_Same (ta : Bool) (tb : Bool) (a : api_Envelope) (b : api_Envelope) : Holds Try.prog 63 ⟨[.tv (.agg [.d (.val (.int .i64 a.f_Signer)), .d (dsl ta false kU8 a.f_Body)]), .tv (.agg [.d (.val (.int .i64 b.f_Signer)), .d (dsl tb false kU8 b.f_Body)])], [], dv (.bool (decide (a = b))), []⟩ := by
  refine Holds.of Try.func63 rfl (N := 17) Try.ntmps63 rfl fun w0 B0 S0 U0 => ?_
  show T _ (mkBase 17 0 w0 S0 U0 B0) ⟨[.tv (.agg [.d (.val (.int .i64 a.f_Signer)), .d (dsl ta false kU8 a.f_Body)]), .tv (.agg [.d (.val (.int .i64 b.f_Signer)), .d (dsl tb false kU8 b.f_Body)])], []⟩ _ _
  refine T.seq ?_
  refine tR (s1 := ⟨[.tv (.agg [.d (.val (.int .i64 a.f_Signer)), .d (dsl ta false kU8 a.f_Body)]), .tv (.agg [.d (.val (.int .i64 b.f_Signer)), .d (dsl tb false kU8 b.f_Body)]), pv 0 0, pv 1 0, dv (.bool false)], [.live (.box 32 [.d (.val (.int .i64 a.f_Signer)), .d (dsl ta false kU8 a.f_Body)]), .live (.box 32 [.d (.val (.int .i64 b.f_Signer)), .d (dsl tb false kU8 b.f_Body)])]⟩) (bm 5 31) [true, true]
    (oC (oS rfl rfl (r_box (l := 0) (t := .agg [.d (.val (.int .i64 a.f_Signer)), .d (dsl ta false kU8 a.f_Body)]) rfl (lt_of rfl) trivial))
    (oC (oS rfl rfl (r_box (l := 1) (t := .agg [.d (.val (.int .i64 b.f_Signer)), .d (dsl tb false kU8 b.f_Body)]) rfl (lt_of rfl) trivial))
    (oC (oS rfl rfl (r_assign (av := dv (.bool false)) (lt_of rfl) ⟨rfl, trivial⟩)) (oZ rfl))))
    (by kernel_rfl) (by kernel_rfl) ?_
  refine nT ?_
  refine T.seq ?_
  by_cases hq1 : a.f_Signer = b.f_Signer
  · refine tR (s1 := ⟨[.tv (.agg [.d (.val (.int .i64 a.f_Signer)), .d (dsl ta false kU8 a.f_Body)]), .tv (.agg [.d (.val (.int .i64 b.f_Signer)), .d (dsl tb false kU8 b.f_Body)]), pv 0 0, pv 1 0, dv (.bool (decide (a.f_Body = b.f_Body)))], [.live (.box 32 [.d (.val (.int .i64 a.f_Signer)), .d (dsl ta false kU8 a.f_Body)]), .live (.box 32 [.d (.val (.int .i64 b.f_Signer)), .d (dsl tb false kU8 b.f_Body)])]⟩) (bm 5 31) [true, true]
      (oC (oS rfl rfl (r_fieldAddr (l := 0) (off := 0) fld_32_0 (lt_of rfl) trivial))
      (oC (oS rfl rfl (r_loadB (l := 0) (off := 0) (T := 32) (cs := [.d (.val (.int .i64 a.f_Signer)), .d (dsl ta false kU8 a.f_Body)]) (c := .d (.val (.int .i64 a.f_Signer))) wide_3 rfl (lt_of rfl) trivial))
      (oC (oS rfl rfl (r_fieldAddr (l := 1) (off := 0) fld_32_0 (lt_of rfl) trivial))
      (oC (oS rfl rfl (r_loadB (l := 1) (off := 0) (T := 32) (cs := [.d (.val (.int .i64 b.f_Signer)), .d (dsl tb false kU8 b.f_Body)]) (c := .d (.val (.int .i64 b.f_Signer))) wide_3 rfl (lt_of rfl) trivial))
      (oC (oS rfl rfl (r_bin (u1 := .int .i64 a.f_Signer) (u2 := .int .i64 b.f_Signer) (v := .bool (decide (a.f_Signer = b.f_Signer))) b_eql (lt_of rfl) trivial))
      (oC (oS rfl rfl (r_move (av := dv (.bool (decide (a.f_Signer = b.f_Signer)))) (lt_of rfl) trivial))
      (oC (oY (b := (decide (a.f_Signer = b.f_Signer))) rfl rfl rfl rfl (lt_of rfl) (decide_eq_true hq1) (r_fieldAddr (l := 0) (off := 0) fld_32_1 (lt_of rfl) trivial))
      (oC (oY (b := (decide (a.f_Signer = b.f_Signer))) rfl rfl rfl rfl (lt_of rfl) (decide_eq_true hq1) (r_loadB (l := 0) (off := 1) (T := 32) (cs := [.d (.val (.int .i64 a.f_Signer)), .d (dsl ta false kU8 a.f_Body)]) (c := .d (dsl ta false kU8 a.f_Body)) wide_29 rfl (lt_of rfl) trivial))
      (oC (oY (b := (decide (a.f_Signer = b.f_Signer))) rfl rfl rfl rfl (lt_of rfl) (decide_eq_true hq1) (r_fieldAddr (l := 1) (off := 0) fld_32_1 (lt_of rfl) trivial))
      (oC (oY (b := (decide (a.f_Signer = b.f_Signer))) rfl rfl rfl rfl (lt_of rfl) (decide_eq_true hq1) (r_loadB (l := 1) (off := 1) (T := 32) (cs := [.d (.val (.int .i64 b.f_Signer)), .d (dsl tb false kU8 b.f_Body)]) (c := .d (dsl tb false kU8 b.f_Body)) wide_29 rfl (lt_of rfl) trivial))
      (oC (oY (b := (decide (a.f_Signer = b.f_Signer))) rfl rfl rfl rfl (lt_of rfl) (decide_eq_true hq1) (r_call (ref01_Same ta false tb false a.f_Body b.f_Body ) Try.func9 rfl (by decide) [] [] (l := [(.tmp 12, slV ta false kU8 a.f_Body), (.tmp 14, slV tb false kU8 b.f_Body)]) [] rfl 0 0 rfl rfl rfl rfl rfl rfl rfl rfl rfl ⟨.inl ⟨rfl, rfl⟩, ⟨.inl ⟨rfl, rfl⟩, trivial⟩⟩ rfl (fun b hb => by cases hb) (.inl rfl) (lt_of rfl) trivial))
      (oC (oS rfl rfl (r_pickT (b := (decide (a.f_Signer = b.f_Signer))) (av := dv (.bool (decide (a.f_Body = b.f_Body)))) (lt_of rfl) trivial (decide_eq_true hq1)))
      (oC (oS rfl rfl (r_assign (av := dv (.bool (decide (a.f_Body = b.f_Body)))) (lt_of rfl) trivial)) (oZ rfl))))))))))))))
      (by kernel_rfl) (by kernel_rfl) ?_
    refine nT ?_
    refine T.ret ?_
    exact tE (.inl rfl) [.t 4 (.one (.d (.val (.bool (decide (a.f_Body = b.f_Body))))))] ⟨⟨rfl, rfl⟩, trivial⟩ [] (by have e1 : ((decide (a = b)) : Bool) = (decide (a.f_Body = b.f_Body)) := (by simp [api_Envelope_iff, *]); have hE := congrArg (fun (q1 : Bool) => (dv (.bool q1) : AV)) e1; exact hE) rfl rfl rfl rfl rfl trivial
  · refine tR (s1 := ⟨[.tv (.agg [.d (.val (.int .i64 a.f_Signer)), .d (dsl ta false kU8 a.f_Body)]), .tv (.agg [.d (.val (.int .i64 b.f_Signer)), .d (dsl tb false kU8 b.f_Body)]), pv 0 0, pv 1 0, dv (.bool false)], [.live (.box 32 [.d (.val (.int .i64 a.f_Signer)), .d (dsl ta false kU8 a.f_Body)]), .live (.box 32 [.d (.val (.int .i64 b.f_Signer)), .d (dsl tb false kU8 b.f_Body)])]⟩) (bm 5 31) [true, true]
      (oC (oS rfl rfl (r_fieldAddr (l := 0) (off := 0) fld_32_0 (lt_of rfl) trivial))
      (oC (oS rfl rfl (r_loadB (l := 0) (off := 0) (T := 32) (cs := [.d (.val (.int .i64 a.f_Signer)), .d (dsl ta false kU8 a.f_Body)]) (c := .d (.val (.int .i64 a.f_Signer))) wide_3 rfl (lt_of rfl) trivial))
      (oC (oS rfl rfl (r_fieldAddr (l := 1) (off := 0) fld_32_0 (lt_of rfl) trivial))
      (oC (oS rfl rfl (r_loadB (l := 1) (off := 0) (T := 32) (cs := [.d (.val (.int .i64 b.f_Signer)), .d (dsl tb false kU8 b.f_Body)]) (c := .d (.val (.int .i64 b.f_Signer))) wide_3 rfl (lt_of rfl) trivial))
      (oC (oS rfl rfl (r_bin (u1 := .int .i64 a.f_Signer) (u2 := .int .i64 b.f_Signer) (v := .bool (decide (a.f_Signer = b.f_Signer))) b_eql (lt_of rfl) trivial))
      (oC (oS rfl rfl (r_move (av := dv (.bool (decide (a.f_Signer = b.f_Signer)))) (lt_of rfl) trivial))
      (oC (oN (b := (decide (a.f_Signer = b.f_Signer))) rfl rfl rfl rfl (lt_of rfl) (decide_eq_false hq1) rfl (lt_of rfl))
      (oC (oN (b := (decide (a.f_Signer = b.f_Signer))) rfl rfl rfl rfl (lt_of rfl) (decide_eq_false hq1) rfl (lt_of rfl))
      (oC (oN (b := (decide (a.f_Signer = b.f_Signer))) rfl rfl rfl rfl (lt_of rfl) (decide_eq_false hq1) rfl (lt_of rfl))
      (oC (oN (b := (decide (a.f_Signer = b.f_Signer))) rfl rfl rfl rfl (lt_of rfl) (decide_eq_false hq1) rfl (lt_of rfl))
      (oC (oN (b := (decide (a.f_Signer = b.f_Signer))) rfl rfl rfl rfl (lt_of rfl) (decide_eq_false hq1) rfl (lt_of rfl))
      (oC (oS rfl rfl (r_pickF (b := (decide (a.f_Signer = b.f_Signer))) (av := dv (.bool false)) (lt_of rfl) ⟨rfl, trivial⟩ (decide_eq_false hq1)))
      (oC (oS rfl rfl (r_assign (av := dv (.bool false)) (lt_of rfl) trivial)) (oZ rfl))))))))))))))
      (by kernel_rfl) (by kernel_rfl) ?_
    refine nT ?_
    refine T.ret ?_
    exact tE (.inl rfl) [.t 4 (.one (.d (.val (.bool false))))] ⟨⟨rfl, rfl⟩, trivial⟩ [] (by have e1 : ((decide (a = b)) : Bool) = false := (by simp [api_Envelope_iff, *]); have hE := congrArg (fun (q1 : Bool) => (dv (.bool q1) : AV)) e1; exact hE) rfl rfl rfl rfl rfl trivial

-- quaestor/quaestorref03.All
theorem ref03_All (ta : Bool) (na : Bool) (sa : Bool) (tb : Bool) (nb : Bool) (sb : Bool) (a : List api_Envelope) (b : List api_Envelope) (hl : a.length ≤ 9223372036854775807) : Holds Try.prog 42 ⟨[slV ta na (k_api_Envelope sa) a, slV tb nb (k_api_Envelope sb) b], [], dv (.bool (decide (a = b))), []⟩ := by
  refine Holds.of Try.func42 rfl (N := 27) Try.ntmps42 rfl fun w0 B0 S0 U0 => ?_
  show T _ (mkBase 27 0 w0 S0 U0 B0) ⟨[slV ta na (k_api_Envelope sa) a, slV tb nb (k_api_Envelope sb) b], []⟩ _ _
  refine T.seq ?_
  refine tR (s1 := ⟨[slV ta na (k_api_Envelope sa) a, slV tb nb (k_api_Envelope sb) b, aa, aa, dv (.bool false)], []⟩) (bm 5 19) []
    (oC (oS rfl rfl (r_assign (av := dv (.bool false)) (lt_of rfl) ⟨rfl, trivial⟩)) (oZ rfl))
    (by kernel_rfl) (by kernel_rfl) ?_
  refine nT ?_
  refine T.seq ?_
  refine T.seq ?_
  refine tR (s1 := ⟨[slV ta na (k_api_Envelope sa) a, slV tb nb (k_api_Envelope sb) b, aa, aa, dv (.bool false), aa, aa, aa, aa, aa, dv (.bool (decide (((a.length : Nat) : Int) ≠ ((b.length : Nat) : Int))))], []⟩) (bm 11 1043) []
    (oC (oS rfl rfl (r_move (av := slV ta na (k_api_Envelope sa) a) (lt_of rfl) trivial))
    (oC (oS rfl rfl (q_len ta na (k_api_Envelope sa) a Try.underlying23 (lt_of rfl) trivial))
    (oC (oS rfl rfl (r_move (av := slV tb nb (k_api_Envelope sb) b) (lt_of rfl) trivial))
    (oC (oS rfl rfl (q_len tb nb (k_api_Envelope sb) b Try.underlying23 (lt_of rfl) trivial))
    (oC (oS rfl rfl (r_bin (u1 := .int .i64 ((a.length : Nat) : Int)) (u2 := .int .i64 ((b.length : Nat) : Int)) (v := .bool (decide (((a.length : Nat) : Int) ≠ ((b.length : Nat) : Int)))) b_neq (lt_of rfl) trivial)) (oZ rfl))))))
    (by kernel_rfl) (by kernel_rfl) ?_
  refine nT ?_
  by_cases hq1 : ((a.length : Nat) : Int) ≠ ((b.length : Nat) : Int)
  · refine T.condT (b := (decide (((a.length : Nat) : Int) ≠ ((b.length : Nat) : Int)))) rfl (decide_eq_true hq1) ?_
    refine T.seq ?_
    refine tR (s1 := ⟨[slV ta na (k_api_Envelope sa) a, slV tb nb (k_api_Envelope sb) b, aa, aa, dv (.bool false), aa, aa, aa, aa, aa, dv (.bool (decide (((a.length : Nat) : Int) ≠ ((b.length : Nat) : Int))))], []⟩) (bm 11 1043) []
      (oC (oS rfl rfl (r_assign (av := dv (.bool false)) (lt_of rfl) ⟨rfl, trivial⟩)) (oZ rfl))
      (by kernel_rfl) (by kernel_rfl) ?_
    refine nT ?_
    refine T.ret ?_
    refine rT ?_
    exact tE (.inl rfl) [.t 4 (.one (.d (.val (.bool false))))] ⟨⟨rfl, rfl⟩, trivial⟩ [] (by have e1 : ((decide (a = b)) : Bool) = false := (by first | exact decide_eq_true (rows_eq (z := z_api_Envelope) (k := k) hab (by omega) hb) | exact (decide_eq_true (rows_eq (z := z_api_Envelope) (k := k) hab (by omega) hb)).symm | exact decide_eq_false (fun e => by have h9 : a.length ≠ b.length := (by omega); exact h9 (by rw [e])) | exact (decide_eq_false (fun e => by have h9 : a.length ≠ b.length := (by omega); exact h9 (by rw [e]))).symm | exact decide_eq_false (fun e => by have h9 : ¬ a.getD k z_api_Envelope = b.getD k z_api_Envelope := (by assumption); exact h9 (by rw [e])) | exact (decide_eq_false (fun e => by have h9 : ¬ a.getD k z_api_Envelope = b.getD k z_api_Envelope := (by assumption); exact h9 (by rw [e]))).symm); have hE := congrArg (fun (q1 : Bool) => (dv (.bool q1) : AV)) e1; exact hE) rfl rfl rfl rfl rfl trivial
  · refine T.condF (b := (decide (((a.length : Nat) : Int) ≠ ((b.length : Nat) : Int)))) rfl (decide_eq_false hq1) ?_
    refine T.skip ?_
    refine nT ?_
    refine T.seq ?_
    refine T.seq ?_
    refine tR (s1 := ⟨[slV ta na (k_api_Envelope sa) a, slV tb nb (k_api_Envelope sb) b, aa, aa, dv (.bool false), dv (.int .i64 0), aa, aa, aa, aa, dv (.bool (decide (((a.length : Nat) : Int) ≠ ((b.length : Nat) : Int))))], []⟩) (bm 11 1075) []
      (oC (oS rfl rfl (r_assign (av := dv (.int .i64 0)) (lt_of rfl) ⟨rfl, trivial⟩)) (oZ rfl))
      (by kernel_rfl) (by kernel_rfl) ?_
    refine nT ?_
    refine T.block ?_
    refine T.loop (ι := Nat) (fun (k : Nat) => ⟨[slV ta na (k_api_Envelope sa) a, slV tb nb (k_api_Envelope sb) b, aa, aa, dv (.bool false), dv (.int .i64 ((k : Nat) : Int)), aa, aa, aa, aa, dv (.bool (decide (((a.length : Nat) : Int) ≠ ((b.length : Nat) : Int))))], []⟩) (fun (k : Nat) => (k ≤ a.length) ∧ (a.length = b.length) ∧ (∀ j, j < k → a.getD j z_api_Envelope = b.getD j z_api_Envelope)) (fun (k : Nat) => a.length - k) (0) ⟨(Nat.zero_le _), (by omega), (fun j hj => absurd hj (Nat.not_lt_zero _))⟩ (fun _ _ hG => Gs.into2 (s := ⟨[slV ta na (k_api_Envelope sa) a, slV tb nb (k_api_Envelope sb) b, aa, aa, dv (.bool false), dv (.int .i64 0), aa, aa, aa, aa, dv (.bool (decide (((a.length : Nat) : Int) ≠ ((b.length : Nat) : Int))))], []⟩) (s' := ⟨[slV ta na (k_api_Envelope sa) a, slV tb nb (k_api_Envelope sb) b, aa, aa, dv (.bool false), dv (.int .i64 0), aa, aa, aa, aa, dv (.bool (decide (((a.length : Nat) : Int) ≠ ((b.length : Nat) : Int))))], []⟩) [] (bm 11 1075) (t1 := [slV ta na (k_api_Envelope sa) a, slV tb nb (k_api_Envelope sb) b, aa, aa, dv (.bool false), dv (.int .i64 0), aa, aa, aa, aa, dv (.bool (decide (((a.length : Nat) : Int) ≠ ((b.length : Nat) : Int))))]) (t2 := [slV ta na (k_api_Envelope sa) a, slV tb nb (k_api_Envelope sb) b, aa, aa, dv (.bool false), dv (.int .i64 0), aa, aa, aa, aa, dv (.bool (decide (((a.length : Nat) : Int) ≠ ((b.length : Nat) : Int))))]) (h1 := []) (h2 := []) rfl rfl (by kernel_rfl) (by kernel_rfl) (by kernel_rfl) (by kernel_rfl) (by kernel_rfl) (by kernel_rfl) (by kernel_rfl) (by kernel_rfl) (by kernel_rfl) (by kernel_rfl) (by kernel_rfl) hG) ?_
    rintro k ⟨hk, hab, hb⟩
    show T _ _ ⟨[slV ta na (k_api_Envelope sa) a, slV tb nb (k_api_Envelope sb) b, aa, aa, dv (.bool false), dv (.int .i64 ((k : Nat) : Int)), aa, aa, aa, aa, dv (.bool (decide (((a.length : Nat) : Int) ≠ ((b.length : Nat) : Int))))], []⟩ _ _
    replace hk : k ≤ a.length := hk
    replace hab : a.length = b.length := hab
    replace hb : ∀ j, j < k → a.getD j z_api_Envelope = b.getD j z_api_Envelope := hb
    refine T.seq ?_
    refine T.seq ?_
    refine tR (s1 := ⟨[slV ta na (k_api_Envelope sa) a, slV tb nb (k_api_Envelope sb) b, aa, aa, dv (.bool false), dv (.int .i64 ((k : Nat) : Int)), aa, aa, aa, aa, dv (.bool (decide (((a.length : Nat) : Int) ≠ ((b.length : Nat) : Int)))), aa, aa, aa, dv (.bool (decide (((k : Nat) : Int) < ((a.length : Nat) : Int))))], []⟩) (bm 15 17459) []
      (oC (oS rfl rfl (r_move (av := dv (.int .i64 ((k : Nat) : Int))) (lt_of rfl) trivial))
      (oC (oS rfl rfl (r_move (av := slV ta na (k_api_Envelope sa) a) (lt_of rfl) trivial))
      (oC (oS rfl rfl (q_len ta na (k_api_Envelope sa) a Try.underlying23 (lt_of rfl) trivial))
      (oC (oS rfl rfl (r_bin (u1 := .int .i64 ((k : Nat) : Int)) (u2 := .int .i64 ((a.length : Nat) : Int)) (v := .bool (decide (((k : Nat) : Int) < ((a.length : Nat) : Int)))) b_lss (lt_of rfl) trivial)) (oZ rfl)))))
      (by kernel_rfl) (by kernel_rfl) ?_
    refine nT ?_
    by_cases hq2 : ((k : Nat) : Int) < ((a.length : Nat) : Int)
    · refine T.condT (b := (decide (((k : Nat) : Int) < ((a.length : Nat) : Int)))) rfl (decide_eq_true hq2) ?_
      refine T.skip ?_
      refine nT ?_
      refine T.seq ?_
      refine T.block ?_
      refine T.seq ?_
      refine tD (s1 := ⟨[slV ta na (k_api_Envelope sa) a, slV tb nb (k_api_Envelope sb) b, aa, aa, dv (.bool false), dv (.int .i64 ((k : Nat) : Int)), aa, aa, aa, aa, dv (.bool (decide (((a.length : Nat) : Int) ≠ ((b.length : Nat) : Int)))), aa, aa, aa, dv (.bool (decide (((k : Nat) : Int) < ((a.length : Nat) : Int)))), aa, aa, aa, aa, aa, aa, aa, aa, aa, aa, aa, dv (.bool (!(decide ((a.getD k z_api_Envelope) = (b.getD k z_api_Envelope)))))], []⟩) (by kernel_rfl) [[], [], [0, 1], [0, 1, 2], [], [], [4, 5], [4, 5, 6], [0, 1, 2, 3, 4, 5, 6, 7], [0, 1, 2, 3, 4, 5, 6, 7, 8]] (bm 27 67126323) []
        (oC (oS rfl rfl (r_move (av := slV ta na (k_api_Envelope sa) a) (lt_of rfl) trivial))
        (oC (oS rfl rfl (r_move (av := dv (.int .i64 ((k : Nat) : Int))) (lt_of rfl) trivial))
        (oC (oS rfl rfl (q_index ta na (k_api_Envelope sa) a k (k := .i64) (i := ((k : Nat) : Int)) Try.underlying23 iat_32 rfl rfl (by first | assumption | omega | (unfold maxLen; omega) | (simp [maxLen] <;> omega) | decide) (lt_of rfl) trivial))
        (oC (oS rfl rfl (r_loadEs (tag := ta) (n := 2) (m := 2) (el := (k_api_Envelope sa).cell (a.getD k (k_api_Envelope sa).z)) (ds := [.d (.val (.int .i64 (a.getD k z_api_Envelope).f_Signer)), .d (dsl sa false kU8 (a.getD k z_api_Envelope).f_Body)]) wide_32 (by decide) rfl (lt_of rfl) trivial))
        (oC (oS rfl rfl (r_move (av := slV tb nb (k_api_Envelope sb) b) (lt_of rfl) trivial))
        (oC (oS rfl rfl (r_move (av := dv (.int .i64 ((k : Nat) : Int))) (lt_of rfl) trivial))
        (oC (oS rfl rfl (q_index tb nb (k_api_Envelope sb) b k (k := .i64) (i := ((k : Nat) : Int)) Try.underlying23 iat_32 rfl rfl (by first | assumption | omega | (unfold maxLen; omega) | (simp [maxLen] <;> omega) | decide) (lt_of rfl) trivial))
        (oC (oS rfl rfl (r_loadEs (tag := tb) (n := 2) (m := 2) (el := (k_api_Envelope sb).cell (b.getD k (k_api_Envelope sb).z)) (ds := [.d (.val (.int .i64 (b.getD k z_api_Envelope).f_Signer)), .d (dsl sb false kU8 (b.getD k z_api_Envelope).f_Body)]) wide_32 (by decide) rfl (lt_of rfl) trivial))
        (oC (oS rfl rfl (r_call (ref03_Same sa sb (a.getD k z_api_Envelope) (b.getD k z_api_Envelope) ) Try.func63 rfl (by decide) [] [] (l := [(.tmp 20, .tv (.agg [.d (.val (.int .i64 (a.getD k z_api_Envelope).f_Signer)), .d (dsl sa false kU8 (a.getD k z_api_Envelope).f_Body)])), (.tmp 24, .tv (.agg [.d (.val (.int .i64 (b.getD k z_api_Envelope).f_Signer)), .d (dsl sb false kU8 (b.getD k z_api_Envelope).f_Body)]))]) [] rfl 0 0 rfl rfl rfl rfl rfl rfl rfl rfl rfl ⟨⟨.inl ⟨rfl, rfl⟩, ⟨.inl ⟨rfl, rfl⟩, trivial⟩⟩, ⟨⟨.inl ⟨rfl, rfl⟩, ⟨.inl ⟨rfl, rfl⟩, trivial⟩⟩, trivial⟩⟩ rfl (fun b hb => by cases hb) (.inl rfl) (lt_of rfl) trivial))
        (oC (oS rfl rfl (r_un (u := .bool (decide ((a.getD k z_api_Envelope) = (b.getD k z_api_Envelope)))) (v := .bool (!(decide ((a.getD k z_api_Envelope) = (b.getD k z_api_Envelope))))) u_not (lt_of rfl) trivial)) (oZ rfl)))))))))))
        (by kernel_rfl) (by kernel_rfl) (by kernel_rfl) (by kernel_rfl) (by kernel_rfl) ?_
      refine nT ?_
      by_cases hq3 : (a.getD k z_api_Envelope) = (b.getD k z_api_Envelope)
      · refine T.condF (b := (!(decide ((a.getD k z_api_Envelope) = (b.getD k z_api_Envelope))))) rfl (congrArg Bool.not (decide_eq_true hq3)) ?_
        refine T.skip ?_
        refine nB ?_
        refine nT ?_
        refine tR (s1 := ⟨[slV ta na (k_api_Envelope sa) a, slV tb nb (k_api_Envelope sb) b, aa, aa, dv (.bool false), dv (.int .i64 ((k + 1 : Nat) : Int)), aa, aa, aa, aa, dv (.bool (decide (((a.length : Nat) : Int) ≠ ((b.length : Nat) : Int)))), aa, aa, aa, dv (.bool (decide (((k : Nat) : Int) < ((a.length : Nat) : Int)))), aa, aa, aa, aa, aa, aa, aa, aa, aa, aa, aa, dv (.bool (!(decide ((a.getD k z_api_Envelope) = (b.getD k z_api_Envelope)))))], []⟩) (bm 27 67126323) []
          (oC (oS rfl rfl (r_move (av := dv (.int .i64 ((k : Nat) : Int))) (lt_of rfl) trivial))
          (oC (oS rfl rfl (r_bin (u1 := .int .i64 ((k : Nat) : Int)) (u2 := .int .i64 1) (v := .int .i64 ((k + 1 : Nat) : Int)) (b_add (by rw [IntKind.wrap_i64]; omega)) (lt_of rfl) ⟨rfl, trivial⟩))
          (oC (oS rfl rfl (r_assign (av := dv (.int .i64 ((k + 1 : Nat) : Int))) (lt_of rfl) trivial)) (oZ rfl))))
          (by kernel_rfl) (by kernel_rfl) ?_
        refine nL (k + 1) ⟨(show (k + 1) ≤ a.length from (by omega)), (show a.length = b.length from hab), (show ∀ j, j < (k + 1) → a.getD j z_api_Envelope = b.getD j z_api_Envelope from (all_succ hb (by assumption)))⟩ (show (a.length - (k + 1) : Nat) < a.length - k from (by omega)) (fun _ _ hG => Gs.into2 (s := ⟨[slV ta na (k_api_Envelope sa) a, slV tb nb (k_api_Envelope sb) b, aa, aa, dv (.bool false), dv (.int .i64 ((k + 1 : Nat) : Int)), aa, aa, aa, aa, dv (.bool (decide (((a.length : Nat) : Int) ≠ ((b.length : Nat) : Int)))), aa, aa, aa, dv (.bool (decide (((k : Nat) : Int) < ((a.length : Nat) : Int)))), aa, aa, aa, aa, aa, aa, aa, aa, aa, aa, aa, dv (.bool (!(decide ((a.getD k z_api_Envelope) = (b.getD k z_api_Envelope)))))], []⟩) (s' := ⟨[slV ta na (k_api_Envelope sa) a, slV tb nb (k_api_Envelope sb) b, aa, aa, dv (.bool false), dv (.int .i64 ((k + 1 : Nat) : Int)), aa, aa, aa, aa, dv (.bool (decide (((a.length : Nat) : Int) ≠ ((b.length : Nat) : Int))))], []⟩) [] (bm 11 1075) (t1 := [slV ta na (k_api_Envelope sa) a, slV tb nb (k_api_Envelope sb) b, aa, aa, dv (.bool false), dv (.int .i64 ((k + 1 : Nat) : Int)), aa, aa, aa, aa, dv (.bool (decide (((a.length : Nat) : Int) ≠ ((b.length : Nat) : Int))))]) (t2 := [slV ta na (k_api_Envelope sa) a, slV tb nb (k_api_Envelope sb) b, aa, aa, dv (.bool false), dv (.int .i64 ((k + 1 : Nat) : Int)), aa, aa, aa, aa, dv (.bool (decide (((a.length : Nat) : Int) ≠ ((b.length : Nat) : Int))))]) (h1 := []) (h2 := []) rfl rfl (by kernel_rfl) (by kernel_rfl) (by kernel_rfl) (by kernel_rfl) (by kernel_rfl) (by kernel_rfl) (by kernel_rfl) (by kernel_rfl) (by kernel_rfl) (by kernel_rfl) (by kernel_rfl) hG)
      · refine T.condT (b := (!(decide ((a.getD k z_api_Envelope) = (b.getD k z_api_Envelope))))) rfl (congrArg Bool.not (decide_eq_false hq3)) ?_
        refine T.seq ?_
        refine tR (s1 := ⟨[slV ta na (k_api_Envelope sa) a, slV tb nb (k_api_Envelope sb) b, aa, aa, dv (.bool false), dv (.int .i64 ((k : Nat) : Int)), aa, aa, aa, aa, dv (.bool (decide (((a.length : Nat) : Int) ≠ ((b.length : Nat) : Int)))), aa, aa, aa, dv (.bool (decide (((k : Nat) : Int) < ((a.length : Nat) : Int)))), aa, aa, aa, aa, aa, aa, aa, aa, aa, aa, aa, dv (.bool (!(decide ((a.getD k z_api_Envelope) = (b.getD k z_api_Envelope)))))], []⟩) (bm 27 67126323) []
          (oC (oS rfl rfl (r_assign (av := dv (.bool false)) (lt_of rfl) ⟨rfl, trivial⟩)) (oZ rfl))
          (by kernel_rfl) (by kernel_rfl) ?_
        refine nT ?_
        refine T.ret ?_
        refine rB ?_
        refine rT ?_
        refine rT ?_
        refine rB ?_
        refine rT ?_
        exact tE (.inl rfl) [.t 4 (.one (.d (.val (.bool false))))] ⟨⟨rfl, rfl⟩, trivial⟩ [] (by have e1 : ((decide (a = b)) : Bool) = false := (by first | exact decide_eq_true (rows_eq (z := z_api_Envelope) (k := k) hab (by omega) hb) | exact (decide_eq_true (rows_eq (z := z_api_Envelope) (k := k) hab (by omega) hb)).symm | exact decide_eq_false (fun e => by have h9 : a.length ≠ b.length := (by omega); exact h9 (by rw [e])) | exact (decide_eq_false (fun e => by have h9 : a.length ≠ b.length := (by omega); exact h9 (by rw [e]))).symm | exact decide_eq_false (fun e => by have h9 : ¬ a.getD k z_api_Envelope = b.getD k z_api_Envelope := (by assumption); exact h9 (by rw [e])) | exact (decide_eq_false (fun e => by have h9 : ¬ a.getD k z_api_Envelope = b.getD k z_api_Envelope := (by assumption); exact h9 (by rw [e]))).symm); have hE := congrArg (fun (q1 : Bool) => (dv (.bool q1) : AV)) e1; exact hE) rfl rfl rfl rfl rfl trivial
    · refine T.condF (b := (decide (((k : Nat) : Int) < ((a.length : Nat) : Int)))) rfl (decide_eq_false hq2) ?_
      refine T.exit ?_
      refine xT ?_
      refine xT ?_
      refine xH ?_
      refine nT ?_
      refine T.seq ?_
      refine tR (s1 := ⟨[slV ta na (k_api_Envelope sa) a, slV tb nb (k_api_Envelope sb) b, aa, aa, dv (.bool true), dv (.int .i64 ((k : Nat) : Int)), aa, aa, aa, aa, dv (.bool (decide (((a.length : Nat) : Int) ≠ ((b.length : Nat) : Int)))), aa, aa, aa, dv (.bool (decide (((k : Nat) : Int) < ((a.length : Nat) : Int))))], []⟩) (bm 15 17459) []
        (oC (oS rfl rfl (r_assign (av := dv (.bool true)) (lt_of rfl) ⟨rfl, trivial⟩)) (oZ rfl))
        (by kernel_rfl) (by kernel_rfl) ?_
      refine nT ?_
      refine T.ret ?_
      exact tE (.inl rfl) [.t 4 (.one (.d (.val (.bool true))))] ⟨⟨rfl, rfl⟩, trivial⟩ [] (by have e1 : ((decide (a = b)) : Bool) = true := (by first | exact decide_eq_true (rows_eq (z := z_api_Envelope) (k := k) hab (by omega) hb) | exact (decide_eq_true (rows_eq (z := z_api_Envelope) (k := k) hab (by omega) hb)).symm | exact decide_eq_false (fun e => by have h9 : a.length ≠ b.length := (by omega); exact h9 (by rw [e])) | exact (decide_eq_false (fun e => by have h9 : a.length ≠ b.length := (by omega); exact h9 (by rw [e]))).symm | exact decide_eq_false (fun e => by have h9 : ¬ a.getD k z_api_Envelope = b.getD k z_api_Envelope := (by assumption); exact h9 (by rw [e])) | exact (decide_eq_false (fun e => by have h9 : ¬ a.getD k z_api_Envelope = b.getD k z_api_Envelope := (by assumption); exact h9 (by rw [e]))).symm); have hE := congrArg (fun (q1 : Bool) => (dv (.bool q1) : AV)) e1; exact hE) rfl rfl rfl rfl rfl trivial
end Go.Proofs.Ytacikihlgpnjhaa.Q
