import Derived.Test.YtdclfhahcfefeaaC11n4
namespace Go.Proofs.Ytdclfhahcfefeaa.Q
open Go Go.RowKit
set_option linter.unusedVariables false
set_option linter.unusedSimpArgs false
set_option maxRecDepth 100000
set_option maxHeartbeats 4000000
theorem iat_84 : Try.prog.info? 84 = some Try.t84 := by kernel_rfl
theorem zero_84 : Zero Try.prog 84 [.int .i64 0, strV [], .int .i64 0, strV []] := ⟨_, _, iat_84, rfl, rfl⟩
theorem iat_33 : Try.prog.info? 33 = some Try.t33 := by kernel_rfl
theorem wide_33 : Wide Try.prog 33 (some 4) := ⟨_, _, Try.underlying33, .inl ⟨_, rfl⟩, iat_33, rfl⟩
theorem iat_29 : Try.prog.info? 29 = some Try.t29 := by kernel_rfl
theorem fld_33_1 : FieldAt Try.prog 33 1 1 := ⟨_, _, _, Try.underlying33, rfl, iat_29, by decide, rfl⟩
theorem wide_29 : Wide Try.prog 29 none := ⟨_, Try.underlying29, (fun _ h => by cases h), (fun _ _ h => by cases h)⟩
theorem places_84 : Places Try.prog 84 [(0, 1), (1, 1), (2, 1), (3, 1)] := ⟨_, Try.underlying84, ⟨⟨rfl, _, iat_3, rfl⟩, ⟨⟨rfl, _, iat_29, rfl⟩, ⟨⟨rfl, _, iat_3, rfl⟩, ⟨⟨rfl, _, iat_29, rfl⟩, trivial⟩⟩⟩⟩⟩
theorem cells_84 : Cells Try.prog 84 4 := ⟨_, iat_84, rfl⟩
theorem wide_84 : Wide Try.prog 84 (some 4) := ⟨_, _, Try.underlying84, .inl ⟨_, rfl⟩, iat_84, rfl⟩
-- quaestor/block.Header
theorem block_Header (tb_ : Bool) (b : api_Block) (hf : fewB b) : Holds Try.prog 43 ⟨[.tv (.agg [.d (.val (.int .i64 b.f_Height)), .d (.val (strV b.f_Prev)), .d (dsl tb_ false (k_api_Envelope tb_) b.f_Requests), .d (dsl tb_ false (k_api_Result tb_) b.f_Results)])], [], .tv (.agg [.d (.val (.int .i64 (headB b).f_Height)), .d (.val (strV (headB b).f_Prev)), .d (.val (.int .i64 (headB b).f_Count)), .d (.val (strV (headB b).f_Root))]), []⟩ := by
  refine Holds.of Try.func43 rfl (N := 15) Try.ntmps43 rfl fun w0 B0 S0 U0 => ?_
  show T _ (mkBase 15 0 w0 S0 U0 B0) ⟨[.tv (.agg [.d (.val (.int .i64 b.f_Height)), .d (.val (strV b.f_Prev)), .d (dsl tb_ false (k_api_Envelope tb_) b.f_Requests), .d (dsl tb_ false (k_api_Result tb_) b.f_Results)])], []⟩ _ _
  have hf1 := hf.1.1
  have hf2 := hf.2.1
  have hf3 := hf.2.2
  have hll := leaves_len b
  have hfl := few_leaves hf
  have hrl := few_root hfl
  refine T.seq ?_
  refine xR [] (by kernel_rfl) (by kernel_rfl) ?_
  refine nT ?_
  refine T.seq ?_
  refine xR [hR 1 rfl rfl (r_call (block_leaves tb_ b (by first | assumption | exact few_wide (by assumption) | decide)) Try.func69 rfl (by decide) [2] [] (l := [(.tmp 4, .tv (.agg [.d (.val (.int .i64 b.f_Height)), .d (.val (strV b.f_Prev)), .d (dsl tb_ false (k_api_Envelope tb_) b.f_Requests), .d (dsl tb_ false (k_api_Result tb_) b.f_Results)]))]) [] rfl 0 1 rfl rfl rfl rfl rfl rfl rfl rfl rfl ⟨⟨.inl ⟨rfl, rfl⟩, ⟨.inl ⟨rfl, rfl⟩, ⟨.inl ⟨rfl, rfl⟩, ⟨.inl ⟨rfl, rfl⟩, trivial⟩⟩⟩⟩, trivial⟩ rfl (fun b hb => by cases hb) (.inl rfl) (lt_of rfl) trivial)] (by kernel_rfl) (by kernel_rfl) ?_
  refine nT ?_
  refine T.seq ?_
  refine xD [[], [0], [], [2], [], [4], [], [6], [0, 1, 2, 3, 4, 5, 6, 7], [0, 1, 2, 3, 4, 5, 6, 7, 8]] [hR 7 rfl rfl (r_call (merkle_Root true false false (leavesB b) (by first | assumption | exact fewG_mono (by assumption) (by decide) | exact fewG_take (by assumption) _ | exact fewG_drop (by assumption) _ | exact fewG_set (by assumption) (by assumption) | decide)) Try.func70 rfl (by decide) [] [2] (l := [(.tmp 12, ownV 2 (kSl false kU8) 0 (leavesB b).length)]) [(2, .live (arrK 58 (kSl false kU8) (leavesB b)))] rfl 0 0 rfl rfl rfl rfl rfl rfl rfl rfl rfl ⟨.inr (.inl ⟨rfl, (fun h => by cases h), rfl, rfl, by simp, 58, (leavesB b).length, elOf (kSl false kU8) (leavesB b), List.Mem.head _, by omega, fun i j => by rw [Nat.zero_add]⟩), trivial⟩ rfl (by intro b hb; simp only [List.mem_cons, List.not_mem_nil, or_false] at hb; rcases hb with rfl; exact ⟨_, List.Mem.head _⟩) (.inr ⟨trivial, trivial⟩) (lt_of rfl) trivial)] (by kernel_rfl) (by kernel_rfl) (by kernel_rfl) (by kernel_rfl) (by kernel_rfl) (by kernel_rfl) ?_
  refine nT ?_
  refine T.ret ?_
  exact tE (.inl rfl) [.c 2 1 84 0 84 [.d (.val (.int .i64 b.f_Height)), .d (.val (strV b.f_Prev)), .d (.val (.int .i64 (((leavesB b).length : Nat) : Int))), .d (.val (strV (rootB (leavesB b))))] (.agg [.d (.val (.int .i64 b.f_Height)), .d (.val (strV b.f_Prev)), .d (.val (.int .i64 (((leavesB b).length : Nat) : Int))), .d (.val (strV (rootB (leavesB b))))])] ⟨⟨rfl, rfl, by kernel_rfl, by kernel_rfl, .inl ⟨4, wide_84, rfl, Nat.le_of_ble_eq_true rfl⟩⟩, trivial⟩ [] (by have e1 : ((headB b).f_Height : Int) = b.f_Height := (by first | rfl | (simp; done)); have e2 : ((headB b).f_Prev : List UInt8) = b.f_Prev := (by first | rfl | (simp; done)); have e3 : ((headB b).f_Count : Int) = (((leavesB b).length : Nat) : Int) := (by first | rfl | (simp; done)); have e4 : ((headB b).f_Root : List UInt8) = (rootB (leavesB b)) := (by first | rfl | (simp; done)); have hE := congr (congr (congr (congrArg (fun (q1 : Int) (q2 : List UInt8) (q3 : Int) (q4 : List UInt8) => (.tv (.agg [.d (.val (.int .i64 q1)), .d (.val (strV q2)), .d (.val (.int .i64 q3)), .d (.val (strV q4))]) : AV)) e1) e2) e3) e4; exact hE) rfl rfl rfl rfl rfl trivial
end Go.Proofs.Ytdclfhahcfefeaa.Q
namespace Go.Proofs.Ytdclfhahcfefeaa.Q
open Go Go.RowKit
set_option linter.unusedVariables false
set_option linter.unusedSimpArgs false
set_option maxRecDepth 100000
set_option maxHeartbeats 4000000
-- quaestor/quaestorref10.Header
theorem ref10_Header (tb_ : Bool) (b : api_Block) (hf : fewB b) : Holds Try.prog 82 ⟨[.tv (.agg [.d (.val (.int .i64 b.f_Height)), .d (.val (strV b.f_Prev)), .d (dsl tb_ false (k_api_Envelope tb_) b.f_Requests), .d (dsl tb_ false (k_api_Result tb_) b.f_Results)])], [], .tv (.agg [.d (.val (.int .i64 (headB b).f_Height)), .d (.val (strV (headB b).f_Prev)), .d (.val (.int .i64 (headB b).f_Count)), .d (.val (strV (headB b).f_Root))]), []⟩ := by
  refine Holds.of Try.func82 rfl (N := 15) Try.ntmps82 rfl fun w0 B0 S0 U0 => ?_
  show T _ (mkBase 15 0 w0 S0 U0 B0) ⟨[.tv (.agg [.d (.val (.int .i64 b.f_Height)), .d (.val (strV b.f_Prev)), .d (dsl tb_ false (k_api_Envelope tb_) b.f_Requests), .d (dsl tb_ false (k_api_Result tb_) b.f_Results)])], []⟩ _ _
  have hf1 := hf.1.1
  have hf2 := hf.2.1
  have hf3 := hf.2.2
  have hll := leaves_len b
  have hfl := few_leaves hf
  have hrl := few_root hfl
  refine T.seq ?_
  refine xR [] (by kernel_rfl) (by kernel_rfl) ?_
  refine nT ?_
  refine T.seq ?_
  refine xR [hR 1 rfl rfl (r_call (ref10_leaves tb_ b (by first | assumption | exact few_wide (by assumption) | decide)) Try.func89 rfl (by decide) [2] [] (l := [(.tmp 4, .tv (.agg [.d (.val (.int .i64 b.f_Height)), .d (.val (strV b.f_Prev)), .d (dsl tb_ false (k_api_Envelope tb_) b.f_Requests), .d (dsl tb_ false (k_api_Result tb_) b.f_Results)]))]) [] rfl 0 1 rfl rfl rfl rfl rfl rfl rfl rfl rfl ⟨⟨.inl ⟨rfl, rfl⟩, ⟨.inl ⟨rfl, rfl⟩, ⟨.inl ⟨rfl, rfl⟩, ⟨.inl ⟨rfl, rfl⟩, trivial⟩⟩⟩⟩, trivial⟩ rfl (fun b hb => by cases hb) (.inl rfl) (lt_of rfl) trivial)] (by kernel_rfl) (by kernel_rfl) ?_
  refine nT ?_
  refine T.seq ?_
  refine xD [[], [0], [], [2], [], [4], [], [6], [0, 1, 2, 3, 4, 5, 6, 7], [0, 1, 2, 3, 4, 5, 6, 7, 8]] [hR 7 rfl rfl (r_call (ref09_Root true false false (leavesB b) (by first | assumption | exact fewG_mono (by assumption) (by decide) | exact fewG_take (by assumption) _ | exact fewG_drop (by assumption) _ | exact fewG_set (by assumption) (by assumption) | decide)) Try.func90 rfl (by decide) [] [2] (l := [(.tmp 12, ownV 2 (kSl false kU8) 0 (leavesB b).length)]) [(2, .live (arrK 58 (kSl false kU8) (leavesB b)))] rfl 0 0 rfl rfl rfl rfl rfl rfl rfl rfl rfl ⟨.inr (.inl ⟨rfl, (fun h => by cases h), rfl, rfl, by simp, 58, (leavesB b).length, elOf (kSl false kU8) (leavesB b), List.Mem.head _, by omega, fun i j => by rw [Nat.zero_add]⟩), trivial⟩ rfl (by intro b hb; simp only [List.mem_cons, List.not_mem_nil, or_false] at hb; rcases hb with rfl; exact ⟨_, List.Mem.head _⟩) (.inr ⟨trivial, trivial⟩) (lt_of rfl) trivial)] (by kernel_rfl) (by kernel_rfl) (by kernel_rfl) (by kernel_rfl) (by kernel_rfl) (by kernel_rfl) ?_
  refine nT ?_
  refine T.ret ?_
  exact tE (.inl rfl) [.c 2 1 84 0 84 [.d (.val (.int .i64 b.f_Height)), .d (.val (strV b.f_Prev)), .d (.val (.int .i64 (((leavesB b).length : Nat) : Int))), .d (.val (strV (rootB (leavesB b))))] (.agg [.d (.val (.int .i64 b.f_Height)), .d (.val (strV b.f_Prev)), .d (.val (.int .i64 (((leavesB b).length : Nat) : Int))), .d (.val (strV (rootB (leavesB b))))])] ⟨⟨rfl, rfl, by kernel_rfl, by kernel_rfl, .inl ⟨4, wide_84, rfl, Nat.le_of_ble_eq_true rfl⟩⟩, trivial⟩ [] (by have e1 : ((headB b).f_Height : Int) = b.f_Height := (by first | rfl | (simp; done)); have e2 : ((headB b).f_Prev : List UInt8) = b.f_Prev := (by first | rfl | (simp; done)); have e3 : ((headB b).f_Count : Int) = (((leavesB b).length : Nat) : Int) := (by first | rfl | (simp; done)); have e4 : ((headB b).f_Root : List UInt8) = (rootB (leavesB b)) := (by first | rfl | (simp; done)); have hE := congr (congr (congr (congrArg (fun (q1 : Int) (q2 : List UInt8) (q3 : Int) (q4 : List UInt8) => (.tv (.agg [.d (.val (.int .i64 q1)), .d (.val (strV q2)), .d (.val (.int .i64 q3)), .d (.val (strV q4))]) : AV)) e1) e2) e3) e4; exact hE) rfl rfl rfl rfl rfl trivial
end Go.Proofs.Ytdclfhahcfefeaa.Q
namespace Go.Proofs.Ytdclfhahcfefeaa.Q
open Go Go.RowKit
set_option linter.unusedVariables false
set_option linter.unusedSimpArgs false
set_option maxRecDepth 100000
set_option maxHeartbeats 4000000
theorem fld_84_0 : FieldAt Try.prog 84 0 0 := ⟨_, _, _, Try.underlying84, rfl, iat_3, by decide, rfl⟩
theorem fld_84_1 : FieldAt Try.prog 84 1 1 := ⟨_, _, _, Try.underlying84, rfl, iat_29, by decide, rfl⟩
theorem fld_84_2 : FieldAt Try.prog 84 2 2 := ⟨_, _, _, Try.underlying84, rfl, iat_3, by decide, rfl⟩
theorem fld_84_3 : FieldAt Try.prog 84 3 3 := ⟨_, _, _, Try.underlying84, rfl, iat_29, by decide, rfl⟩
-- quaestor/block.Digest
theorem block_Digest (h : api_Header) (hp : h.f_Prev.length ≤ 10000000) (hr : h.f_Root.length ≤ 10000000) : Holds Try.prog 42 ⟨[.tv (.agg [.d (.val (.int .i64 h.f_Height)), .d (.val (strV h.f_Prev)), .d (.val (.int .i64 h.f_Count)), .d (.val (strV h.f_Root))])], [], dv (strV (digB h)), []⟩ := by
  refine Holds.of Try.func42 rfl (N := 19) Try.ntmps42 rfl fun w0 B0 S0 U0 => ?_
  show T _ (mkBase 19 0 w0 S0 U0 B0) ⟨[.tv (.agg [.d (.val (.int .i64 h.f_Height)), .d (.val (strV h.f_Prev)), .d (.val (.int .i64 h.f_Count)), .d (.val (strV h.f_Root))])], []⟩ _ _
  have hz1 := sz4 (([] : List UInt8) ++ intsB [h.f_Height]) h.f_Prev (([] : List UInt8) ++ intsB [h.f_Count]) h.f_Root
  have hz2 := sz4 (([] : List UInt8) ++ intB h.f_Height) h.f_Prev (([] : List UInt8) ++ intB h.f_Count) h.f_Root
  have hi1n : (([] : List UInt8) ++ intB h.f_Height).length = 8 := int_len _
  have hi2n : (([] : List UInt8) ++ intB h.f_Count).length = 8 := int_len _
  have hi1 := int_len h.f_Height
  have hi2 := int_len h.f_Count
  have hi3 : (intsB [h.f_Height]).length = 8 := ints_len [h.f_Height]
  have hi3n : (([] : List UInt8) ++ intsB [h.f_Height]).length = 8 := ints_len [h.f_Height]
  have hi4 : (intsB [h.f_Count]).length = 8 := ints_len [h.f_Count]
  have hi4n : (([] : List UInt8) ++ intsB [h.f_Count]).length = 8 := ints_len [h.f_Count]
  refine T.seq ?_
  refine xR [] (by kernel_rfl) (by kernel_rfl) ?_
  refine nT ?_
  refine T.seq ?_
  refine xD [[], [0], [0, 1], [0, 1, 2], [], [4], [4, 5], [], [7], [7, 8], [0, 1, 2, 3, 7, 8, 9], [], [11], [11, 12], [0, 1, 2, 3, 4, 5, 6, 7, 8, 9, 10, 11, 12, 13], [0, 1, 2, 3, 4, 5, 6, 7, 8, 9, 10, 11, 12, 13, 14], [0, 1, 2, 3, 4, 5, 6, 7, 8, 9, 10, 11, 12, 13, 14, 15]] [hR 2 rfl rfl (q_buildSlice 1 3 (kInt .i64) (kInt_ok .i64) [h.f_Height] [⟨0, .tmp 4, .one (.d (.val (.int .i64 h.f_Height))), 0⟩] (cs := [.d (.val (.int .i64 h.f_Height))]) Try.underlying122 iat_3 rfl zero_3 rfl rfl rfl (Nat.le_of_ble_eq_true rfl) (part_cons rfl rfl (Nat.le_of_ble_eq_true rfl) part_ok) rfl ⟨(.inl rfl), trivial⟩ (lt_of rfl) trivial),
    hR 3 rfl rfl (r_call (block_ints false false ([] : List UInt8) true false [h.f_Height] (by first | assumption | omega | (unfold maxLen; omega) | (simp [maxLen, -List.getD_eq_getElem?_getD] <;> omega) | decide) (by first | assumption | omega | (unfold maxLen; omega) | (simp [maxLen, -List.getD_eq_getElem?_getD] <;> omega) | decide)) Try.func68 rfl (by decide) [2] [1] (l := [(.const (.slice none 0 0), dv (.slice none 0 0)), (.tmp 5, ownV 1 (kInt .i64) 0 [h.f_Height].length)]) [(1, .live (arrK 3 (kInt .i64) [h.f_Height]))] rfl 0 1 rfl rfl rfl rfl rfl rfl rfl rfl rfl ⟨.inr (.inr ⟨rfl, rfl, rfl⟩), ⟨.inr (.inl ⟨rfl, (fun h => by cases h), rfl, rfl, by simp, 3, [h.f_Height].length, elOf (kInt .i64) [h.f_Height], List.Mem.head _, by omega, fun i j => by rw [Nat.zero_add]⟩), trivial⟩⟩ rfl (by intro b hb; simp only [List.mem_cons, List.not_mem_nil, or_false] at hb; rcases hb with rfl; exact ⟨_, List.Mem.head _⟩) (.inr ⟨trivial, (And.intro (arr_nt kU8_nt) trivial)⟩) (lt_of rfl) ⟨rfl, trivial⟩),
    hR 6 rfl rfl (r_bytesOf (l := h.f_Prev) Try.underlying29 Try.underlying58 Try.underlying5 (lt_of rfl) trivial),
    hR 9 rfl rfl (q_buildSlice 3 3 (kInt .i64) (kInt_ok .i64) [h.f_Count] [⟨0, .tmp 11, .one (.d (.val (.int .i64 h.f_Count))), 0⟩] (cs := [.d (.val (.int .i64 h.f_Count))]) Try.underlying122 iat_3 rfl zero_3 rfl rfl rfl (Nat.le_of_ble_eq_true rfl) (part_cons rfl rfl (Nat.le_of_ble_eq_true rfl) part_ok) rfl ⟨(.inl rfl), trivial⟩ (lt_of rfl) trivial),
    hR 10 rfl rfl (r_call (block_ints false false ([] : List UInt8) true false [h.f_Count] (by first | assumption | omega | (unfold maxLen; omega) | (simp [maxLen, -List.getD_eq_getElem?_getD] <;> omega) | decide) (by first | assumption | omega | (unfold maxLen; omega) | (simp [maxLen, -List.getD_eq_getElem?_getD] <;> omega) | decide)) Try.func68 rfl (by decide) [4] [3] (l := [(.const (.slice none 0 0), dv (.slice none 0 0)), (.tmp 12, ownV 3 (kInt .i64) 0 [h.f_Count].length)]) [(3, .live (arrK 3 (kInt .i64) [h.f_Count]))] rfl 0 1 rfl rfl rfl rfl rfl rfl rfl rfl rfl ⟨.inr (.inr ⟨rfl, rfl, rfl⟩), ⟨.inr (.inl ⟨rfl, (fun h => by cases h), rfl, rfl, by simp, 3, [h.f_Count].length, elOf (kInt .i64) [h.f_Count], List.Mem.head _, by omega, fun i j => by rw [Nat.zero_add]⟩), trivial⟩⟩ rfl (by intro b hb; simp only [List.mem_cons, List.not_mem_nil, or_false] at hb; rcases hb with rfl; exact ⟨_, List.Mem.head _⟩) (.inr ⟨trivial, (And.intro (arr_nt kU8_nt) trivial)⟩) (lt_of rfl) ⟨rfl, trivial⟩),
    hR 13 rfl rfl (r_bytesOf (l := h.f_Root) Try.underlying29 Try.underlying58 Try.underlying5 (lt_of rfl) trivial),
    hR 14 rfl rfl (ORule.frz 0 6 2 5 kU8 (([] : List UInt8) ++ intsB [h.f_Height]) (av := ownV 2 kU8 0 (([] : List UInt8) ++ intsB [h.f_Height]).length) (ORule.frz 2 13 4 5 kU8 (([] : List UInt8) ++ intsB [h.f_Count]) (av := ownV 4 kU8 0 (([] : List UInt8) ++ intsB [h.f_Count]).length) (q_buildSlice 5 58 (kSl false kU8) (kSl_ok false kU8) [([] : List UInt8) ++ intsB [h.f_Height], h.f_Prev, ([] : List UInt8) ++ intsB [h.f_Count], h.f_Root] [⟨0, .tmp 6, .one (.d (dsl false false kU8 (([] : List UInt8) ++ intsB [h.f_Height]))), 0⟩, ⟨1, .tmp 9, .one (.d (dsl false true kU8 h.f_Prev)), 1⟩, ⟨2, .tmp 13, .one (.d (dsl false false kU8 (([] : List UInt8) ++ intsB [h.f_Count]))), 2⟩, ⟨3, .tmp 16, .one (.d (dsl false true kU8 h.f_Root)), 3⟩] (cs := [.d (dsl false false kU8 (([] : List UInt8) ++ intsB [h.f_Height])), .d (dsl false true kU8 h.f_Prev), .d (dsl false false kU8 (([] : List UInt8) ++ intsB [h.f_Count])), .d (dsl false true kU8 h.f_Root)]) Try.underlying101 iat_58 rfl zero_58 rfl rfl rfl (Nat.le_of_ble_eq_true rfl) (part_cons rfl rfl (Nat.le_of_ble_eq_true rfl) (part_cons rfl rfl (Nat.le_of_ble_eq_true rfl) (part_cons rfl rfl (Nat.le_of_ble_eq_true rfl) (part_cons rfl rfl (Nat.le_of_ble_eq_true rfl) part_ok)))) rfl ⟨(.inl rfl), ⟨(.inr ⟨rfl, (fun h => by cases h), rfl, rfl, rfl⟩), ⟨(.inl rfl), ⟨(.inr ⟨rfl, (fun h => by cases h), rfl, rfl, rfl⟩), trivial⟩⟩⟩⟩ (lt_of rfl) trivial) rfl (.inr (.inr ⟨rfl, rfl, rfl, (fun h => by cases h), rfl, rfl, by omega, fun i j _ => by rw [Nat.zero_add]⟩)) (by intro h; cases h) rfl rfl) rfl (.inr (.inr ⟨rfl, rfl, rfl, (fun h => by cases h), rfl, rfl, by omega, fun i j _ => by rw [Nat.zero_add]⟩)) (by intro h; cases h) rfl rfl),
    hR 15 rfl rfl (r_call (term_Of (5 : UInt8) true false false [([] : List UInt8) ++ intsB [h.f_Height], h.f_Prev, ([] : List UInt8) ++ intsB [h.f_Count], h.f_Root] (by first | assumption | omega | (unfold maxLen; omega) | (simp [maxLen, -List.getD_eq_getElem?_getD] <;> omega) | decide)) Try.func33 rfl (by decide) [] [5] (l := [(.const (.int .u8 5), dv (.int .u8 5)), (.tmp 17, ownV 5 (kSl false kU8) 0 [([] : List UInt8) ++ intsB [h.f_Height], h.f_Prev, ([] : List UInt8) ++ intsB [h.f_Count], h.f_Root].length)]) [(5, .live (arrK 58 (kSl false kU8) [([] : List UInt8) ++ intsB [h.f_Height], h.f_Prev, ([] : List UInt8) ++ intsB [h.f_Count], h.f_Root]))] rfl 0 0 rfl rfl rfl rfl rfl rfl rfl rfl rfl ⟨.inl ⟨rfl, rfl⟩, ⟨.inr (.inl ⟨rfl, (fun h => by cases h), rfl, rfl, by simp, 58, [([] : List UInt8) ++ intsB [h.f_Height], h.f_Prev, ([] : List UInt8) ++ intsB [h.f_Count], h.f_Root].length, elOf (kSl false kU8) [([] : List UInt8) ++ intsB [h.f_Height], h.f_Prev, ([] : List UInt8) ++ intsB [h.f_Count], h.f_Root], List.Mem.head _, by omega, fun i j => by rw [Nat.zero_add]⟩), trivial⟩⟩ rfl (by intro b hb; simp only [List.mem_cons, List.not_mem_nil, or_false] at hb; rcases hb with rfl; exact ⟨_, List.Mem.head _⟩) (.inr ⟨trivial, trivial⟩) (lt_of rfl) ⟨rfl, trivial⟩)] (by kernel_rfl) (by kernel_rfl) (by kernel_rfl) (by kernel_rfl) (by kernel_rfl) (by kernel_rfl) ?_
  refine nT ?_
  refine T.ret ?_
  exact tE (.inl rfl) [.t 2 (.one (.d (.val (strV (ofB (5 : UInt8) [([] : List UInt8) ++ intsB [h.f_Height], h.f_Prev, ([] : List UInt8) ++ intsB [h.f_Count], h.f_Root])))))] ⟨⟨rfl, by kernel_rfl⟩, trivial⟩ [] (by have e1 : ((digB h) : List UInt8) = (ofB (5 : UInt8) [([] : List UInt8) ++ intsB [h.f_Height], h.f_Prev, ([] : List UInt8) ++ intsB [h.f_Count], h.f_Root]) := (by first | rfl | (simp [digB, intsB]; done)); have hE := congrArg (fun (q1 : List UInt8) => (dv (strV q1) : AV)) e1; exact hE) rfl rfl rfl rfl rfl trivial
end Go.Proofs.Ytdclfhahcfefeaa.Q
namespace Go.Proofs.Ytdclfhahcfefeaa.Q
open Go Go.RowKit
set_option linter.unusedVariables false
set_option linter.unusedSimpArgs false
set_option maxRecDepth 100000
set_option maxHeartbeats 4000000
-- quaestor/quaestorref10.Digest
theorem ref10_Digest (h : api_Header) (hp : h.f_Prev.length ≤ 10000000) (hr : h.f_Root.length ≤ 10000000) : Holds Try.prog 81 ⟨[.tv (.agg [.d (.val (.int .i64 h.f_Height)), .d (.val (strV h.f_Prev)), .d (.val (.int .i64 h.f_Count)), .d (.val (strV h.f_Root))])], [], dv (strV (digB h)), []⟩ := by
  refine Holds.of Try.func81 rfl (N := 17) Try.ntmps81 rfl fun w0 B0 S0 U0 => ?_
  show T _ (mkBase 17 0 w0 S0 U0 B0) ⟨[.tv (.agg [.d (.val (.int .i64 h.f_Height)), .d (.val (strV h.f_Prev)), .d (.val (.int .i64 h.f_Count)), .d (.val (strV h.f_Root))])], []⟩ _ _
  have hz1 := sz4 (([] : List UInt8) ++ intsB [h.f_Height]) h.f_Prev (([] : List UInt8) ++ intsB [h.f_Count]) h.f_Root
  have hz2 := sz4 (([] : List UInt8) ++ intB h.f_Height) h.f_Prev (([] : List UInt8) ++ intB h.f_Count) h.f_Root
  have hi1n : (([] : List UInt8) ++ intB h.f_Height).length = 8 := int_len _
  have hi2n : (([] : List UInt8) ++ intB h.f_Count).length = 8 := int_len _
  have hi1 := int_len h.f_Height
  have hi2 := int_len h.f_Count
  have hi3 : (intsB [h.f_Height]).length = 8 := ints_len [h.f_Height]
  have hi3n : (([] : List UInt8) ++ intsB [h.f_Height]).length = 8 := ints_len [h.f_Height]
  have hi4 : (intsB [h.f_Count]).length = 8 := ints_len [h.f_Count]
  have hi4n : (([] : List UInt8) ++ intsB [h.f_Count]).length = 8 := ints_len [h.f_Count]
  refine T.seq ?_
  refine xR [] (by kernel_rfl) (by kernel_rfl) ?_
  refine nT ?_
  refine T.seq ?_
  refine xD [[], [0], [0, 1], [], [3], [3, 4], [], [6], [0, 1, 2, 6, 7], [], [9], [9, 10], [0, 1, 2, 3, 4, 5, 6, 7, 8, 9, 10, 11], [0, 1, 2, 3, 4, 5, 6, 7, 8, 9, 10, 11, 12], [0, 1, 2, 3, 4, 5, 6, 7, 8, 9, 10, 11, 12, 13]] [hR 2 rfl rfl (r_call (ref01_Int false false ([] : List UInt8) h.f_Height (by first | assumption | omega | (unfold maxLen; omega) | (simp [maxLen, -List.getD_eq_getElem?_getD] <;> omega) | decide)) Try.func57 rfl (by decide) [1] [] (l := [(.const (.slice none 0 0), dv (.slice none 0 0)), (.tmp 4, dv (.int .i64 h.f_Height))]) [] rfl 0 1 rfl rfl rfl rfl rfl rfl rfl rfl rfl ⟨.inr (.inr ⟨rfl, rfl, rfl⟩), ⟨.inl ⟨rfl, rfl⟩, trivial⟩⟩ rfl (fun b hb => by cases hb) (.inl rfl) (lt_of rfl) ⟨rfl, trivial⟩),
    hR 5 rfl rfl (r_bytesOf (l := h.f_Prev) Try.underlying29 Try.underlying58 Try.underlying5 (lt_of rfl) trivial),
    hR 8 rfl rfl (r_call (ref01_Int false false ([] : List UInt8) h.f_Count (by first | assumption | omega | (unfold maxLen; omega) | (simp [maxLen, -List.getD_eq_getElem?_getD] <;> omega) | decide)) Try.func57 rfl (by decide) [2] [] (l := [(.const (.slice none 0 0), dv (.slice none 0 0)), (.tmp 10, dv (.int .i64 h.f_Count))]) [] rfl 0 1 rfl rfl rfl rfl rfl rfl rfl rfl rfl ⟨.inr (.inr ⟨rfl, rfl, rfl⟩), ⟨.inl ⟨rfl, rfl⟩, trivial⟩⟩ rfl (fun b hb => by cases hb) (.inl rfl) (lt_of rfl) ⟨rfl, trivial⟩),
    hR 11 rfl rfl (r_bytesOf (l := h.f_Root) Try.underlying29 Try.underlying58 Try.underlying5 (lt_of rfl) trivial),
    hR 12 rfl rfl (ORule.frz 0 5 1 5 kU8 (([] : List UInt8) ++ intB h.f_Height) (av := ownV 1 kU8 0 (([] : List UInt8) ++ intB h.f_Height).length) (ORule.frz 2 11 2 5 kU8 (([] : List UInt8) ++ intB h.f_Count) (av := ownV 2 kU8 0 (([] : List UInt8) ++ intB h.f_Count).length) (q_buildSlice 3 58 (kSl false kU8) (kSl_ok false kU8) [([] : List UInt8) ++ intB h.f_Height, h.f_Prev, ([] : List UInt8) ++ intB h.f_Count, h.f_Root] [⟨0, .tmp 5, .one (.d (dsl false false kU8 (([] : List UInt8) ++ intB h.f_Height))), 0⟩, ⟨1, .tmp 8, .one (.d (dsl false true kU8 h.f_Prev)), 1⟩, ⟨2, .tmp 11, .one (.d (dsl false false kU8 (([] : List UInt8) ++ intB h.f_Count))), 2⟩, ⟨3, .tmp 14, .one (.d (dsl false true kU8 h.f_Root)), 3⟩] (cs := [.d (dsl false false kU8 (([] : List UInt8) ++ intB h.f_Height)), .d (dsl false true kU8 h.f_Prev), .d (dsl false false kU8 (([] : List UInt8) ++ intB h.f_Count)), .d (dsl false true kU8 h.f_Root)]) Try.underlying101 iat_58 rfl zero_58 rfl rfl rfl (Nat.le_of_ble_eq_true rfl) (part_cons rfl rfl (Nat.le_of_ble_eq_true rfl) (part_cons rfl rfl (Nat.le_of_ble_eq_true rfl) (part_cons rfl rfl (Nat.le_of_ble_eq_true rfl) (part_cons rfl rfl (Nat.le_of_ble_eq_true rfl) part_ok)))) rfl ⟨(.inl rfl), ⟨(.inr ⟨rfl, (fun h => by cases h), rfl, rfl, rfl⟩), ⟨(.inl rfl), ⟨(.inr ⟨rfl, (fun h => by cases h), rfl, rfl, rfl⟩), trivial⟩⟩⟩⟩ (lt_of rfl) trivial) rfl (.inr (.inr ⟨rfl, rfl, rfl, (fun h => by cases h), rfl, rfl, by omega, fun i j _ => by rw [Nat.zero_add]⟩)) (by intro h; cases h) rfl rfl) rfl (.inr (.inr ⟨rfl, rfl, rfl, (fun h => by cases h), rfl, rfl, by omega, fun i j _ => by rw [Nat.zero_add]⟩)) (by intro h; cases h) rfl rfl),
    hR 13 rfl rfl (r_call (ref02_Of (5 : UInt8) true false false [([] : List UInt8) ++ intB h.f_Height, h.f_Prev, ([] : List UInt8) ++ intB h.f_Count, h.f_Root] (by first | assumption | omega | (unfold maxLen; omega) | (simp [maxLen, -List.getD_eq_getElem?_getD] <;> omega) | decide)) Try.func61 rfl (by decide) [] [3] (l := [(.const (.int .u8 5), dv (.int .u8 5)), (.tmp 15, ownV 3 (kSl false kU8) 0 [([] : List UInt8) ++ intB h.f_Height, h.f_Prev, ([] : List UInt8) ++ intB h.f_Count, h.f_Root].length)]) [(3, .live (arrK 58 (kSl false kU8) [([] : List UInt8) ++ intB h.f_Height, h.f_Prev, ([] : List UInt8) ++ intB h.f_Count, h.f_Root]))] rfl 0 0 rfl rfl rfl rfl rfl rfl rfl rfl rfl ⟨.inl ⟨rfl, rfl⟩, ⟨.inr (.inl ⟨rfl, (fun h => by cases h), rfl, rfl, by simp, 58, [([] : List UInt8) ++ intB h.f_Height, h.f_Prev, ([] : List UInt8) ++ intB h.f_Count, h.f_Root].length, elOf (kSl false kU8) [([] : List UInt8) ++ intB h.f_Height, h.f_Prev, ([] : List UInt8) ++ intB h.f_Count, h.f_Root], List.Mem.head _, by omega, fun i j => by rw [Nat.zero_add]⟩), trivial⟩⟩ rfl (by intro b hb; simp only [List.mem_cons, List.not_mem_nil, or_false] at hb; rcases hb with rfl; exact ⟨_, List.Mem.head _⟩) (.inr ⟨trivial, trivial⟩) (lt_of rfl) ⟨rfl, trivial⟩)] (by kernel_rfl) (by kernel_rfl) (by kernel_rfl) (by kernel_rfl) (by kernel_rfl) (by kernel_rfl) ?_
  refine nT ?_
  refine T.ret ?_
  exact tE (.inl rfl) [.t 2 (.one (.d (.val (strV (ofB (5 : UInt8) [([] : List UInt8) ++ intB h.f_Height, h.f_Prev, ([] : List UInt8) ++ intB h.f_Count, h.f_Root])))))] ⟨⟨rfl, by kernel_rfl⟩, trivial⟩ [] (by have e1 : ((digB h) : List UInt8) = (ofB (5 : UInt8) [([] : List UInt8) ++ intB h.f_Height, h.f_Prev, ([] : List UInt8) ++ intB h.f_Count, h.f_Root]) := (by first | rfl | (simp [digB, intsB]; done)); have hE := congrArg (fun (q1 : List UInt8) => (dv (strV q1) : AV)) e1; exact hE) rfl rfl rfl rfl rfl trivial
end Go.Proofs.Ytdclfhahcfefeaa.Q
namespace Go.Proofs.Ytdclfhahcfefeaa.Q
open Go Go.RowKit
set_option linter.unusedVariables false
set_option linter.unusedSimpArgs false
set_option maxRecDepth 100000
set_option maxHeartbeats 4000000
-- quaestor/quaestorlaw10.Few
theorem law_Few (tb_ : Bool) (b : api_Block) (hq : b.f_Requests.length ≤ 9223372036854775807) (hr : b.f_Results.length ≤ 9223372036854775807) : Holds Try.prog 15 ⟨[.tv (.agg [.d (.val (.int .i64 b.f_Height)), .d (.val (strV b.f_Prev)), .d (dsl tb_ false (k_api_Envelope tb_) b.f_Requests), .d (dsl tb_ false (k_api_Result tb_) b.f_Results)])], [], dv (.bool (decide (smallB b))), []⟩ := by
  refine Holds.of Try.func15 rfl (N := 35) Try.ntmps15 rfl fun w0 B0 S0 U0 => ?_
  show T _ (mkBase 35 0 w0 S0 U0 B0) ⟨[.tv (.agg [.d (.val (.int .i64 b.f_Height)), .d (.val (strV b.f_Prev)), .d (dsl tb_ false (k_api_Envelope tb_) b.f_Requests), .d (dsl tb_ false (k_api_Result tb_) b.f_Results)])], []⟩ _ _
  refine T.seq ?_
  refine xR [] (by kernel_rfl) (by kernel_rfl) ?_
  refine nT ?_
  refine T.seq ?_
  refine T.seq ?_
  by_cases hq1 : ((b.f_Requests.length : Nat) : Int) > 20
  · refine xR [hN 5 false (decide_eq_true hq1),
      hN 6 false (decide_eq_true hq1),
      hN 7 false (decide_eq_true hq1),
      hN 8 false (decide_eq_true hq1),
      hP 9 (decide_eq_true hq1),
      hN 11 (b := true) false rfl,
      hN 12 (b := true) false rfl,
      hN 13 (b := true) false rfl,
      hN 14 (b := true) false rfl,
      hP 15 (b := true) (w := true) rfl] (by kernel_rfl) (by kernel_rfl) ?_
    refine nT ?_
    refine T.condT (b := true) (by kernel_rfl) rfl ?_
    refine T.seq ?_
    refine xR [] (by kernel_rfl) (by kernel_rfl) ?_
    refine nT ?_
    refine T.ret ?_
    refine rT ?_
    exact tE (.inl rfl) [.t 2 (.one (.d (.val (.bool false))))] ⟨⟨rfl, by kernel_rfl⟩, trivial⟩ [] (by have e1 : ((decide (smallB b)) : Bool) = false := (by first | exact decide_eq_false (fun h9 => by have h8 := h9.1.1.1; omega) | exact decide_eq_false (fun h9 => by have h8 := h9.1.2.1; omega) | exact decide_eq_false (fun h9 => by have h8 := h9.2; omega) | exact decide_eq_false (fun h9 => fewG_no2 (z := z_api_Envelope) (k := k) (by omega) (by assumption) rfl h9.1.1) | exact decide_eq_true ⟨⟨fewG_yes (z := z_api_Envelope) (k := k) (by assumption) rfl (by omega) hb, by omega, by omega⟩, by omega⟩); have hE := congrArg (fun (q1 : Bool) => (dv (.bool q1) : AV)) e1; exact hE) rfl rfl rfl rfl rfl trivial
  · by_cases hq2 : ((b.f_Results.length : Nat) : Int) > 20
    · refine xR [hY 5 (decide_eq_false hq1),
        hY 6 (decide_eq_false hq1),
        hY 7 (decide_eq_false hq1),
        hY 8 (decide_eq_false hq1),
        hP 9 (decide_eq_false hq1),
        hN 11 false (decide_eq_true hq2),
        hN 12 false (decide_eq_true hq2),
        hN 13 false (decide_eq_true hq2),
        hN 14 false (decide_eq_true hq2),
        hP 15 (decide_eq_true hq2)] (by kernel_rfl) (by kernel_rfl) ?_
      refine nT ?_
      refine T.condT (b := true) (by kernel_rfl) rfl ?_
      refine T.seq ?_
      refine xR [] (by kernel_rfl) (by kernel_rfl) ?_
      refine nT ?_
      refine T.ret ?_
      refine rT ?_
      exact tE (.inl rfl) [.t 2 (.one (.d (.val (.bool false))))] ⟨⟨rfl, by kernel_rfl⟩, trivial⟩ [] (by have e1 : ((decide (smallB b)) : Bool) = false := (by first | exact decide_eq_false (fun h9 => by have h8 := h9.1.1.1; omega) | exact decide_eq_false (fun h9 => by have h8 := h9.1.2.1; omega) | exact decide_eq_false (fun h9 => by have h8 := h9.2; omega) | exact decide_eq_false (fun h9 => fewG_no2 (z := z_api_Envelope) (k := k) (by omega) (by assumption) rfl h9.1.1) | exact decide_eq_true ⟨⟨fewG_yes (z := z_api_Envelope) (k := k) (by assumption) rfl (by omega) hb, by omega, by omega⟩, by omega⟩); have hE := congrArg (fun (q1 : Bool) => (dv (.bool q1) : AV)) e1; exact hE) rfl rfl rfl rfl rfl trivial
    · refine xR [hY 5 (decide_eq_false hq1),
        hY 6 (decide_eq_false hq1),
        hY 7 (decide_eq_false hq1),
        hY 8 (decide_eq_false hq1),
        hP 9 (decide_eq_false hq1),
        hY 11 (decide_eq_false hq2),
        hY 12 (decide_eq_false hq2),
        hY 13 (decide_eq_false hq2),
        hY 14 (decide_eq_false hq2),
        hP 15 (decide_eq_false hq2)] (by kernel_rfl) (by kernel_rfl) ?_
      refine nT ?_
      by_cases hq3 : ((b.f_Prev.length : Nat) : Int) > 5000
      · refine T.condT (by kernel_rfl) (decide_eq_true hq3) ?_
        refine T.seq ?_
        refine xR [] (by kernel_rfl) (by kernel_rfl) ?_
        refine nT ?_
        refine T.ret ?_
        refine rT ?_
        exact tE (.inl rfl) [.t 2 (.one (.d (.val (.bool false))))] ⟨⟨rfl, by kernel_rfl⟩, trivial⟩ [] (by have e1 : ((decide (smallB b)) : Bool) = false := (by first | exact decide_eq_false (fun h9 => by have h8 := h9.1.1.1; omega) | exact decide_eq_false (fun h9 => by have h8 := h9.1.2.1; omega) | exact decide_eq_false (fun h9 => by have h8 := h9.2; omega) | exact decide_eq_false (fun h9 => fewG_no2 (z := z_api_Envelope) (k := k) (by omega) (by assumption) rfl h9.1.1) | exact decide_eq_true ⟨⟨fewG_yes (z := z_api_Envelope) (k := k) (by assumption) rfl (by omega) hb, by omega, by omega⟩, by omega⟩); have hE := congrArg (fun (q1 : Bool) => (dv (.bool q1) : AV)) e1; exact hE) rfl rfl rfl rfl rfl trivial
      · refine T.condF (by kernel_rfl) (decide_eq_false hq3) ?_
        refine T.skip ?_
        refine nT ?_
        refine T.seq ?_
        refine T.seq ?_
        refine xR [] (by kernel_rfl) (by kernel_rfl) ?_
        refine nT ?_
        refine T.block ?_
        refine T.loop (ι := Nat) (fun (k : Nat) => ⟨[.tv (.agg [.d (.val (.int .i64 b.f_Height)), .d (.val (strV b.f_Prev)), .d (dsl tb_ false (k_api_Envelope tb_) b.f_Requests), .d (dsl tb_ false (k_api_Result tb_) b.f_Results)]), pv 0 0, dv (.bool false), dv (.int .i64 ((k : Nat) : Int)), aa, aa, aa, aa, aa, aa, aa, aa, aa, aa, aa, aa, aa, aa, aa, dv (.bool (decide (((b.f_Prev.length : Nat) : Int) > 5000)))], [.live (.box 33 [.d (.val (.int .i64 b.f_Height)), .d (.val (strV b.f_Prev)), .d (dsl tb_ false (k_api_Envelope tb_) b.f_Requests), .d (dsl tb_ false (k_api_Result tb_) b.f_Results)])]⟩) (fun (k : Nat) => (k ≤ b.f_Requests.length) ∧ (∀ j, j < k → szE (b.f_Requests.getD j z_api_Envelope) ≤ 500)) (fun (k : Nat) => b.f_Requests.length - k) (0) ⟨(Nat.zero_le _), (fun j hj => absurd hj (Nat.not_lt_zero _))⟩ (fun _ _ hG => Gs.into2 (s' := ⟨[.tv (.agg [.d (.val (.int .i64 b.f_Height)), .d (.val (strV b.f_Prev)), .d (dsl tb_ false (k_api_Envelope tb_) b.f_Requests), .d (dsl tb_ false (k_api_Result tb_) b.f_Results)]), pv 0 0, dv (.bool false), dv (.int .i64 0), aa, aa, aa, aa, aa, aa, aa, aa, aa, aa, aa, aa, aa, aa, aa, dv (.bool (decide (((b.f_Prev.length : Nat) : Int) > 5000)))], [.live (.box 33 [.d (.val (.int .i64 b.f_Height)), .d (.val (strV b.f_Prev)), .d (dsl tb_ false (k_api_Envelope tb_) b.f_Requests), .d (dsl tb_ false (k_api_Result tb_) b.f_Results)])]⟩) [0] (bm 20 524303) (t1 := [.tv (.agg [.d (.val (.int .i64 b.f_Height)), .d (.val (strV b.f_Prev)), .d (dsl tb_ false (k_api_Envelope tb_) b.f_Requests), .d (dsl tb_ false (k_api_Result tb_) b.f_Results)]), pv 0 0, dv (.bool false), dv (.int .i64 0), aa, aa, aa, aa, aa, aa, aa, aa, aa, aa, aa, aa, aa, aa, aa, dv (.bool (decide (((b.f_Prev.length : Nat) : Int) > 5000)))]) (h1 := [.live (.box 33 [.d (.val (.int .i64 b.f_Height)), .d (.val (strV b.f_Prev)), .d (dsl tb_ false (k_api_Envelope tb_) b.f_Requests), .d (dsl tb_ false (k_api_Result tb_) b.f_Results)])]) rfl rfl (by kernel_rfl) (by kernel_rfl) (by kernel_rfl) (by kernel_rfl) (by kernel_rfl) (by kernel_rfl) (by kernel_rfl) (by kernel_rfl) (by kernel_rfl) (by kernel_rfl) (by kernel_rfl) hG) ?_
        rintro k ⟨hk, hb⟩
        show T _ _ ⟨[.tv (.agg [.d (.val (.int .i64 b.f_Height)), .d (.val (strV b.f_Prev)), .d (dsl tb_ false (k_api_Envelope tb_) b.f_Requests), .d (dsl tb_ false (k_api_Result tb_) b.f_Results)]), pv 0 0, dv (.bool false), dv (.int .i64 ((k : Nat) : Int)), aa, aa, aa, aa, aa, aa, aa, aa, aa, aa, aa, aa, aa, aa, aa, dv (.bool (decide (((b.f_Prev.length : Nat) : Int) > 5000)))], [.live (.box 33 [.d (.val (.int .i64 b.f_Height)), .d (.val (strV b.f_Prev)), .d (dsl tb_ false (k_api_Envelope tb_) b.f_Requests), .d (dsl tb_ false (k_api_Result tb_) b.f_Results)])]⟩ _ _
        replace hk : k ≤ b.f_Requests.length := hk
        replace hb : ∀ j, j < k → szE (b.f_Requests.getD j z_api_Envelope) ≤ 500 := hb
        refine T.seq ?_
        refine T.seq ?_
        refine xR [] (by kernel_rfl) (by kernel_rfl) ?_
        refine nT ?_
        by_cases hq4 : ((k : Nat) : Int) < ((b.f_Requests.length : Nat) : Int)
        · refine T.condT (by kernel_rfl) (decide_eq_true hq4) ?_
          refine T.skip ?_
          refine nT ?_
          refine T.seq ?_
          refine T.block ?_
          refine T.seq ?_
          refine xR [hR 3 rfl rfl (q_index tb_ false (k_api_Envelope tb_) b.f_Requests k (k := .i64) (i := ((k : Nat) : Int)) Try.underlying30 iat_78 rfl rfl (by first | assumption | omega | (unfold maxLen; omega) | (simp [maxLen, -List.getD_eq_getElem?_getD] <;> omega) | decide) (lt_of rfl) trivial)] (by kernel_rfl) (by kernel_rfl) ?_
          refine nT ?_
          by_cases hq5 : (((b.f_Requests.getD k z_api_Envelope).f_Body.length : Nat) : Int) > 500
          · refine T.condT (by kernel_rfl) (decide_eq_true hq5) ?_
            refine T.seq ?_
            refine xR [] (by kernel_rfl) (by kernel_rfl) ?_
            refine nT ?_
            refine T.ret ?_
            refine rB ?_
            refine rT ?_
            refine rT ?_
            refine rB ?_
            refine rT ?_
            exact tE (.inl rfl) [.t 2 (.one (.d (.val (.bool false))))] ⟨⟨rfl, by kernel_rfl⟩, trivial⟩ [] (by have e1 : ((decide (smallB b)) : Bool) = false := (by first | exact decide_eq_false (fun h9 => by have h8 := h9.1.1.1; omega) | exact decide_eq_false (fun h9 => by have h8 := h9.1.2.1; omega) | exact decide_eq_false (fun h9 => by have h8 := h9.2; omega) | exact decide_eq_false (fun h9 => fewG_no2 (z := z_api_Envelope) (k := k) (by omega) (by assumption) rfl h9.1.1) | exact decide_eq_true ⟨⟨fewG_yes (z := z_api_Envelope) (k := k) (by assumption) rfl (by omega) hb, by omega, by omega⟩, by omega⟩); have hE := congrArg (fun (q1 : Bool) => (dv (.bool q1) : AV)) e1; exact hE) rfl rfl rfl rfl rfl trivial
          · refine T.condF (by kernel_rfl) (decide_eq_false hq5) ?_
            refine T.skip ?_
            refine nB ?_
            refine nT ?_
            refine xR [hR 1 rfl rfl (r_bin (u1 := .int .i64 ((k : Nat) : Int)) (u2 := .int .i64 1) (v := .int .i64 ((k + 1 : Nat) : Int)) (b_add (by rw [IntKind.wrap_i64]; omega)) (lt_of rfl) ⟨rfl, trivial⟩)] (by kernel_rfl) (by kernel_rfl) ?_
            refine nL (k + 1) ⟨(show (k + 1) ≤ b.f_Requests.length from (by omega)), (show ∀ j, j < (k + 1) → szE (b.f_Requests.getD j z_api_Envelope) ≤ 500 from (all_succ hb (by have h9 : ((((b.f_Requests.getD k z_api_Envelope).f_Body.length : Nat) : Int)) ≤ 500 := (by omega); exact Int.ofNat_le.1 h9)))⟩ (show (b.f_Requests.length - (k + 1) : Nat) < b.f_Requests.length - k from (by omega)) (fun _ _ hG => Gs.into2 (s' := ⟨[.tv (.agg [.d (.val (.int .i64 b.f_Height)), .d (.val (strV b.f_Prev)), .d (dsl tb_ false (k_api_Envelope tb_) b.f_Requests), .d (dsl tb_ false (k_api_Result tb_) b.f_Results)]), pv 0 0, dv (.bool false), dv (.int .i64 ((k + 1 : Nat) : Int)), aa, aa, aa, aa, aa, aa, aa, aa, aa, aa, aa, aa, aa, aa, aa, dv (.bool (decide (((b.f_Prev.length : Nat) : Int) > 5000)))], [.live (.box 33 [.d (.val (.int .i64 b.f_Height)), .d (.val (strV b.f_Prev)), .d (dsl tb_ false (k_api_Envelope tb_) b.f_Requests), .d (dsl tb_ false (k_api_Result tb_) b.f_Results)])]⟩) [0] (bm 20 524303) (t1 := [.tv (.agg [.d (.val (.int .i64 b.f_Height)), .d (.val (strV b.f_Prev)), .d (dsl tb_ false (k_api_Envelope tb_) b.f_Requests), .d (dsl tb_ false (k_api_Result tb_) b.f_Results)]), pv 0 0, dv (.bool false), dv (.int .i64 ((k + 1 : Nat) : Int)), aa, aa, aa, aa, aa, aa, aa, aa, aa, aa, aa, aa, aa, aa, aa, dv (.bool (decide (((b.f_Prev.length : Nat) : Int) > 5000)))]) (h1 := [.live (.box 33 [.d (.val (.int .i64 b.f_Height)), .d (.val (strV b.f_Prev)), .d (dsl tb_ false (k_api_Envelope tb_) b.f_Requests), .d (dsl tb_ false (k_api_Result tb_) b.f_Results)])]) rfl rfl (by kernel_rfl) (by kernel_rfl) (by kernel_rfl) (by kernel_rfl) (by kernel_rfl) (by kernel_rfl) (by kernel_rfl) (by kernel_rfl) (by kernel_rfl) (by kernel_rfl) (by kernel_rfl) hG)
        · refine T.condF (by kernel_rfl) (decide_eq_false hq4) ?_
          refine T.exit ?_
          refine xT ?_
          refine xT ?_
          refine xH ?_
          refine nT ?_
          refine T.seq ?_
          refine xR [] (by kernel_rfl) (by kernel_rfl) ?_
          refine nT ?_
          refine T.ret ?_
          exact tE (.inl rfl) [.t 2 (.one (.d (.val (.bool true))))] ⟨⟨rfl, by kernel_rfl⟩, trivial⟩ [] (by have e1 : ((decide (smallB b)) : Bool) = true := (by first | exact decide_eq_false (fun h9 => by have h8 := h9.1.1.1; omega) | exact decide_eq_false (fun h9 => by have h8 := h9.1.2.1; omega) | exact decide_eq_false (fun h9 => by have h8 := h9.2; omega) | exact decide_eq_false (fun h9 => fewG_no2 (z := z_api_Envelope) (k := k) (by omega) (by assumption) rfl h9.1.1) | exact decide_eq_true ⟨⟨fewG_yes (z := z_api_Envelope) (k := k) (by assumption) rfl (by omega) hb, by omega, by omega⟩, by omega⟩); have hE := congrArg (fun (q1 : Bool) => (dv (.bool q1) : AV)) e1; exact hE) rfl rfl rfl rfl rfl trivial
end Go.Proofs.Ytdclfhahcfefeaa.Q
namespace Go.Proofs.Ytdclfhahcfefeaa.Q
open Go Go.RowKit
set_option linter.unusedVariables false
set_option linter.unusedSimpArgs false
set_option maxRecDepth 100000
set_option maxHeartbeats 4000000
-- quaestor/quaestorref03.Same
theorem ref03_Same (ta : Bool) (tb : Bool) (a : api_Envelope) (b : api_Envelope) : Holds Try.prog 71 ⟨[.tv (.agg [.d (.val (.int .i64 a.f_Signer)), .d (dsl ta false kU8 a.f_Body)]), .tv (.agg [.d (.val (.int .i64 b.f_Signer)), .d (dsl tb false kU8 b.f_Body)])], [], dv (.bool (decide (a = b))), []⟩ := by
  refine Holds.of Try.func71 rfl (N := 17) Try.ntmps71 rfl fun w0 B0 S0 U0 => ?_
  show T _ (mkBase 17 0 w0 S0 U0 B0) ⟨[.tv (.agg [.d (.val (.int .i64 a.f_Signer)), .d (dsl ta false kU8 a.f_Body)]), .tv (.agg [.d (.val (.int .i64 b.f_Signer)), .d (dsl tb false kU8 b.f_Body)])], []⟩ _ _
  refine T.seq ?_
  refine xR [] (by kernel_rfl) (by kernel_rfl) ?_
  refine nT ?_
  refine T.seq ?_
  by_cases hq1 : a.f_Signer = b.f_Signer
  · refine xR [hY 6 (decide_eq_true hq1),
      hY 7 (decide_eq_true hq1),
      hY 8 (decide_eq_true hq1),
      hY 9 (decide_eq_true hq1),
      hS 10 (oY rfl rfl rfl rfl (lt_of rfl) (decide_eq_true hq1) (r_call (ref01_Same ta false tb false a.f_Body b.f_Body ) Try.func29 rfl (by decide) [] [] (l := [(.tmp 12, slV ta false kU8 a.f_Body), (.tmp 14, slV tb false kU8 b.f_Body)]) [] rfl 0 0 rfl rfl rfl rfl rfl rfl rfl rfl rfl ⟨.inl ⟨rfl, rfl⟩, ⟨.inl ⟨rfl, rfl⟩, trivial⟩⟩ rfl (fun b hb => by cases hb) (.inl rfl) (lt_of rfl) trivial)),
      hP 11 (decide_eq_true hq1)] (by kernel_rfl) (by kernel_rfl) ?_
    refine nT ?_
    refine T.ret ?_
    exact tE (.inl rfl) [.t 4 (.one (.d (.val (.bool (decide (a.f_Body = b.f_Body))))))] ⟨⟨rfl, by kernel_rfl⟩, trivial⟩ [] (by have e1 : ((decide (a = b)) : Bool) = (decide (a.f_Body = b.f_Body)) := (by simp [api_Envelope_iff, *]); have hE := congrArg (fun (q1 : Bool) => (dv (.bool q1) : AV)) e1; exact hE) rfl rfl rfl rfl rfl trivial
  · refine xR [hN 6 true (decide_eq_false hq1),
      hN 7 true (decide_eq_false hq1),
      hN 8 true (decide_eq_false hq1),
      hN 9 true (decide_eq_false hq1),
      hN 10 true (decide_eq_false hq1),
      hP 11 (decide_eq_false hq1)] (by kernel_rfl) (by kernel_rfl) ?_
    refine nT ?_
    refine T.ret ?_
    exact tE (.inl rfl) [.t 4 (.one (.d (.val (.bool false))))] ⟨⟨rfl, by kernel_rfl⟩, trivial⟩ [] (by have e1 : ((decide (a = b)) : Bool) = false := (by simp [api_Envelope_iff, *]); have hE := congrArg (fun (q1 : Bool) => (dv (.bool q1) : AV)) e1; exact hE) rfl rfl rfl rfl rfl trivial
end Go.Proofs.Ytdclfhahcfefeaa.Q
namespace Go.Proofs.Ytdclfhahcfefeaa.Q
open Go Go.RowKit
set_option linter.unusedVariables false
set_option linter.unusedSimpArgs false
set_option maxRecDepth 100000
set_option maxHeartbeats 4000000
-- quaestor/quaestorref03.All
theorem ref03_All (ta : Bool) (na : Bool) (sa : Bool) (tb : Bool) (nb : Bool) (sb : Bool) (a : List api_Envelope) (b : List api_Envelope) (hl : a.length ≤ 9223372036854775807) : Holds Try.prog 44 ⟨[slV ta na (k_api_Envelope sa) a, slV tb nb (k_api_Envelope sb) b], [], dv (.bool (decide (a = b))), []⟩ := by
  refine Holds.of Try.func44 rfl (N := 27) Try.ntmps44 rfl fun w0 B0 S0 U0 => ?_
  show T _ (mkBase 27 0 w0 S0 U0 B0) ⟨[slV ta na (k_api_Envelope sa) a, slV tb nb (k_api_Envelope sb) b], []⟩ _ _
  refine T.seq ?_
  refine xR [] (by kernel_rfl) (by kernel_rfl) ?_
  refine nT ?_
  refine T.seq ?_
  refine T.seq ?_
  refine xR [] (by kernel_rfl) (by kernel_rfl) ?_
  refine nT ?_
  by_cases hq1 : ((a.length : Nat) : Int) ≠ ((b.length : Nat) : Int)
  · refine T.condT (by kernel_rfl) (decide_eq_true hq1) ?_
    refine T.seq ?_
    refine xR [] (by kernel_rfl) (by kernel_rfl) ?_
    refine nT ?_
    refine T.ret ?_
    refine rT ?_
    exact tE (.inl rfl) [.t 4 (.one (.d (.val (.bool false))))] ⟨⟨rfl, by kernel_rfl⟩, trivial⟩ [] (by have e1 : ((decide (a = b)) : Bool) = false := (by first | exact decide_eq_true (rows_eq (z := z_api_Envelope) (k := k) hab (by omega) hb) | exact (decide_eq_true (rows_eq (z := z_api_Envelope) (k := k) hab (by omega) hb)).symm | exact decide_eq_false (fun e => by have h9 : a.length ≠ b.length := (by omega); exact h9 (by rw [e])) | exact (decide_eq_false (fun e => by have h9 : a.length ≠ b.length := (by omega); exact h9 (by rw [e]))).symm | exact decide_eq_false (fun e => by have h9 : ¬ a.getD k z_api_Envelope = b.getD k z_api_Envelope := (by assumption); exact h9 (by rw [e])) | exact (decide_eq_false (fun e => by have h9 : ¬ a.getD k z_api_Envelope = b.getD k z_api_Envelope := (by assumption); exact h9 (by rw [e]))).symm); have hE := congrArg (fun (q1 : Bool) => (dv (.bool q1) : AV)) e1; exact hE) rfl rfl rfl rfl rfl trivial
  · refine T.condF (by kernel_rfl) (decide_eq_false hq1) ?_
    refine T.skip ?_
    refine nT ?_
    refine T.seq ?_
    refine T.seq ?_
    refine xR [] (by kernel_rfl) (by kernel_rfl) ?_
    refine nT ?_
    refine T.block ?_
    refine T.loop (ι := Nat) (fun (k : Nat) => ⟨[slV ta na (k_api_Envelope sa) a, slV tb nb (k_api_Envelope sb) b, aa, aa, dv (.bool false), dv (.int .i64 ((k : Nat) : Int)), aa, aa, aa, aa, dv (.bool (decide (((a.length : Nat) : Int) ≠ ((b.length : Nat) : Int))))], []⟩) (fun (k : Nat) => (k ≤ a.length) ∧ (a.length = b.length) ∧ (∀ j, j < k → a.getD j z_api_Envelope = b.getD j z_api_Envelope)) (fun (k : Nat) => a.length - k) (0) ⟨(Nat.zero_le _), (by omega), (fun j hj => absurd hj (Nat.not_lt_zero _))⟩ (fun _ _ hG => Gs.into2 (s' := ⟨[slV ta na (k_api_Envelope sa) a, slV tb nb (k_api_Envelope sb) b, aa, aa, dv (.bool false), dv (.int .i64 0), aa, aa, aa, aa, dv (.bool (decide (((a.length : Nat) : Int) ≠ ((b.length : Nat) : Int))))], []⟩) [] (bm 11 1075) (t1 := [slV ta na (k_api_Envelope sa) a, slV tb nb (k_api_Envelope sb) b, aa, aa, dv (.bool false), dv (.int .i64 0), aa, aa, aa, aa, dv (.bool (decide (((a.length : Nat) : Int) ≠ ((b.length : Nat) : Int))))]) (h1 := []) rfl rfl (by kernel_rfl) (by kernel_rfl) (by kernel_rfl) (by kernel_rfl) (by kernel_rfl) (by kernel_rfl) (by kernel_rfl) (by kernel_rfl) (by kernel_rfl) (by kernel_rfl) (by kernel_rfl) hG) ?_
    rintro k ⟨hk, hab, hb⟩
    show T _ _ ⟨[slV ta na (k_api_Envelope sa) a, slV tb nb (k_api_Envelope sb) b, aa, aa, dv (.bool false), dv (.int .i64 ((k : Nat) : Int)), aa, aa, aa, aa, dv (.bool (decide (((a.length : Nat) : Int) ≠ ((b.length : Nat) : Int))))], []⟩ _ _
    replace hk : k ≤ a.length := hk
    replace hab : a.length = b.length := hab
    replace hb : ∀ j, j < k → a.getD j z_api_Envelope = b.getD j z_api_Envelope := hb
    refine T.seq ?_
    refine T.seq ?_
    refine xR [] (by kernel_rfl) (by kernel_rfl) ?_
    refine nT ?_
    by_cases hq2 : ((k : Nat) : Int) < ((a.length : Nat) : Int)
    · refine T.condT (by kernel_rfl) (decide_eq_true hq2) ?_
      refine T.skip ?_
      refine nT ?_
      refine T.seq ?_
      refine T.block ?_
      refine T.seq ?_
      refine xD [[], [], [0, 1], [0, 1, 2], [], [], [4, 5], [4, 5, 6], [0, 1, 2, 3, 4, 5, 6, 7], [0, 1, 2, 3, 4, 5, 6, 7, 8]] [hR 2 rfl rfl (q_index ta na (k_api_Envelope sa) a k (k := .i64) (i := ((k : Nat) : Int)) Try.underlying30 iat_78 rfl rfl (by first | assumption | omega | (unfold maxLen; omega) | (simp [maxLen, -List.getD_eq_getElem?_getD] <;> omega) | decide) (lt_of rfl) trivial),
        hR 6 rfl rfl (q_index tb nb (k_api_Envelope sb) b k (k := .i64) (i := ((k : Nat) : Int)) Try.underlying30 iat_78 rfl rfl (by first | assumption | omega | (unfold maxLen; omega) | (simp [maxLen, -List.getD_eq_getElem?_getD] <;> omega) | decide) (lt_of rfl) trivial),
        hR 8 rfl rfl (r_call (ref03_Same sa sb (a.getD k z_api_Envelope) (b.getD k z_api_Envelope) ) Try.func71 rfl (by decide) [] [] (l := [(.tmp 20, .tv (.agg [.d (.val (.int .i64 (a.getD k z_api_Envelope).f_Signer)), .d (dsl sa false kU8 (a.getD k z_api_Envelope).f_Body)])), (.tmp 24, .tv (.agg [.d (.val (.int .i64 (b.getD k z_api_Envelope).f_Signer)), .d (dsl sb false kU8 (b.getD k z_api_Envelope).f_Body)]))]) [] rfl 0 0 rfl rfl rfl rfl rfl rfl rfl rfl rfl ⟨⟨.inl ⟨rfl, rfl⟩, ⟨.inl ⟨rfl, rfl⟩, trivial⟩⟩, ⟨⟨.inl ⟨rfl, rfl⟩, ⟨.inl ⟨rfl, rfl⟩, trivial⟩⟩, trivial⟩⟩ rfl (fun b hb => by cases hb) (.inl rfl) (lt_of rfl) trivial)] (by kernel_rfl) (by kernel_rfl) (by kernel_rfl) (by kernel_rfl) (by kernel_rfl) (by kernel_rfl) ?_
      refine nT ?_
      by_cases hq3 : (a.getD k z_api_Envelope) = (b.getD k z_api_Envelope)
      · refine T.condF (by kernel_rfl) (congrArg Bool.not (decide_eq_true hq3)) ?_
        refine T.skip ?_
        refine nB ?_
        refine nT ?_
        refine xR [hR 1 rfl rfl (r_bin (u1 := .int .i64 ((k : Nat) : Int)) (u2 := .int .i64 1) (v := .int .i64 ((k + 1 : Nat) : Int)) (b_add (by rw [IntKind.wrap_i64]; omega)) (lt_of rfl) ⟨rfl, trivial⟩)] (by kernel_rfl) (by kernel_rfl) ?_
        refine nL (k + 1) ⟨(show (k + 1) ≤ a.length from (by omega)), (show a.length = b.length from hab), (show ∀ j, j < (k + 1) → a.getD j z_api_Envelope = b.getD j z_api_Envelope from (all_succ hb (by assumption)))⟩ (show (a.length - (k + 1) : Nat) < a.length - k from (by omega)) (fun _ _ hG => Gs.into2 (s' := ⟨[slV ta na (k_api_Envelope sa) a, slV tb nb (k_api_Envelope sb) b, aa, aa, dv (.bool false), dv (.int .i64 ((k + 1 : Nat) : Int)), aa, aa, aa, aa, dv (.bool (decide (((a.length : Nat) : Int) ≠ ((b.length : Nat) : Int))))], []⟩) [] (bm 11 1075) (t1 := [slV ta na (k_api_Envelope sa) a, slV tb nb (k_api_Envelope sb) b, aa, aa, dv (.bool false), dv (.int .i64 ((k + 1 : Nat) : Int)), aa, aa, aa, aa, dv (.bool (decide (((a.length : Nat) : Int) ≠ ((b.length : Nat) : Int))))]) (h1 := []) rfl rfl (by kernel_rfl) (by kernel_rfl) (by kernel_rfl) (by kernel_rfl) (by kernel_rfl) (by kernel_rfl) (by kernel_rfl) (by kernel_rfl) (by kernel_rfl) (by kernel_rfl) (by kernel_rfl) hG)
      · refine T.condT (by kernel_rfl) (congrArg Bool.not (decide_eq_false hq3)) ?_
        refine T.seq ?_
        refine xR [] (by kernel_rfl) (by kernel_rfl) ?_
        refine nT ?_
        refine T.ret ?_
        refine rB ?_
        refine rT ?_
        refine rT ?_
        refine rB ?_
        refine rT ?_
        exact tE (.inl rfl) [.t 4 (.one (.d (.val (.bool false))))] ⟨⟨rfl, by kernel_rfl⟩, trivial⟩ [] (by have e1 : ((decide (a = b)) : Bool) = false := (by first | exact decide_eq_true (rows_eq (z := z_api_Envelope) (k := k) hab (by omega) hb) | exact (decide_eq_true (rows_eq (z := z_api_Envelope) (k := k) hab (by omega) hb)).symm | exact decide_eq_false (fun e => by have h9 : a.length ≠ b.length := (by omega); exact h9 (by rw [e])) | exact (decide_eq_false (fun e => by have h9 : a.length ≠ b.length := (by omega); exact h9 (by rw [e]))).symm | exact decide_eq_false (fun e => by have h9 : ¬ a.getD k z_api_Envelope = b.getD k z_api_Envelope := (by assumption); exact h9 (by rw [e])) | exact (decide_eq_false (fun e => by have h9 : ¬ a.getD k z_api_Envelope = b.getD k z_api_Envelope := (by assumption); exact h9 (by rw [e]))).symm); have hE := congrArg (fun (q1 : Bool) => (dv (.bool q1) : AV)) e1; exact hE) rfl rfl rfl rfl rfl trivial
    · refine T.condF (by kernel_rfl) (decide_eq_false hq2) ?_
      refine T.exit ?_
      refine xT ?_
      refine xT ?_
      refine xH ?_
      refine nT ?_
      refine T.seq ?_
      refine xR [] (by kernel_rfl) (by kernel_rfl) ?_
      refine nT ?_
      refine T.ret ?_
      exact tE (.inl rfl) [.t 4 (.one (.d (.val (.bool true))))] ⟨⟨rfl, by kernel_rfl⟩, trivial⟩ [] (by have e1 : ((decide (a = b)) : Bool) = true := (by first | exact decide_eq_true (rows_eq (z := z_api_Envelope) (k := k) hab (by omega) hb) | exact (decide_eq_true (rows_eq (z := z_api_Envelope) (k := k) hab (by omega) hb)).symm | exact decide_eq_false (fun e => by have h9 : a.length ≠ b.length := (by omega); exact h9 (by rw [e])) | exact (decide_eq_false (fun e => by have h9 : a.length ≠ b.length := (by omega); exact h9 (by rw [e]))).symm | exact decide_eq_false (fun e => by have h9 : ¬ a.getD k z_api_Envelope = b.getD k z_api_Envelope := (by assumption); exact h9 (by rw [e])) | exact (decide_eq_false (fun e => by have h9 : ¬ a.getD k z_api_Envelope = b.getD k z_api_Envelope := (by assumption); exact h9 (by rw [e]))).symm); have hE := congrArg (fun (q1 : Bool) => (dv (.bool q1) : AV)) e1; exact hE) rfl rfl rfl rfl rfl trivial
end Go.Proofs.Ytdclfhahcfefeaa.Q
