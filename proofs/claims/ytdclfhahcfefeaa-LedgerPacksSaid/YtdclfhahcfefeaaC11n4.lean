import Derived.Test.YtdclfhahcfefeaaC11n3
namespace Go.Proofs.Ytdclfhahcfefeaa.Q
open Go Go.RowKit
set_option linter.unusedVariables false
set_option linter.unusedSimpArgs false
set_option maxRecDepth 100000
set_option maxHeartbeats 4000000
theorem fld_78_0 : FieldAt Try.prog 78 0 0 := ⟨_, _, _, Try.underlying78, rfl, iat_3, by decide, rfl⟩
theorem zero_3 : Zero Try.prog 3 [.int .i64 0] := ⟨_, _, iat_3, rfl, rfl⟩
theorem fld_78_1 : FieldAt Try.prog 78 1 1 := ⟨_, _, _, Try.underlying78, rfl, iat_58, by decide, rfl⟩
theorem iat_43 : Try.prog.info? 43 = some Try.t43 := by kernel_rfl
theorem fld_88_0 : FieldAt Try.prog 88 0 0 := ⟨_, _, _, Try.underlying88, rfl, iat_43, by decide, rfl⟩
theorem wide_43 : Wide Try.prog 43 none := ⟨_, Try.underlying43, (fun _ h => by cases h), (fun _ _ h => by cases h)⟩
theorem fld_88_1 : FieldAt Try.prog 88 1 1 := ⟨_, _, _, Try.underlying88, rfl, iat_3, by decide, rfl⟩
-- quaestor/block.Leaf
theorem block_Leaf (te : Bool) (e : api_Envelope) (r : api_Result) (hb : e.f_Body.length ≤ 100000000) : Holds Try.prog 84 ⟨[.tv (.agg [.d (.val (.int .i64 e.f_Signer)), .d (dsl te false kU8 e.f_Body)]), .tv (.agg [.d (.val (.int .i64 r.f_Code)), .d (.val (.int .i64 r.f_Stage))])], [], ownV 0 kU8 0 (leafB e r).length, [.live (arrK 5 kU8 (leafB e r))]⟩ := by
  refine Holds.of Try.func84 rfl (N := 18) Try.ntmps84 rfl fun w0 B0 S0 U0 => ?_
  show T _ (mkBase 18 0 w0 S0 U0 B0) ⟨[.tv (.agg [.d (.val (.int .i64 e.f_Signer)), .d (dsl te false kU8 e.f_Body)]), .tv (.agg [.d (.val (.int .i64 r.f_Code)), .d (.val (.int .i64 r.f_Stage))])], []⟩ _ _
  have hi1 := int_len e.f_Signer
  have hi2 : (intsB [e.f_Signer]).length = 8 := ints_len [e.f_Signer]
  have hi2n : (([] : List UInt8) ++ intsB [e.f_Signer]).length = 8 := ints_len [e.f_Signer]
  have hy := bytes_len e.f_Body
  refine T.seq ?_
  refine xR [] (by kernel_rfl) (by kernel_rfl) ?_
  refine nT ?_
  refine T.seq ?_
  refine xD [[], [0], [0, 1], [0, 1, 2], [], [4], [0, 1, 2, 3, 4, 5], [], [7], [], [9], [7, 8, 9, 10], [0, 1, 2, 3, 4, 5, 6, 7, 8, 9, 10, 11], [0, 1, 2, 3, 4, 5, 6, 7, 8, 9, 10, 11, 12]] [hR 2 rfl rfl (q_buildSlice 2 3 (kInt .i64) (kInt_ok .i64) [e.f_Signer] [⟨0, .tmp 6, .one (.d (.val (.int .i64 e.f_Signer))), 0⟩] (cs := [.d (.val (.int .i64 e.f_Signer))]) Try.underlying122 iat_3 rfl zero_3 rfl rfl rfl (Nat.le_of_ble_eq_true rfl) (part_cons rfl rfl (Nat.le_of_ble_eq_true rfl) part_ok) rfl ⟨(.inl rfl), trivial⟩ (lt_of rfl) trivial),
    hR 3 rfl rfl (r_call (block_ints false false ([] : List UInt8) true false [e.f_Signer] (by first | assumption | omega | (unfold maxLen; omega) | (simp [maxLen, -List.getD_eq_getElem?_getD] <;> omega) | decide) (by first | assumption | omega | (unfold maxLen; omega) | (simp [maxLen, -List.getD_eq_getElem?_getD] <;> omega) | decide)) Try.func68 rfl (by decide) [3] [2] (l := [(.const (.slice none 0 0), dv (.slice none 0 0)), (.tmp 7, ownV 2 (kInt .i64) 0 [e.f_Signer].length)]) [(2, .live (arrK 3 (kInt .i64) [e.f_Signer]))] rfl 0 1 rfl rfl rfl rfl rfl rfl rfl rfl rfl ⟨.inr (.inr ⟨rfl, rfl, rfl⟩), ⟨.inr (.inl ⟨rfl, (fun h => by cases h), rfl, rfl, by simp, 3, [e.f_Signer].length, elOf (kInt .i64) [e.f_Signer], List.Mem.head _, by omega, fun i j => by rw [Nat.zero_add]⟩), trivial⟩⟩ rfl (by intro b hb; simp only [List.mem_cons, List.not_mem_nil, or_false] at hb; rcases hb with rfl; exact ⟨_, List.Mem.head _⟩) (.inr ⟨trivial, (And.intro (arr_nt kU8_nt) trivial)⟩) (lt_of rfl) ⟨rfl, trivial⟩),
    hR 6 rfl rfl (r_call (wire_PutBytes true false (([] : List UInt8) ++ intsB [e.f_Signer]) te false e.f_Body (by first | assumption | omega | (unfold maxLen; omega) | (simp [maxLen, -List.getD_eq_getElem?_getD] <;> omega) | decide)) Try.func46 rfl (by decide) [4] [3] (l := [(.tmp 8, ownV 3 kU8 0 (([] : List UInt8) ++ intsB [e.f_Signer]).length), (.tmp 10, slV te false kU8 e.f_Body)]) [(3, .live (arrK 5 kU8 (([] : List UInt8) ++ intsB [e.f_Signer])))] rfl 0 1 rfl rfl rfl rfl rfl rfl rfl rfl rfl ⟨.inr (.inl ⟨rfl, (fun h => by cases h), rfl, rfl, by simp, 5, (([] : List UInt8) ++ intsB [e.f_Signer]).length, elOf kU8 (([] : List UInt8) ++ intsB [e.f_Signer]), List.Mem.head _, by omega, fun i j => by rw [Nat.zero_add]⟩), ⟨.inl ⟨rfl, rfl⟩, trivial⟩⟩ rfl (by intro b hb; simp only [List.mem_cons, List.not_mem_nil, or_false] at hb; rcases hb with rfl; exact ⟨_, List.Mem.head _⟩) (.inr ⟨trivial, (And.intro (arr_nt kU8_nt) trivial)⟩) (lt_of rfl) trivial),
    hR 11 rfl rfl (q_buildSlice 5 3 (kInt .i64) (kInt_ok .i64) [r.f_Code, r.f_Stage] [⟨0, .tmp 13, .one (.d (.val (.int .i64 r.f_Code))), 0⟩, ⟨1, .tmp 15, .one (.d (.val (.int .i64 r.f_Stage))), 1⟩] (cs := [.d (.val (.int .i64 r.f_Code)), .d (.val (.int .i64 r.f_Stage))]) Try.underlying122 iat_3 rfl zero_3 rfl rfl rfl (Nat.le_of_ble_eq_true rfl) (part_cons rfl rfl (Nat.le_of_ble_eq_true rfl) (part_cons rfl rfl (Nat.le_of_ble_eq_true rfl) part_ok)) rfl ⟨(.inl rfl), ⟨(.inl rfl), trivial⟩⟩ (lt_of rfl) trivial),
    hR 12 rfl rfl (r_call (block_ints true false (([] : List UInt8) ++ intsB [e.f_Signer] ++ bytesB e.f_Body) true false [r.f_Code, r.f_Stage] (by first | assumption | omega | (unfold maxLen; omega) | (simp [maxLen, -List.getD_eq_getElem?_getD] <;> omega) | decide) (by first | assumption | omega | (unfold maxLen; omega) | (simp [maxLen, -List.getD_eq_getElem?_getD] <;> omega) | decide)) Try.func68 rfl (by decide) [6] [4, 5] (l := [(.tmp 11, ownV 4 kU8 0 (([] : List UInt8) ++ intsB [e.f_Signer] ++ bytesB e.f_Body).length), (.tmp 16, ownV 5 (kInt .i64) 0 [r.f_Code, r.f_Stage].length)]) [(4, .live (arrK 5 kU8 (([] : List UInt8) ++ intsB [e.f_Signer] ++ bytesB e.f_Body))), (5, .live (arrK 3 (kInt .i64) [r.f_Code, r.f_Stage]))] rfl 0 1 rfl rfl rfl rfl rfl rfl rfl rfl rfl ⟨.inr (.inl ⟨rfl, (fun h => by cases h), rfl, rfl, by simp, 5, (([] : List UInt8) ++ intsB [e.f_Signer] ++ bytesB e.f_Body).length, elOf kU8 (([] : List UInt8) ++ intsB [e.f_Signer] ++ bytesB e.f_Body), List.Mem.head _, by omega, fun i j => by rw [Nat.zero_add]⟩), ⟨.inr (.inl ⟨rfl, (fun h => by cases h), rfl, rfl, by simp, 3, [r.f_Code, r.f_Stage].length, elOf (kInt .i64) [r.f_Code, r.f_Stage], List.Mem.tail _ (List.Mem.head _), by omega, fun i j => by rw [Nat.zero_add]⟩), trivial⟩⟩ rfl (by intro b hb; simp only [List.mem_cons, List.not_mem_nil, or_false] at hb; rcases hb with rfl | rfl; exact ⟨_, List.Mem.head _⟩; exact ⟨_, List.Mem.tail _ (List.Mem.head _)⟩) (.inr ⟨trivial, (And.intro (arr_nt kU8_nt) trivial)⟩) (lt_of rfl) trivial)] (by kernel_rfl) (by kernel_rfl) (by kernel_rfl) (by kernel_rfl) (by kernel_rfl) (by kernel_rfl) ?_
  refine nT ?_
  refine T.ret ?_
  exact tE (.inl rfl) [.t 4 (.one (.own 6 kU8.sz 0 (([] : List UInt8) ++ intsB [e.f_Signer] ++ bytesB e.f_Body ++ intsB [r.f_Code, r.f_Stage]).length))] ⟨⟨rfl, by kernel_rfl⟩, trivial⟩ [6] (by have e1 : ((leafB e r).length : Nat) = (([] : List UInt8) ++ intsB [e.f_Signer] ++ bytesB e.f_Body ++ intsB [r.f_Code, r.f_Stage]).length := (by first | rfl | (simp [leafB, intsB]; done)); have hE := congrArg (fun (q1 : Nat) => (ownV 6 kU8 0 q1 : AV)) e1; exact hE) rfl rfl rfl rfl rfl ⟨⟨rfl, (by have e1 : (([] : List UInt8) ++ intsB [e.f_Signer] ++ bytesB e.f_Body ++ intsB [r.f_Code, r.f_Stage] : List UInt8) = leafB e r := (by first | rfl | (simp [leafB, intsB]; done)); have hE := congrArg (fun (q1 : List UInt8) => (.live (arrK 5 kU8 q1) : HS)) e1; exact Eq.trans (by kernel_rfl) hE)⟩, trivial⟩
end Go.Proofs.Ytdclfhahcfefeaa.Q
namespace Go.Proofs.Ytdclfhahcfefeaa.Q
open Go Go.RowKit
set_option linter.unusedVariables false
set_option linter.unusedSimpArgs false
set_option maxRecDepth 100000
set_option maxHeartbeats 4000000
-- quaestor/quaestorref10.Leaf
theorem ref10_Leaf (te : Bool) (e : api_Envelope) (r : api_Result) (hb : e.f_Body.length ≤ 100000000) : Holds Try.prog 92 ⟨[.tv (.agg [.d (.val (.int .i64 e.f_Signer)), .d (dsl te false kU8 e.f_Body)]), .tv (.agg [.d (.val (.int .i64 r.f_Code)), .d (.val (.int .i64 r.f_Stage))])], [], ownV 0 kU8 0 (leafB e r).length, [.live (arrK 5 kU8 (leafB e r))]⟩ := by
  refine Holds.of Try.func92 rfl (N := 19) Try.ntmps92 rfl fun w0 B0 S0 U0 => ?_
  show T _ (mkBase 19 0 w0 S0 U0 B0) ⟨[.tv (.agg [.d (.val (.int .i64 e.f_Signer)), .d (dsl te false kU8 e.f_Body)]), .tv (.agg [.d (.val (.int .i64 r.f_Code)), .d (.val (.int .i64 r.f_Stage))])], []⟩ _ _
  have hi1 := int_len e.f_Signer
  have hi2 := int_len r.f_Code
  have hy := bytes_len e.f_Body
  refine T.seq ?_
  refine xR [] (by kernel_rfl) (by kernel_rfl) ?_
  refine nT ?_
  refine T.seq ?_
  refine xD [[], [0], [0, 1], [], [3], [0, 1, 2, 3, 4], [0, 1, 2, 3, 4, 5]] [hR 2 rfl rfl (r_call (ref01_Int false false ([] : List UInt8) e.f_Signer (by first | assumption | omega | (unfold maxLen; omega) | (simp [maxLen, -List.getD_eq_getElem?_getD] <;> omega) | decide)) Try.func57 rfl (by decide) [2] [] (l := [(.const (.slice none 0 0), dv (.slice none 0 0)), (.tmp 7, dv (.int .i64 e.f_Signer))]) [] rfl 0 1 rfl rfl rfl rfl rfl rfl rfl rfl rfl ⟨.inr (.inr ⟨rfl, rfl, rfl⟩), ⟨.inl ⟨rfl, rfl⟩, trivial⟩⟩ rfl (fun b hb => by cases hb) (.inl rfl) (lt_of rfl) ⟨rfl, trivial⟩),
    hR 5 rfl rfl (r_call (ref01_Bytes true false (([] : List UInt8) ++ intB e.f_Signer) te false e.f_Body (by first | assumption | omega | (unfold maxLen; omega) | (simp [maxLen, -List.getD_eq_getElem?_getD] <;> omega) | decide)) Try.func56 rfl (by decide) [3] [2] (l := [(.tmp 8, ownV 2 kU8 0 (([] : List UInt8) ++ intB e.f_Signer).length), (.tmp 10, slV te false kU8 e.f_Body)]) [(2, .live (arrK 5 kU8 (([] : List UInt8) ++ intB e.f_Signer)))] rfl 0 1 rfl rfl rfl rfl rfl rfl rfl rfl rfl ⟨.inr (.inl ⟨rfl, (fun h => by cases h), rfl, rfl, by simp, 5, (([] : List UInt8) ++ intB e.f_Signer).length, elOf kU8 (([] : List UInt8) ++ intB e.f_Signer), List.Mem.head _, by omega, fun i j => by rw [Nat.zero_add]⟩), ⟨.inl ⟨rfl, rfl⟩, trivial⟩⟩ rfl (by intro b hb; simp only [List.mem_cons, List.not_mem_nil, or_false] at hb; rcases hb with rfl; exact ⟨_, List.Mem.head _⟩) (.inr ⟨trivial, (And.intro (arr_nt kU8_nt) trivial)⟩) (lt_of rfl) trivial)] (by kernel_rfl) (by kernel_rfl) (by kernel_rfl) (by kernel_rfl) (by kernel_rfl) (by kernel_rfl) ?_
  refine nT ?_
  refine T.seq ?_
  refine xD [[], [], [1], [0, 1, 2], [], [4], [0, 1, 2, 3, 4, 5], [0, 1, 2, 3, 4, 5, 6]] [hR 3 rfl rfl (r_call (ref01_Int true false (([] : List UInt8) ++ intB e.f_Signer ++ bytesB e.f_Body) r.f_Code (by first | assumption | omega | (unfold maxLen; omega) | (simp [maxLen, -List.getD_eq_getElem?_getD] <;> omega) | decide)) Try.func57 rfl (by decide) [4] [3] (l := [(.tmp 12, ownV 3 kU8 0 (([] : List UInt8) ++ intB e.f_Signer ++ bytesB e.f_Body).length), (.tmp 14, dv (.int .i64 r.f_Code))]) [(3, .live (arrK 5 kU8 (([] : List UInt8) ++ intB e.f_Signer ++ bytesB e.f_Body)))] rfl 0 1 rfl rfl rfl rfl rfl rfl rfl rfl rfl ⟨.inr (.inl ⟨rfl, (fun h => by cases h), rfl, rfl, by simp, 5, (([] : List UInt8) ++ intB e.f_Signer ++ bytesB e.f_Body).length, elOf kU8 (([] : List UInt8) ++ intB e.f_Signer ++ bytesB e.f_Body), List.Mem.head _, by omega, fun i j => by rw [Nat.zero_add]⟩), ⟨.inl ⟨rfl, rfl⟩, trivial⟩⟩ rfl (by intro b hb; simp only [List.mem_cons, List.not_mem_nil, or_false] at hb; rcases hb with rfl; exact ⟨_, List.Mem.head _⟩) (.inr ⟨trivial, (And.intro (arr_nt kU8_nt) trivial)⟩) (lt_of rfl) trivial),
    hR 6 rfl rfl (r_call (ref01_Int true false (([] : List UInt8) ++ intB e.f_Signer ++ bytesB e.f_Body ++ intB r.f_Code) r.f_Stage (by first | assumption | omega | (unfold maxLen; omega) | (simp [maxLen, -List.getD_eq_getElem?_getD] <;> omega) | decide)) Try.func57 rfl (by decide) [5] [4] (l := [(.tmp 15, ownV 4 kU8 0 (([] : List UInt8) ++ intB e.f_Signer ++ bytesB e.f_Body ++ intB r.f_Code).length), (.tmp 17, dv (.int .i64 r.f_Stage))]) [(4, .live (arrK 5 kU8 (([] : List UInt8) ++ intB e.f_Signer ++ bytesB e.f_Body ++ intB r.f_Code)))] rfl 0 1 rfl rfl rfl rfl rfl rfl rfl rfl rfl ⟨.inr (.inl ⟨rfl, (fun h => by cases h), rfl, rfl, by simp, 5, (([] : List UInt8) ++ intB e.f_Signer ++ bytesB e.f_Body ++ intB r.f_Code).length, elOf kU8 (([] : List UInt8) ++ intB e.f_Signer ++ bytesB e.f_Body ++ intB r.f_Code), List.Mem.head _, by omega, fun i j => by rw [Nat.zero_add]⟩), ⟨.inl ⟨rfl, rfl⟩, trivial⟩⟩ rfl (by intro b hb; simp only [List.mem_cons, List.not_mem_nil, or_false] at hb; rcases hb with rfl; exact ⟨_, List.Mem.head _⟩) (.inr ⟨trivial, (And.intro (arr_nt kU8_nt) trivial)⟩) (lt_of rfl) trivial)] (by kernel_rfl) (by kernel_rfl) (by kernel_rfl) (by kernel_rfl) (by kernel_rfl) (by kernel_rfl) ?_
  refine nT ?_
  refine T.ret ?_
  exact tE (.inl rfl) [.t 4 (.one (.own 5 kU8.sz 0 (([] : List UInt8) ++ intB e.f_Signer ++ bytesB e.f_Body ++ intB r.f_Code ++ intB r.f_Stage).length))] ⟨⟨rfl, by kernel_rfl⟩, trivial⟩ [5] (by have e1 : ((leafB e r).length : Nat) = (([] : List UInt8) ++ intB e.f_Signer ++ bytesB e.f_Body ++ intB r.f_Code ++ intB r.f_Stage).length := (by first | rfl | (simp [leafB]; done)); have hE := congrArg (fun (q1 : Nat) => (ownV 5 kU8 0 q1 : AV)) e1; exact hE) rfl rfl rfl rfl rfl ⟨⟨rfl, (by have e1 : (([] : List UInt8) ++ intB e.f_Signer ++ bytesB e.f_Body ++ intB r.f_Code ++ intB r.f_Stage : List UInt8) = leafB e r := (by first | rfl | (simp [leafB]; done)); have hE := congrArg (fun (q1 : List UInt8) => (.live (arrK 5 kU8 q1) : HS)) e1; exact Eq.trans (by kernel_rfl) hE)⟩, trivial⟩
end Go.Proofs.Ytdclfhahcfefeaa.Q
namespace Go.Proofs.Ytdclfhahcfefeaa.Q
open Go Go.RowKit
set_option linter.unusedVariables false
set_option linter.unusedSimpArgs false
set_option maxRecDepth 100000
set_option maxHeartbeats 4000000
theorem fld_33_0 : FieldAt Try.prog 33 0 0 := ⟨_, _, _, Try.underlying33, rfl, iat_3, by decide, rfl⟩
theorem iat_30 : Try.prog.info? 30 = some Try.t30 := by kernel_rfl
theorem fld_33_2 : FieldAt Try.prog 33 2 2 := ⟨_, _, _, Try.underlying33, rfl, iat_30, by decide, rfl⟩
theorem wide_30 : Wide Try.prog 30 none := ⟨_, Try.underlying30, (fun _ h => by cases h), (fun _ _ h => by cases h)⟩
theorem iat_31 : Try.prog.info? 31 = some Try.t31 := by kernel_rfl
theorem fld_33_3 : FieldAt Try.prog 33 3 3 := ⟨_, _, _, Try.underlying33, rfl, iat_31, by decide, rfl⟩
theorem wide_31 : Wide Try.prog 31 none := ⟨_, Try.underlying31, (fun _ h => by cases h), (fun _ _ h => by cases h)⟩
-- quaestor/block.Check
theorem block_Check (tb_ : Bool) (b : api_Block) (hq : b.f_Requests.length ≤ 9223372036854775807) (hr : b.f_Results.length ≤ 9223372036854775807) : Holds Try.prog 40 ⟨[.tv (.agg [.d (.val (.int .i64 b.f_Height)), .d (.val (strV b.f_Prev)), .d (dsl tb_ false (k_api_Envelope tb_) b.f_Requests), .d (dsl tb_ false (k_api_Result tb_) b.f_Results)])], [], dv (.int .i64 (chkB b)), []⟩ := by
  refine Holds.of Try.func40 rfl (N := 26) Try.ntmps40 rfl fun w0 B0 S0 U0 => ?_
  show T _ (mkBase 26 0 w0 S0 U0 B0) ⟨[.tv (.agg [.d (.val (.int .i64 b.f_Height)), .d (.val (strV b.f_Prev)), .d (dsl tb_ false (k_api_Envelope tb_) b.f_Requests), .d (dsl tb_ false (k_api_Result tb_) b.f_Results)])], []⟩ _ _
  refine T.seq ?_
  refine xR [] (by kernel_rfl) (by kernel_rfl) ?_
  refine nT ?_
  refine T.seq ?_
  refine T.block ?_
  refine T.seq ?_
  by_cases hq1 : b.f_Height < 1
  · refine xR [hN 4 false (decide_eq_true hq1),
      hN 5 false (decide_eq_true hq1),
      hN 6 false (decide_eq_true hq1),
      hP 7 (decide_eq_true hq1)] (by kernel_rfl) (by kernel_rfl) ?_
    refine nT ?_
    refine T.condT (b := true) (by kernel_rfl) rfl ?_
    refine T.seq ?_
    refine xR [] (by kernel_rfl) (by kernel_rfl) ?_
    refine nT ?_
    refine T.ret ?_
    refine rB ?_
    refine rT ?_
    exact tE (.inl rfl) [.t 2 (.one (.d (.val (.int .i64 100))))] ⟨⟨rfl, by kernel_rfl⟩, trivial⟩ [] (by have e1 : ((chkB b) : Int) = 100 := (by first | rfl | (unfold chkB; first | rw [if_pos (by omega)] | (rw [if_neg (by omega)]; first | rw [if_pos (by omega)] | rw [if_neg (by omega)]))); have hE := congrArg (fun (q1 : Int) => (dv (.int .i64 q1) : AV)) e1; exact hE) rfl rfl rfl rfl rfl trivial
  · refine xR [hY 4 (decide_eq_false hq1),
      hY 5 (decide_eq_false hq1),
      hY 6 (decide_eq_false hq1),
      hP 7 (decide_eq_false hq1)] (by kernel_rfl) (by kernel_rfl) ?_
    refine nT ?_
    by_cases hq2 : b.f_Height > 1099511627776
    · refine T.condT (by kernel_rfl) (decide_eq_true hq2) ?_
      refine T.seq ?_
      refine xR [] (by kernel_rfl) (by kernel_rfl) ?_
      refine nT ?_
      refine T.ret ?_
      refine rB ?_
      refine rT ?_
      exact tE (.inl rfl) [.t 2 (.one (.d (.val (.int .i64 100))))] ⟨⟨rfl, by kernel_rfl⟩, trivial⟩ [] (by have e1 : ((chkB b) : Int) = 100 := (by first | rfl | (unfold chkB; first | rw [if_pos (by omega)] | (rw [if_neg (by omega)]; first | rw [if_pos (by omega)] | rw [if_neg (by omega)]))); have hE := congrArg (fun (q1 : Int) => (dv (.int .i64 q1) : AV)) e1; exact hE) rfl rfl rfl rfl rfl trivial
    · refine T.condF (by kernel_rfl) (decide_eq_false hq2) ?_
      refine T.seq ?_
      by_cases hq3 : ((b.f_Requests.length : Nat) : Int) ≠ ((b.f_Results.length : Nat) : Int)
      · refine xR [hN 8 false (decide_eq_true hq3),
          hN 9 false (decide_eq_true hq3),
          hN 10 false (decide_eq_true hq3),
          hN 11 false (decide_eq_true hq3),
          hP 12 (decide_eq_true hq3)] (by kernel_rfl) (by kernel_rfl) ?_
        refine nT ?_
        refine T.condT (b := true) (by kernel_rfl) rfl ?_
        refine T.seq ?_
        refine xR [] (by kernel_rfl) (by kernel_rfl) ?_
        refine nT ?_
        refine T.ret ?_
        refine rB ?_
        refine rT ?_
        exact tE (.inl rfl) [.t 2 (.one (.d (.val (.int .i64 102))))] ⟨⟨rfl, by kernel_rfl⟩, trivial⟩ [] (by have e1 : ((chkB b) : Int) = 102 := (by first | rfl | (unfold chkB; first | rw [if_pos (by omega)] | (rw [if_neg (by omega)]; first | rw [if_pos (by omega)] | rw [if_neg (by omega)]))); have hE := congrArg (fun (q1 : Int) => (dv (.int .i64 q1) : AV)) e1; exact hE) rfl rfl rfl rfl rfl trivial
      · refine xR [hY 8 (decide_eq_false hq3),
          hY 9 (decide_eq_false hq3),
          hY 10 (decide_eq_false hq3),
          hY 11 (decide_eq_false hq3),
          hP 12 (decide_eq_false hq3)] (by kernel_rfl) (by kernel_rfl) ?_
        refine nT ?_
        by_cases hq4 : ((b.f_Results.length : Nat) : Int) > 4
        · refine T.condT (by kernel_rfl) (decide_eq_true hq4) ?_
          refine T.seq ?_
          refine xR [] (by kernel_rfl) (by kernel_rfl) ?_
          refine nT ?_
          refine T.ret ?_
          refine rB ?_
          refine rT ?_
          exact tE (.inl rfl) [.t 2 (.one (.d (.val (.int .i64 102))))] ⟨⟨rfl, by kernel_rfl⟩, trivial⟩ [] (by have e1 : ((chkB b) : Int) = 102 := (by first | rfl | (unfold chkB; first | rw [if_pos (by omega)] | (rw [if_neg (by omega)]; first | rw [if_pos (by omega)] | rw [if_neg (by omega)]))); have hE := congrArg (fun (q1 : Int) => (dv (.int .i64 q1) : AV)) e1; exact hE) rfl rfl rfl rfl rfl trivial
        · refine T.condF (by kernel_rfl) (decide_eq_false hq4) ?_
          refine T.skip ?_
          refine nB ?_
          refine nT ?_
          refine T.seq ?_
          refine xR [] (by kernel_rfl) (by kernel_rfl) ?_
          refine nT ?_
          refine T.ret ?_
          exact tE (.inl rfl) [.t 2 (.one (.d (.val (.int .i64 0))))] ⟨⟨rfl, by kernel_rfl⟩, trivial⟩ [] (by have e1 : ((chkB b) : Int) = 0 := (by first | rfl | (unfold chkB; first | rw [if_pos (by omega)] | (rw [if_neg (by omega)]; first | rw [if_pos (by omega)] | rw [if_neg (by omega)]))); have hE := congrArg (fun (q1 : Int) => (dv (.int .i64 q1) : AV)) e1; exact hE) rfl rfl rfl rfl rfl trivial
end Go.Proofs.Ytdclfhahcfefeaa.Q
namespace Go.Proofs.Ytdclfhahcfefeaa.Q
open Go Go.RowKit
set_option linter.unusedVariables false
set_option linter.unusedSimpArgs false
set_option maxRecDepth 100000
set_option maxHeartbeats 4000000
-- quaestor/quaestorref10.Check
theorem ref10_Check (tb_ : Bool) (b : api_Block) (hq : b.f_Requests.length ≤ 9223372036854775807) (hr : b.f_Results.length ≤ 9223372036854775807) : Holds Try.prog 63 ⟨[.tv (.agg [.d (.val (.int .i64 b.f_Height)), .d (.val (strV b.f_Prev)), .d (dsl tb_ false (k_api_Envelope tb_) b.f_Requests), .d (dsl tb_ false (k_api_Result tb_) b.f_Results)])], [], dv (.int .i64 (chkB b)), []⟩ := by
  refine Holds.of Try.func63 rfl (N := 24) Try.ntmps63 rfl fun w0 B0 S0 U0 => ?_
  show T _ (mkBase 24 0 w0 S0 U0 B0) ⟨[.tv (.agg [.d (.val (.int .i64 b.f_Height)), .d (.val (strV b.f_Prev)), .d (dsl tb_ false (k_api_Envelope tb_) b.f_Requests), .d (dsl tb_ false (k_api_Result tb_) b.f_Results)])], []⟩ _ _
  refine T.seq ?_
  refine xR [] (by kernel_rfl) (by kernel_rfl) ?_
  refine nT ?_
  refine T.seq ?_
  refine T.seq ?_
  by_cases hq1 : b.f_Height < 1
  · refine xR [hN 4 false (decide_eq_true hq1),
      hN 5 false (decide_eq_true hq1),
      hN 6 false (decide_eq_true hq1),
      hP 7 (decide_eq_true hq1)] (by kernel_rfl) (by kernel_rfl) ?_
    refine nT ?_
    refine T.condT (b := true) (by kernel_rfl) rfl ?_
    refine T.seq ?_
    refine xR [] (by kernel_rfl) (by kernel_rfl) ?_
    refine nT ?_
    refine T.ret ?_
    refine rT ?_
    exact tE (.inl rfl) [.t 2 (.one (.d (.val (.int .i64 100))))] ⟨⟨rfl, by kernel_rfl⟩, trivial⟩ [] (by have e1 : ((chkB b) : Int) = 100 := (by first | rfl | (unfold chkB; first | rw [if_pos (by omega)] | (rw [if_neg (by omega)]; first | rw [if_pos (by omega)] | rw [if_neg (by omega)]))); have hE := congrArg (fun (q1 : Int) => (dv (.int .i64 q1) : AV)) e1; exact hE) rfl rfl rfl rfl rfl trivial
  · refine xR [hY 4 (decide_eq_false hq1),
      hY 5 (decide_eq_false hq1),
      hY 6 (decide_eq_false hq1),
      hP 7 (decide_eq_false hq1)] (by kernel_rfl) (by kernel_rfl) ?_
    refine nT ?_
    by_cases hq2 : b.f_Height > 1099511627776
    · refine T.condT (by kernel_rfl) (decide_eq_true hq2) ?_
      refine T.seq ?_
      refine xR [] (by kernel_rfl) (by kernel_rfl) ?_
      refine nT ?_
      refine T.ret ?_
      refine rT ?_
      exact tE (.inl rfl) [.t 2 (.one (.d (.val (.int .i64 100))))] ⟨⟨rfl, by kernel_rfl⟩, trivial⟩ [] (by have e1 : ((chkB b) : Int) = 100 := (by first | rfl | (unfold chkB; first | rw [if_pos (by omega)] | (rw [if_neg (by omega)]; first | rw [if_pos (by omega)] | rw [if_neg (by omega)]))); have hE := congrArg (fun (q1 : Int) => (dv (.int .i64 q1) : AV)) e1; exact hE) rfl rfl rfl rfl rfl trivial
    · refine T.condF (by kernel_rfl) (decide_eq_false hq2) ?_
      refine T.skip ?_
      refine nT ?_
      refine T.seq ?_
      refine T.seq ?_
      by_cases hq3 : ((b.f_Requests.length : Nat) : Int) ≠ ((b.f_Results.length : Nat) : Int)
      · refine xR [hN 8 false (decide_eq_true hq3),
          hN 9 false (decide_eq_true hq3),
          hN 10 false (decide_eq_true hq3),
          hN 11 false (decide_eq_true hq3),
          hP 12 (decide_eq_true hq3)] (by kernel_rfl) (by kernel_rfl) ?_
        refine nT ?_
        refine T.condT (b := true) (by kernel_rfl) rfl ?_
        refine T.seq ?_
        refine xR [] (by kernel_rfl) (by kernel_rfl) ?_
        refine nT ?_
        refine T.ret ?_
        refine rT ?_
        exact tE (.inl rfl) [.t 2 (.one (.d (.val (.int .i64 102))))] ⟨⟨rfl, by kernel_rfl⟩, trivial⟩ [] (by have e1 : ((chkB b) : Int) = 102 := (by first | rfl | (unfold chkB; first | rw [if_pos (by omega)] | (rw [if_neg (by omega)]; first | rw [if_pos (by omega)] | rw [if_neg (by omega)]))); have hE := congrArg (fun (q1 : Int) => (dv (.int .i64 q1) : AV)) e1; exact hE) rfl rfl rfl rfl rfl trivial
      · refine xR [hY 8 (decide_eq_false hq3),
          hY 9 (decide_eq_false hq3),
          hY 10 (decide_eq_false hq3),
          hY 11 (decide_eq_false hq3),
          hP 12 (decide_eq_false hq3)] (by kernel_rfl) (by kernel_rfl) ?_
        refine nT ?_
        by_cases hq4 : ((b.f_Requests.length : Nat) : Int) > 4
        · refine T.condT (by kernel_rfl) (decide_eq_true hq4) ?_
          refine T.seq ?_
          refine xR [] (by kernel_rfl) (by kernel_rfl) ?_
          refine nT ?_
          refine T.ret ?_
          refine rT ?_
          exact tE (.inl rfl) [.t 2 (.one (.d (.val (.int .i64 102))))] ⟨⟨rfl, by kernel_rfl⟩, trivial⟩ [] (by have e1 : ((chkB b) : Int) = 102 := (by first | rfl | (unfold chkB; first | rw [if_pos (by omega)] | (rw [if_neg (by omega)]; first | rw [if_pos (by omega)] | rw [if_neg (by omega)]))); have hE := congrArg (fun (q1 : Int) => (dv (.int .i64 q1) : AV)) e1; exact hE) rfl rfl rfl rfl rfl trivial
        · refine T.condF (by kernel_rfl) (decide_eq_false hq4) ?_
          refine T.skip ?_
          refine nT ?_
          refine T.seq ?_
          refine xR [] (by kernel_rfl) (by kernel_rfl) ?_
          refine nT ?_
          refine T.ret ?_
          exact tE (.inl rfl) [.t 2 (.one (.d (.val (.int .i64 0))))] ⟨⟨rfl, by kernel_rfl⟩, trivial⟩ [] (by have e1 : ((chkB b) : Int) = 0 := (by first | rfl | (unfold chkB; first | rw [if_pos (by omega)] | (rw [if_neg (by omega)]; first | rw [if_pos (by omega)] | rw [if_neg (by omega)]))); have hE := congrArg (fun (q1 : Int) => (dv (.int .i64 q1) : AV)) e1; exact hE) rfl rfl rfl rfl rfl trivial
end Go.Proofs.Ytdclfhahcfefeaa.Q
namespace Go.Proofs.Ytdclfhahcfefeaa.Q
open Go Go.RowKit
set_option linter.unusedVariables false
set_option linter.unusedSimpArgs false
set_option maxRecDepth 100000
set_option maxHeartbeats 4000000
theorem elem_101 : Elem Try.prog 101 58 1 24 := ⟨Try.underlying101, _, _, iat_58, rfl, rfl, rfl, rfl, by decide⟩
theorem iat_78 : Try.prog.info? 78 = some Try.t78 := by kernel_rfl
theorem wide_78 : Wide Try.prog 78 (some 2) := ⟨_, _, Try.underlying78, .inl ⟨_, rfl⟩, iat_78, rfl⟩
theorem iat_88 : Try.prog.info? 88 = some Try.t88 := by kernel_rfl
theorem wide_88 : Wide Try.prog 88 (some 2) := ⟨_, _, Try.underlying88, .inl ⟨_, rfl⟩, iat_88, rfl⟩
theorem cells_58 : Cells Try.prog 58 1 := ⟨_, iat_58, rfl⟩
-- quaestor/block.leaves
theorem block_leaves (tb_ : Bool) (b : api_Block) (hf : fewW b) : Holds Try.prog 69 ⟨[.tv (.agg [.d (.val (.int .i64 b.f_Height)), .d (.val (strV b.f_Prev)), .d (dsl tb_ false (k_api_Envelope tb_) b.f_Requests), .d (dsl tb_ false (k_api_Result tb_) b.f_Results)])], [], ownV 0 (kSl false kU8) 0 (leavesB b).length, [.live (arrK 58 (kSl false kU8) (leavesB b))]⟩ := by
  refine Holds.of Try.func69 rfl (N := 34) Try.ntmps69 rfl fun w0 B0 S0 U0 => ?_
  show T _ (mkBase 34 0 w0 S0 U0 B0) ⟨[.tv (.agg [.d (.val (.int .i64 b.f_Height)), .d (.val (strV b.f_Prev)), .d (dsl tb_ false (k_api_Envelope tb_) b.f_Requests), .d (dsl tb_ false (k_api_Result tb_) b.f_Results)])], []⟩ _ _
  have hf1 := hf.1.1
  have hf2 := hf.2.1
  have hf3 := hf.2.2
  have hll := leaves_len b
  have hfl := few_leavesW hf
  refine T.seq ?_
  refine xR [] (by kernel_rfl) (by kernel_rfl) ?_
  refine nT ?_
  refine T.seq ?_
  refine xR [hR 6 rfl rfl (r_minN (k := .i64) (a := b.f_Requests.length) (b := b.f_Results.length) (lt_of rfl) trivial),
    hR 7 rfl rfl (q_makeW 1 58 24 (kSl false kU8) (fillL [] (leavesB b) 0) (min b.f_Requests.length b.f_Results.length) (min b.f_Requests.length b.f_Results.length) (p := ((min b.f_Requests.length b.f_Results.length : Nat) : Int)) (q := ((min b.f_Requests.length b.f_Results.length : Nat) : Int)) elem_101 zero_58 rfl rfl (by first | assumption | omega | (unfold maxLen; omega) | (simp [maxLen, -List.getD_eq_getElem?_getD] <;> omega) | decide) (by first | assumption | omega | (unfold maxLen; omega) | (simp [maxLen, -List.getD_eq_getElem?_getD] <;> omega) | decide) (by first | assumption | omega | (unfold maxLen; omega) | (simp [maxLen, -List.getD_eq_getElem?_getD] <;> omega) | decide) (by intro j hj; replace hj : j < 1 := hj; rcases j with _ | j <;> first | exact .inl rfl | exact .inr ⟨rfl, rfl, rfl⟩ | omega) (by first | (rw [fill_0, hll]; rfl) | (rw [fill_0, hll]; simp; done)) (lt_of rfl) trivial)] (by kernel_rfl) (by kernel_rfl) ?_
  refine nT ?_
  refine T.seq ?_
  refine T.seq ?_
  refine xR [] (by kernel_rfl) (by kernel_rfl) ?_
  refine nT ?_
  refine T.block ?_
  refine T.loop (ι := Nat) (fun (k : Nat) => ⟨[aa, pv 0 0, aa, ownV 1 (kSl false kU8) 0 (fillL [] (leavesB b) k).length, aa, aa, aa, aa, aa, aa, aa, aa, aa, aa, dv (.int .i64 (((leavesB b).length : Nat) : Int)), dv (.int .i64 ((k : Nat) : Int))], [.live (.box 33 [.d (.val (.int .i64 b.f_Height)), .d (.val (strV b.f_Prev)), .d (dsl tb_ false (k_api_Envelope tb_) b.f_Requests), .d (dsl tb_ false (k_api_Result tb_) b.f_Results)]), .live (arrK 58 (kSl false kU8) (fillL [] (leavesB b) k))]⟩) (fun (k : Nat) => (k ≤ (leavesB b).length)) (fun (k : Nat) => (leavesB b).length - k) (0) (Nat.zero_le _) (fun _ _ hG => Gs.into2 (s' := ⟨[aa, pv 0 0, aa, ownV 1 (kSl false kU8) 0 (fillL [] (leavesB b) 0).length, aa, aa, aa, aa, aa, aa, aa, aa, aa, aa, dv (.int .i64 (((leavesB b).length : Nat) : Int)), dv (.int .i64 0)], [.live (.box 33 [.d (.val (.int .i64 b.f_Height)), .d (.val (strV b.f_Prev)), .d (dsl tb_ false (k_api_Envelope tb_) b.f_Requests), .d (dsl tb_ false (k_api_Result tb_) b.f_Results)]), .live (arrK 58 (kSl false kU8) (fillL [] (leavesB b) 0))]⟩) [0, 1] (bm 16 49162) (t1 := [aa, pv 0 0, aa, ownV 1 (kSl false kU8) 0 (fillL [] (leavesB b) 0).length, aa, aa, aa, aa, aa, aa, aa, aa, aa, aa, dv (.int .i64 (((leavesB b).length : Nat) : Int)), dv (.int .i64 0)]) (t2 := [aa, pv 0 0, aa, ownV 1 (kSl false kU8) 0 (fillL [] (leavesB b) 0).length, aa, aa, aa, aa, aa, aa, aa, aa, aa, aa, dv (.int .i64 (((fillL [] (leavesB b) 0).length : Nat) : Int)), dv (.int .i64 0)]) (h1 := [.live (.box 33 [.d (.val (.int .i64 b.f_Height)), .d (.val (strV b.f_Prev)), .d (dsl tb_ false (k_api_Envelope tb_) b.f_Requests), .d (dsl tb_ false (k_api_Result tb_) b.f_Results)]), .live (arrK 58 (kSl false kU8) (fillL [] (leavesB b) 0))]) (by have e1 : ((((leavesB b).length : Nat) : Int) : Int) = (((fillL [] (leavesB b) 0).length : Nat) : Int) := (by first | rfl | (simp only [fill_len]; first | done | rfl | omega)); have hE := congrArg (fun (q1 : Int) => ([aa, pv 0 0, aa, ownV 1 (kSl false kU8) 0 (fillL [] (leavesB b) 0).length, aa, aa, aa, aa, aa, aa, aa, aa, aa, aa, dv (.int .i64 q1), dv (.int .i64 0)] : List AV)) e1; exact hE) rfl (by kernel_rfl) (by kernel_rfl) (by kernel_rfl) (by kernel_rfl) (by kernel_rfl) (by kernel_rfl) (by kernel_rfl) (by kernel_rfl) (by kernel_rfl) (by kernel_rfl) (by kernel_rfl) hG) ?_
  rintro k hk
  show T _ _ ⟨[aa, pv 0 0, aa, ownV 1 (kSl false kU8) 0 (fillL [] (leavesB b) k).length, aa, aa, aa, aa, aa, aa, aa, aa, aa, aa, dv (.int .i64 (((leavesB b).length : Nat) : Int)), dv (.int .i64 ((k : Nat) : Int))], [.live (.box 33 [.d (.val (.int .i64 b.f_Height)), .d (.val (strV b.f_Prev)), .d (dsl tb_ false (k_api_Envelope tb_) b.f_Requests), .d (dsl tb_ false (k_api_Result tb_) b.f_Results)]), .live (arrK 58 (kSl false kU8) (fillL [] (leavesB b) k))]⟩ _ _
  replace hk : k ≤ (leavesB b).length := hk
  have hf1 := hf.1.1
  have hf2 := hf.2.1
  have hf3 := hf.2.2
  have hll := leaves_len b
  have hfl := few_leavesW hf
  have hbk : (b.f_Requests.getD k z_api_Envelope).f_Body.length ≤ 20000 := fewG_get (sz := szE) hf.1 (by decide) k
  have hfk := fill_len ([] : List UInt8) (leavesB b) k
  refine T.seq ?_
  refine xR [] (by kernel_rfl) (by kernel_rfl) ?_
  refine nT ?_
  refine T.seq ?_
  by_cases hq1 : ((k : Nat) : Int) < (((leavesB b).length : Nat) : Int)
  · refine T.condT (by kernel_rfl) (decide_eq_true hq1) ?_
    refine T.skip ?_
    refine nT ?_
    refine T.seq ?_
    refine T.block ?_
    refine T.seq ?_
    refine xR [] (by kernel_rfl) (by kernel_rfl) ?_
    refine nT ?_
    refine xD [[], [], [], [2], [], [2, 3, 4], [2, 3, 4, 5], [], [7], [], [7, 8, 9], [7, 8, 9, 10], [2, 3, 4, 5, 6, 7, 8, 9, 10, 11], [0, 1, 2, 3, 4, 5, 6, 7, 8, 9, 10, 11, 12], [0, 1, 2, 3, 4, 5, 6, 7, 8, 9, 10, 11, 12, 13]] [hR 5 rfl rfl (q_index tb_ false (k_api_Envelope tb_) b.f_Requests k (k := .i64) (i := ((k : Nat) : Int)) Try.underlying30 iat_78 rfl rfl (by first | assumption | omega | (unfold maxLen; omega) | (simp [maxLen, -List.getD_eq_getElem?_getD] <;> omega) | decide) (lt_of rfl) trivial),
      hR 10 rfl rfl (q_index tb_ false (k_api_Result tb_) b.f_Results k (k := .i64) (i := ((k : Nat) : Int)) Try.underlying31 iat_88 rfl rfl (by first | assumption | omega | (unfold maxLen; omega) | (simp [maxLen, -List.getD_eq_getElem?_getD] <;> omega) | decide) (lt_of rfl) trivial),
      hR 12 rfl rfl (r_call (block_Leaf tb_ (b.f_Requests.getD k z_api_Envelope) (b.f_Results.getD k z_api_Result) (by first | assumption | omega | (unfold maxLen; omega) | (simp [maxLen, -List.getD_eq_getElem?_getD] <;> omega) | decide)) Try.func84 rfl (by decide) [2] [] (l := [(.tmp 24, .tv (.agg [.d (.val (.int .i64 (b.f_Requests.getD k z_api_Envelope).f_Signer)), .d (dsl tb_ false kU8 (b.f_Requests.getD k z_api_Envelope).f_Body)])), (.tmp 29, .tv (.agg [.d (.val (.int .i64 (b.f_Results.getD k z_api_Result).f_Code)), .d (.val (.int .i64 (b.f_Results.getD k z_api_Result).f_Stage))]))]) [] rfl 0 1 rfl rfl rfl rfl rfl rfl rfl rfl rfl ⟨⟨.inl ⟨rfl, rfl⟩, ⟨.inl ⟨rfl, rfl⟩, trivial⟩⟩, ⟨⟨.inl ⟨rfl, rfl⟩, ⟨.inl ⟨rfl, rfl⟩, trivial⟩⟩, trivial⟩⟩ rfl (fun b hb => by cases hb) (.inl rfl) (lt_of rfl) trivial),
      hR 13 rfl rfl (r_indexO (k := .i64) (l := 1) (sz := (kSl false kU8).sz) (off := 0) (n := (fillL [] (leavesB b) k).length) (i := ((k : Nat) : Int)) (m := k) (o' := k * (kSl false kU8).sz + 0) Try.underlying101 iat_58 rfl rfl (by first | assumption | omega | (unfold maxLen; omega) | (simp [maxLen, -List.getD_eq_getElem?_getD] <;> omega) | decide) (by first | rfl | simp) (lt_of rfl) trivial),
      hR 14 rfl rfl (ORule.frz 1 30 2 5 kU8 (leafB (b.f_Requests.getD k z_api_Envelope) (b.f_Results.getD k z_api_Result)) (av := ownV 2 kU8 0 (leafB (b.f_Requests.getD k z_api_Envelope) (b.f_Results.getD k z_api_Result)).length) (q_storeA 1 58 (kSl false kU8) (fillL [] (leavesB b) k) (leafB (b.f_Requests.getD k z_api_Envelope) (b.f_Results.getD k z_api_Result)) k 0 1 [dsl false false kU8 (leafB (b.f_Requests.getD k z_api_Envelope) (b.f_Results.getD k z_api_Result))] (tv := .one (.d (dsl false false kU8 (leafB (b.f_Requests.getD k z_api_Envelope) (b.f_Results.getD k z_api_Result))))) (off := k * (kSl false kU8).sz + 0) cells_58 ⟨(.inl rfl), trivial⟩ rfl rfl (by first | assumption | omega | (unfold maxLen; omega) | (simp [maxLen, -List.getD_eq_getElem?_getD] <;> omega) | decide) (by decide) rfl (by intro j hj; replace hj : j < 1 := hj; rcases j with _ | j <;> first | rfl | omega) trivial) rfl (.inr (.inr ⟨rfl, rfl, rfl, (fun h => by cases h), rfl, rfl, by omega, fun i j _ => by rw [Nat.zero_add]⟩)) (by intro h; cases h) rfl rfl)] (by kernel_rfl) (by kernel_rfl) (by kernel_rfl) (by kernel_rfl) (by kernel_rfl) (by kernel_rfl) ?_
    refine nB ?_
    refine nT ?_
    refine xR [hR 0 rfl rfl (r_bin (u1 := .int .i64 ((k : Nat) : Int)) (u2 := .int .i64 1) (v := .int .i64 ((k + 1 : Nat) : Int)) (b_add (by rw [IntKind.wrap_i64]; omega)) (lt_of rfl) ⟨rfl, trivial⟩)] (by kernel_rfl) (by kernel_rfl) ?_
    refine Ends.turn (s' := ⟨[aa, pv 0 0, aa, ownV 1 (kSl false kU8) 0 (fillL [] (leavesB b) k).length, dv (.int .i64 ((k : Nat) : Int)), aa, aa, aa, aa, aa, aa, aa, aa, aa, dv (.int .i64 (((leavesB b).length : Nat) : Int)), dv (.int .i64 ((k + 1 : Nat) : Int)), dv (.bool (decide (((k : Nat) : Int) < (((leavesB b).length : Nat) : Int))))], [.live (.box 33 [.d (.val (.int .i64 b.f_Height)), .d (.val (strV b.f_Prev)), .d (dsl tb_ false (k_api_Envelope tb_) b.f_Requests), .d (dsl tb_ false (k_api_Result tb_) b.f_Results)]), .live (arrK 58 (kSl false kU8) ((fillL [] (leavesB b) k).set k (leafB (b.f_Requests.getD k z_api_Envelope) (b.f_Results.getD k z_api_Result)))), .dead]⟩) (fun _ _ hG => Gs.norm (by kernel_rfl) hG) ?_
    refine Ends.turn (s' := ⟨[aa, pv 0 0, aa, ownV 1 (kSl false kU8) 0 (fillL [] (leavesB b) k).length, dv (.int .i64 ((k : Nat) : Int)), aa, aa, aa, aa, aa, aa, aa, aa, aa, dv (.int .i64 (((leavesB b).length : Nat) : Int)), dv (.int .i64 ((k + 1 : Nat) : Int)), dv (.bool (decide (((k : Nat) : Int) < (((leavesB b).length : Nat) : Int))))], [.live (.box 33 [.d (.val (.int .i64 b.f_Height)), .d (.val (strV b.f_Prev)), .d (dsl tb_ false (k_api_Envelope tb_) b.f_Requests), .d (dsl tb_ false (k_api_Result tb_) b.f_Results)]), .live (arrK 58 (kSl false kU8) (((fillL [] (leavesB b) k).set k (leafB (b.f_Requests.getD k z_api_Envelope) (b.f_Results.getD k z_api_Result))).take (fillL [] (leavesB b) k).length)), .dead]⟩) (fun _ _ hG => Gs.trunc 1 58 (kSl false kU8) ((fillL [] (leavesB b) k).set k (leafB (b.f_Requests.getD k z_api_Envelope) (b.f_Results.getD k z_api_Result))) (((fillL [] (leavesB b) k).set k (leafB (b.f_Requests.getD k z_api_Envelope) (b.f_Results.getD k z_api_Result))).take (fillL [] (leavesB b) k).length) (fillL [] (leavesB b) k).length rfl rfl hG) ?_
    refine nL (k + 1) (show (k + 1) ≤ (leavesB b).length from (by omega)) (show ((leavesB b).length - (k + 1) : Nat) < (leavesB b).length - k from (by omega)) (fun _ _ hG => Gs.into2 (s' := ⟨[aa, pv 0 0, aa, ownV 1 (kSl false kU8) 0 (fillL [] (leavesB b) (k + 1)).length, aa, aa, aa, aa, aa, aa, aa, aa, aa, aa, dv (.int .i64 (((leavesB b).length : Nat) : Int)), dv (.int .i64 ((k + 1 : Nat) : Int))], [.live (.box 33 [.d (.val (.int .i64 b.f_Height)), .d (.val (strV b.f_Prev)), .d (dsl tb_ false (k_api_Envelope tb_) b.f_Requests), .d (dsl tb_ false (k_api_Result tb_) b.f_Results)]), .live (arrK 58 (kSl false kU8) (fillL [] (leavesB b) (k + 1)))]⟩) [0, 1] (bm 16 49162) (t1 := [aa, pv 0 0, aa, ownV 1 (kSl false kU8) 0 (fillL [] (leavesB b) (k + 1)).length, aa, aa, aa, aa, aa, aa, aa, aa, aa, aa, dv (.int .i64 (((leavesB b).length : Nat) : Int)), dv (.int .i64 ((k + 1 : Nat) : Int))]) (t2 := [aa, pv 0 0, aa, ownV 1 (kSl false kU8) 0 (fillL [] (leavesB b) k).length, aa, aa, aa, aa, aa, aa, aa, aa, aa, aa, dv (.int .i64 (((leavesB b).length : Nat) : Int)), dv (.int .i64 ((k + 1 : Nat) : Int))]) (h1 := [.live (.box 33 [.d (.val (.int .i64 b.f_Height)), .d (.val (strV b.f_Prev)), .d (dsl tb_ false (k_api_Envelope tb_) b.f_Requests), .d (dsl tb_ false (k_api_Result tb_) b.f_Results)]), .live (arrK 58 (kSl false kU8) (fillL [] (leavesB b) (k + 1)))]) (h2 := [.live (.box 33 [.d (.val (.int .i64 b.f_Height)), .d (.val (strV b.f_Prev)), .d (dsl tb_ false (k_api_Envelope tb_) b.f_Requests), .d (dsl tb_ false (k_api_Result tb_) b.f_Results)]), .live (arrK 58 (kSl false kU8) (((fillL [] (leavesB b) k).set k (leafB (b.f_Requests.getD k z_api_Envelope) (b.f_Results.getD k z_api_Result))).take (fillL [] (leavesB b) k).length))]) (by have e1 : ((fillL [] (leavesB b) (k + 1)).length : Nat) = (fillL [] (leavesB b) k).length := (by first | rfl | (rw [← leaves_get (by omega) (by omega), fill_set (by omega), List.take_of_length_le (by simp only [fill_len]; omega)]) | (simp only [fill_len, List.length_set])); have hE := congrArg (fun (q1 : Nat) => ([aa, pv 0 0, aa, ownV 1 (kSl false kU8) 0 q1, aa, aa, aa, aa, aa, aa, aa, aa, aa, aa, dv (.int .i64 (((leavesB b).length : Nat) : Int)), dv (.int .i64 ((k + 1 : Nat) : Int))] : List AV)) e1; exact hE) (by have e1 : ((fillL [] (leavesB b) (k + 1)) : List (List UInt8)) = (((fillL [] (leavesB b) k).set k (leafB (b.f_Requests.getD k z_api_Envelope) (b.f_Results.getD k z_api_Result))).take (fillL [] (leavesB b) k).length) := (by first | rfl | (rw [← leaves_get (by omega) (by omega), fill_set (by omega), List.take_of_length_le (by simp only [fill_len]; omega)]) | (simp only [fill_len, List.length_set])); have hE := congrArg (fun (q1 : List (List UInt8)) => ([.live (.box 33 [.d (.val (.int .i64 b.f_Height)), .d (.val (strV b.f_Prev)), .d (dsl tb_ false (k_api_Envelope tb_) b.f_Requests), .d (dsl tb_ false (k_api_Result tb_) b.f_Results)]), .live (arrK 58 (kSl false kU8) q1)] : List HS)) e1; exact hE) (by kernel_rfl) (by kernel_rfl) (by kernel_rfl) (by kernel_rfl) (by kernel_rfl) (by kernel_rfl) (by kernel_rfl) (by kernel_rfl) (by kernel_rfl) (by kernel_rfl) (by kernel_rfl) hG)
  · refine T.condF (by kernel_rfl) (decide_eq_false hq1) ?_
    refine T.exit ?_
    refine xT ?_
    refine xT ?_
    refine xH ?_
    refine nT ?_
    refine T.seq ?_
    refine xR [] (by kernel_rfl) (by kernel_rfl) ?_
    refine nT ?_
    refine T.ret ?_
    exact tE (.inl rfl) [.t 2 (.one (.own 1 (kSl false kU8).sz 0 (fillL [] (leavesB b) k).length))] ⟨⟨rfl, by kernel_rfl⟩, trivial⟩ [1] (by have e1 : ((leavesB b).length : Nat) = (fillL [] (leavesB b) k).length := (by first | rfl | (rw [fill_end (by omega)])); have hE := congrArg (fun (q1 : Nat) => (ownV 1 (kSl false kU8) 0 q1 : AV)) e1; exact hE) rfl rfl rfl rfl rfl ⟨⟨rfl, (by have e1 : ((fillL [] (leavesB b) k) : List (List UInt8)) = (leavesB b) := (by first | rfl | (rw [fill_end (by omega)])); have hE := congrArg (fun (q1 : List (List UInt8)) => (.live (arrK 58 (kSl false kU8) q1) : HS)) e1; exact Eq.trans (by kernel_rfl) hE)⟩, trivial⟩
end Go.Proofs.Ytdclfhahcfefeaa.Q
namespace Go.Proofs.Ytdclfhahcfefeaa.Q
open Go Go.RowKit
set_option linter.unusedVariables false
set_option linter.unusedSimpArgs false
set_option maxRecDepth 100000
set_option maxHeartbeats 4000000
-- quaestor/quaestorref10.leaves
theorem ref10_leaves (tb_ : Bool) (b : api_Block) (hf : fewW b) : Holds Try.prog 89 ⟨[.tv (.agg [.d (.val (.int .i64 b.f_Height)), .d (.val (strV b.f_Prev)), .d (dsl tb_ false (k_api_Envelope tb_) b.f_Requests), .d (dsl tb_ false (k_api_Result tb_) b.f_Results)])], [], ownV 0 (kSl false kU8) 0 (leavesB b).length, [.live (arrK 58 (kSl false kU8) (leavesB b))]⟩ := by
  refine Holds.of Try.func89 rfl (N := 34) Try.ntmps89 rfl fun w0 B0 S0 U0 => ?_
  show T _ (mkBase 34 0 w0 S0 U0 B0) ⟨[.tv (.agg [.d (.val (.int .i64 b.f_Height)), .d (.val (strV b.f_Prev)), .d (dsl tb_ false (k_api_Envelope tb_) b.f_Requests), .d (dsl tb_ false (k_api_Result tb_) b.f_Results)])], []⟩ _ _
  have hf1 := hf.1.1
  have hf2 := hf.2.1
  have hf3 := hf.2.2
  have hll := leaves_len b
  have hfl := few_leavesW hf
  refine T.seq ?_
  refine xR [] (by kernel_rfl) (by kernel_rfl) ?_
  refine nT ?_
  refine T.seq ?_
  refine xR [] (by kernel_rfl) (by kernel_rfl) ?_
  refine nT ?_
  refine T.seq ?_
  refine T.seq ?_
  refine xR [] (by kernel_rfl) (by kernel_rfl) ?_
  refine nT ?_
  refine T.block ?_
  refine T.turn (s' := ⟨[.tv (.agg [.d (.val (.int .i64 b.f_Height)), .d (.val (strV b.f_Prev)), .d (dsl tb_ false (k_api_Envelope tb_) b.f_Requests), .d (dsl tb_ false (k_api_Result tb_) b.f_Results)]), pv 0 0, dv (.slice none 0 0), dv (.slice none 0 0), dv (.int .i64 0)], [.live (.box 33 [.d (.val (.int .i64 b.f_Height)), .d (.val (strV b.f_Prev)), .d (dsl tb_ false (k_api_Envelope tb_) b.f_Requests), .d (dsl tb_ false (k_api_Result tb_) b.f_Results)])]⟩) (fun _ _ hG => Gs.norm (by kernel_rfl) hG) ?_
  refine T.turn (s' := ⟨[.tv (.agg [.d (.val (.int .i64 b.f_Height)), .d (.val (strV b.f_Prev)), .d (dsl tb_ false (k_api_Envelope tb_) b.f_Requests), .d (dsl tb_ false (k_api_Result tb_) b.f_Results)]), pv 0 0, dv (.slice none 0 0), ownV 1 (kSl false kU8) 0 0, dv (.int .i64 0)], [.live (.box 33 [.d (.val (.int .i64 b.f_Height)), .d (.val (strV b.f_Prev)), .d (dsl tb_ false (k_api_Envelope tb_) b.f_Requests), .d (dsl tb_ false (k_api_Result tb_) b.f_Results)]), .live (arrK 58 (kSl false kU8) ([] : List (List UInt8)))]⟩) (fun _ _ hG => Gs.absent 1 3 58 (kSl false kU8) rfl rfl hG) ?_
  refine T.loop (ι := Nat) (fun (k : Nat) => ⟨[aa, pv 0 0, aa, ownV 1 (kSl false kU8) 0 ((leavesB b).take k).length, dv (.int .i64 ((k : Nat) : Int))], [.live (.box 33 [.d (.val (.int .i64 b.f_Height)), .d (.val (strV b.f_Prev)), .d (dsl tb_ false (k_api_Envelope tb_) b.f_Requests), .d (dsl tb_ false (k_api_Result tb_) b.f_Results)]), .live (arrK 58 (kSl false kU8) ((leavesB b).take k))]⟩) (fun (k : Nat) => (k ≤ (leavesB b).length)) (fun (k : Nat) => (leavesB b).length - k) (0) (Nat.zero_le _) (fun _ _ hG => Gs.into2 (s' := ⟨[aa, pv 0 0, aa, ownV 1 (kSl false kU8) 0 ((leavesB b).take 0).length, dv (.int .i64 0)], [.live (.box 33 [.d (.val (.int .i64 b.f_Height)), .d (.val (strV b.f_Prev)), .d (dsl tb_ false (k_api_Envelope tb_) b.f_Requests), .d (dsl tb_ false (k_api_Result tb_) b.f_Results)]), .live (arrK 58 (kSl false kU8) ((leavesB b).take 0))]⟩) [0, 1] (bm 5 26) (t1 := [aa, pv 0 0, aa, ownV 1 (kSl false kU8) 0 ((leavesB b).take 0).length, dv (.int .i64 0)]) (t2 := [aa, pv 0 0, aa, ownV 1 (kSl false kU8) 0 0, dv (.int .i64 0)]) (h1 := [.live (.box 33 [.d (.val (.int .i64 b.f_Height)), .d (.val (strV b.f_Prev)), .d (dsl tb_ false (k_api_Envelope tb_) b.f_Requests), .d (dsl tb_ false (k_api_Result tb_) b.f_Results)]), .live (arrK 58 (kSl false kU8) ((leavesB b).take 0))]) (h2 := [.live (.box 33 [.d (.val (.int .i64 b.f_Height)), .d (.val (strV b.f_Prev)), .d (dsl tb_ false (k_api_Envelope tb_) b.f_Requests), .d (dsl tb_ false (k_api_Result tb_) b.f_Results)]), .live (arrK 58 (kSl false kU8) ([] : List (List UInt8)))]) (by have e1 : (((leavesB b).take 0).length : Nat) = 0 := (by first | rfl); have hE := congrArg (fun (q1 : Nat) => ([aa, pv 0 0, aa, ownV 1 (kSl false kU8) 0 q1, dv (.int .i64 0)] : List AV)) e1; exact hE) (by have e1 : (((leavesB b).take 0) : List (List UInt8)) = ([] : List (List UInt8)) := (by first | rfl); have hE := congrArg (fun (q1 : List (List UInt8)) => ([.live (.box 33 [.d (.val (.int .i64 b.f_Height)), .d (.val (strV b.f_Prev)), .d (dsl tb_ false (k_api_Envelope tb_) b.f_Requests), .d (dsl tb_ false (k_api_Result tb_) b.f_Results)]), .live (arrK 58 (kSl false kU8) q1)] : List HS)) e1; exact hE) (by kernel_rfl) (by kernel_rfl) (by kernel_rfl) (by kernel_rfl) (by kernel_rfl) (by kernel_rfl) (by kernel_rfl) (by kernel_rfl) (by kernel_rfl) (by kernel_rfl) (by kernel_rfl) hG) ?_
  rintro k hk
  show T _ _ ⟨[aa, pv 0 0, aa, ownV 1 (kSl false kU8) 0 ((leavesB b).take k).length, dv (.int .i64 ((k : Nat) : Int))], [.live (.box 33 [.d (.val (.int .i64 b.f_Height)), .d (.val (strV b.f_Prev)), .d (dsl tb_ false (k_api_Envelope tb_) b.f_Requests), .d (dsl tb_ false (k_api_Result tb_) b.f_Results)]), .live (arrK 58 (kSl false kU8) ((leavesB b).take k))]⟩ _ _
  replace hk : k ≤ (leavesB b).length := hk
  have hf1 := hf.1.1
  have hf2 := hf.2.1
  have hf3 := hf.2.2
  have hll := leaves_len b
  have hfl := few_leavesW hf
  have hbk : (b.f_Requests.getD k z_api_Envelope).f_Body.length ≤ 20000 := fewG_get (sz := szE) hf.1 (by decide) k
  refine T.seq ?_
  refine T.seq ?_
  by_cases hq1 : ((k : Nat) : Int) < ((b.f_Requests.length : Nat) : Int)
  · refine xR [hY 6 (decide_eq_true hq1),
      hY 7 (decide_eq_true hq1),
      hY 8 (decide_eq_true hq1),
      hY 9 (decide_eq_true hq1),
      hY 10 (decide_eq_true hq1),
      hP 11 (decide_eq_true hq1)] (by kernel_rfl) (by kernel_rfl) ?_
    refine nT ?_
    by_cases hq2 : ((k : Nat) : Int) < ((b.f_Results.length : Nat) : Int)
    · refine T.condT (by kernel_rfl) (decide_eq_true hq2) ?_
      refine T.skip ?_
      refine nT ?_
      refine T.seq ?_
      refine T.block ?_
      refine xD [[], [], [1], [], [1, 2, 3], [1, 2, 3, 4], [], [6], [], [6, 7, 8], [6, 7, 8, 9], [1, 2, 3, 4, 5, 6, 7, 8, 9, 10], [1, 2, 3, 4, 5, 6, 7, 8, 9, 10, 11], [0, 1, 2, 3, 4, 5, 6, 7, 8, 9, 10, 11, 12], [0, 1, 2, 3, 4, 5, 6, 7, 8, 9, 10, 11, 12, 13]] [hR 4 rfl rfl (q_index tb_ false (k_api_Envelope tb_) b.f_Requests k (k := .i64) (i := ((k : Nat) : Int)) Try.underlying30 iat_78 rfl rfl (by first | assumption | omega | (unfold maxLen; omega) | (simp [maxLen, -List.getD_eq_getElem?_getD] <;> omega) | decide) (lt_of rfl) trivial),
        hR 9 rfl rfl (q_index tb_ false (k_api_Result tb_) b.f_Results k (k := .i64) (i := ((k : Nat) : Int)) Try.underlying31 iat_88 rfl rfl (by first | assumption | omega | (unfold maxLen; omega) | (simp [maxLen, -List.getD_eq_getElem?_getD] <;> omega) | decide) (lt_of rfl) trivial),
        hR 11 rfl rfl (r_call (ref10_Leaf tb_ (b.f_Requests.getD k z_api_Envelope) (b.f_Results.getD k z_api_Result) (by first | assumption | omega | (unfold maxLen; omega) | (simp [maxLen, -List.getD_eq_getElem?_getD] <;> omega) | decide)) Try.func92 rfl (by decide) [2] [] (l := [(.tmp 24, .tv (.agg [.d (.val (.int .i64 (b.f_Requests.getD k z_api_Envelope).f_Signer)), .d (dsl tb_ false kU8 (b.f_Requests.getD k z_api_Envelope).f_Body)])), (.tmp 29, .tv (.agg [.d (.val (.int .i64 (b.f_Results.getD k z_api_Result).f_Code)), .d (.val (.int .i64 (b.f_Results.getD k z_api_Result).f_Stage))]))]) [] rfl 0 1 rfl rfl rfl rfl rfl rfl rfl rfl rfl ⟨⟨.inl ⟨rfl, rfl⟩, ⟨.inl ⟨rfl, rfl⟩, trivial⟩⟩, ⟨⟨.inl ⟨rfl, rfl⟩, ⟨.inl ⟨rfl, rfl⟩, trivial⟩⟩, trivial⟩⟩ rfl (fun b hb => by cases hb) (.inl rfl) (lt_of rfl) trivial),
        hR 12 rfl rfl (ORule.frz 0 30 2 5 kU8 (leafB (b.f_Requests.getD k z_api_Envelope) (b.f_Results.getD k z_api_Result)) (av := ownV 2 kU8 0 (leafB (b.f_Requests.getD k z_api_Envelope) (b.f_Results.getD k z_api_Result)).length) (q_buildSlice 3 58 (kSl false kU8) (kSl_ok false kU8) [leafB (b.f_Requests.getD k z_api_Envelope) (b.f_Results.getD k z_api_Result)] [⟨0, .tmp 30, .one (.d (dsl false false kU8 (leafB (b.f_Requests.getD k z_api_Envelope) (b.f_Results.getD k z_api_Result)))), 0⟩] (cs := [.d (dsl false false kU8 (leafB (b.f_Requests.getD k z_api_Envelope) (b.f_Results.getD k z_api_Result)))]) Try.underlying101 iat_58 rfl zero_58 rfl rfl rfl (Nat.le_of_ble_eq_true rfl) (part_cons rfl rfl (Nat.le_of_ble_eq_true rfl) part_ok) rfl ⟨(.inl rfl), trivial⟩ (lt_of rfl) trivial) rfl (.inr (.inr ⟨rfl, rfl, rfl, (fun h => by cases h), rfl, rfl, by omega, fun i j _ => by rw [Nat.zero_add]⟩)) (by intro h; cases h) rfl rfl),
        hR 13 rfl rfl (q_appendO 1 4 58 24 (kSl false kU8) (kSl_ok false kU8) ((leavesB b).take k) [leafB (b.f_Requests.getD k z_api_Envelope) (b.f_Results.getD k z_api_Result)] (((leavesB b).take k) ++ [leafB (b.f_Requests.getD k z_api_Envelope) (b.f_Results.getD k z_api_Result)]) ((leavesB b).take k).length (sy := (.own 3 (kSl false kU8).sz 0 [leafB (b.f_Requests.getD k z_api_Envelope) (b.f_Results.getD k z_api_Result)].length)) (rhs := [(3, .live (arrK 58 (kSl false kU8) [leafB (b.f_Requests.getD k z_api_Envelope) (b.f_Results.getD k z_api_Result)]))]) elem_101 (by first | assumption | omega | (unfold maxLen; omega) | (simp [maxLen, -List.getD_eq_getElem?_getD] <;> omega) | decide) (src_own 3 58 (kSl false kU8) [leafB (b.f_Requests.getD k z_api_Envelope) (b.f_Results.getD k z_api_Result)]) (by rw [List.take_length]) (by first | assumption | omega | (unfold maxLen; omega) | (simp [maxLen, -List.getD_eq_getElem?_getD] <;> omega) | decide) (by first | assumption | omega | (unfold maxLen; omega) | (simp [maxLen, -List.getD_eq_getElem?_getD] <;> omega) | decide) (lt_of rfl) trivial)] (by kernel_rfl) (by kernel_rfl) (by kernel_rfl) (by kernel_rfl) (by kernel_rfl) (by kernel_rfl) ?_
      refine nB ?_
      refine nT ?_
      refine xR [hR 1 rfl rfl (r_bin (u1 := .int .i64 ((k : Nat) : Int)) (u2 := .int .i64 1) (v := .int .i64 ((k + 1 : Nat) : Int)) (b_add (by rw [IntKind.wrap_i64]; omega)) (lt_of rfl) ⟨rfl, trivial⟩)] (by kernel_rfl) (by kernel_rfl) ?_
      refine nL (k + 1) (show (k + 1) ≤ (leavesB b).length from (by omega)) (show ((leavesB b).length - (k + 1) : Nat) < (leavesB b).length - k from (by omega)) (fun _ _ hG => Gs.into2 (s' := ⟨[aa, pv 0 0, aa, ownV 1 (kSl false kU8) 0 ((leavesB b).take (k + 1)).length, dv (.int .i64 ((k + 1 : Nat) : Int))], [.live (.box 33 [.d (.val (.int .i64 b.f_Height)), .d (.val (strV b.f_Prev)), .d (dsl tb_ false (k_api_Envelope tb_) b.f_Requests), .d (dsl tb_ false (k_api_Result tb_) b.f_Results)]), .live (arrK 58 (kSl false kU8) ((leavesB b).take (k + 1)))]⟩) [0, 4] (bm 5 26) (t1 := [aa, pv 0 0, aa, ownV 4 (kSl false kU8) 0 ((leavesB b).take (k + 1)).length, dv (.int .i64 ((k + 1 : Nat) : Int))]) (t2 := [aa, pv 0 0, aa, ownV 4 (kSl false kU8) 0 (((leavesB b).take k) ++ [leafB (b.f_Requests.getD k z_api_Envelope) (b.f_Results.getD k z_api_Result)]).length, dv (.int .i64 ((k + 1 : Nat) : Int))]) (h1 := [.live (.box 33 [.d (.val (.int .i64 b.f_Height)), .d (.val (strV b.f_Prev)), .d (dsl tb_ false (k_api_Envelope tb_) b.f_Requests), .d (dsl tb_ false (k_api_Result tb_) b.f_Results)]), .live (arrK 58 (kSl false kU8) ((leavesB b).take (k + 1)))]) (h2 := [.live (.box 33 [.d (.val (.int .i64 b.f_Height)), .d (.val (strV b.f_Prev)), .d (dsl tb_ false (k_api_Envelope tb_) b.f_Requests), .d (dsl tb_ false (k_api_Result tb_) b.f_Results)]), .live (arrK 58 (kSl false kU8) (((leavesB b).take k) ++ [leafB (b.f_Requests.getD k z_api_Envelope) (b.f_Results.getD k z_api_Result)]))]) (by have e1 : (((leavesB b).take (k + 1)).length : Nat) = (((leavesB b).take k) ++ [leafB (b.f_Requests.getD k z_api_Envelope) (b.f_Results.getD k z_api_Result)]).length := (by first | rfl | (rw [← leaves_get (by omega) (by omega), tk_succ (z := []) (by omega)])); have hE := congrArg (fun (q1 : Nat) => ([aa, pv 0 0, aa, ownV 4 (kSl false kU8) 0 q1, dv (.int .i64 ((k + 1 : Nat) : Int))] : List AV)) e1; exact hE) (by have e1 : (((leavesB b).take (k + 1)) : List (List UInt8)) = ((leavesB b).take k) ++ [leafB (b.f_Requests.getD k z_api_Envelope) (b.f_Results.getD k z_api_Result)] := (by first | rfl | (rw [← leaves_get (by omega) (by omega), tk_succ (z := []) (by omega)])); have hE := congrArg (fun (q1 : List (List UInt8)) => ([.live (.box 33 [.d (.val (.int .i64 b.f_Height)), .d (.val (strV b.f_Prev)), .d (dsl tb_ false (k_api_Envelope tb_) b.f_Requests), .d (dsl tb_ false (k_api_Result tb_) b.f_Results)]), .live (arrK 58 (kSl false kU8) q1)] : List HS)) e1; exact hE) (by kernel_rfl) (by kernel_rfl) (by kernel_rfl) (by kernel_rfl) (by kernel_rfl) (by kernel_rfl) (by kernel_rfl) (by kernel_rfl) (by kernel_rfl) (by kernel_rfl) (by kernel_rfl) hG)
    · refine T.condF (by kernel_rfl) (decide_eq_false hq2) ?_
      refine T.exit ?_
      refine xT ?_
      refine xT ?_
      refine xH ?_
      refine nT ?_
      refine T.seq ?_
      refine xR [] (by kernel_rfl) (by kernel_rfl) ?_
      refine nT ?_
      refine T.ret ?_
      exact tE (.inl rfl) [.t 2 (.one (.own 1 (kSl false kU8).sz 0 ((leavesB b).take k).length))] ⟨⟨rfl, by kernel_rfl⟩, trivial⟩ [1] (by have e1 : ((leavesB b).length : Nat) = ((leavesB b).take k).length := (by first | rfl | (rw [List.take_of_length_le (by omega)])); have hE := congrArg (fun (q1 : Nat) => (ownV 1 (kSl false kU8) 0 q1 : AV)) e1; exact hE) rfl rfl rfl rfl rfl ⟨⟨rfl, (by have e1 : (((leavesB b).take k) : List (List UInt8)) = (leavesB b) := (by first | rfl | (rw [List.take_of_length_le (by omega)])); have hE := congrArg (fun (q1 : List (List UInt8)) => (.live (arrK 58 (kSl false kU8) q1) : HS)) e1; exact Eq.trans (by kernel_rfl) hE)⟩, trivial⟩
  · refine xR [hN 6 true (decide_eq_false hq1),
      hN 7 true (decide_eq_false hq1),
      hN 8 true (decide_eq_false hq1),
      hN 9 true (decide_eq_false hq1),
      hN 10 true (decide_eq_false hq1),
      hP 11 (decide_eq_false hq1)] (by kernel_rfl) (by kernel_rfl) ?_
    refine nT ?_
    refine T.condF (b := false) (by kernel_rfl) rfl ?_
    refine T.exit ?_
    refine xT ?_
    refine xT ?_
    refine xH ?_
    refine nT ?_
    refine T.seq ?_
    refine xR [] (by kernel_rfl) (by kernel_rfl) ?_
    refine nT ?_
    refine T.ret ?_
    exact tE (.inl rfl) [.t 2 (.one (.own 1 (kSl false kU8).sz 0 ((leavesB b).take k).length))] ⟨⟨rfl, by kernel_rfl⟩, trivial⟩ [1] (by have e1 : ((leavesB b).length : Nat) = ((leavesB b).take k).length := (by first | rfl | (rw [List.take_of_length_le (by omega)])); have hE := congrArg (fun (q1 : Nat) => (ownV 1 (kSl false kU8) 0 q1 : AV)) e1; exact hE) rfl rfl rfl rfl rfl ⟨⟨rfl, (by have e1 : (((leavesB b).take k) : List (List UInt8)) = (leavesB b) := (by first | rfl | (rw [List.take_of_length_le (by omega)])); have hE := congrArg (fun (q1 : List (List UInt8)) => (.live (arrK 58 (kSl false kU8) q1) : HS)) e1; exact Eq.trans (by kernel_rfl) hE)⟩, trivial⟩
end Go.Proofs.Ytdclfhahcfefeaa.Q
