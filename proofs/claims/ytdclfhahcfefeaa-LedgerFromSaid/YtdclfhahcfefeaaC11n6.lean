import Derived.Test.YtdclfhahcfefeaaC11n5
namespace Go.Proofs.Ytdclfhahcfefeaa.Q
open Go Go.RowKit
set_option linter.unusedVariables false
set_option linter.unusedSimpArgs false
set_option maxRecDepth 100000
set_option maxHeartbeats 4000000
theorem fld_78_0 : FieldAt Try.prog 78 0 0 := ⟨_, _, _, Try.underlying78, rfl, iat_3, by decide, rfl⟩
theorem zero_3 : Zero Try.prog 3 [.int .i64 0] := ⟨_, _, iat_3, rfl, rfl⟩
theorem fld_78_1 : FieldAt Try.prog 78 1 1 := ⟨_, _, _, Try.underlying78, rfl, iat_58, by decide, rfl⟩
theorem iat_43 : Try.prog.info? 43 = some Try.t43 := by kernel_rfl
theorem fld_88_0 : FieldAt Try.prog 88 0 0 := ⟨_, _, _, Try.underlying88, rfl, iat_43, by decide, rfl⟩
theorem wide_43 : Wide Try.prog 43 none := ⟨_, Try.underlying43, (fun _ h => by cases h), (fun _ _ h => by cases h)⟩
theorem fld_88_1 : FieldAt Try.prog 88 1 1 := ⟨_, _, _, Try.underlying88, rfl, iat_3, by decide, rfl⟩
-- quaestor/block.Leaf
theorem block_Leaf (te : Bool) (e : api_Envelope) (r : api_Result) (hb : e.f_Body.length ≤ 100000000) : Holds Try.prog 84 ⟨[.tv (.agg [.d (.val (.int .i64 e.f_Signer)), .d (dsl te false kU8 e.f_Body)]), .tv (.agg [.d (.val (.int .i64 r.f_Code)), .d (.val (.int .i64 r.f_Stage))])], [], ownV 0 kU8 0 (leafB e r).length, [.live (arrK 5 kU8 (leafB e r))]⟩ := by
  refine Holds.of Try.func84 rfl (N := 18) Try.ntmps84 rfl fun w0 B0 S0 U0 => ?_
  show T _ (mkBase 18 0 w0 S0 U0 B0) ⟨[.tv (.agg [.d (.val (.int .i64 e.f_Signer)), .d (dsl te false kU8 e.f_Body)]), .tv (.agg [.d (.val (.int .i64 r.f_Code)), .d (.val (.int .i64 r.f_Stage))])], []⟩ _ _
  have hi1 := int_len e.f_Signer
  have hi2 : (intsB [e.f_Signer]).length = 8 := ints_len [e.f_Signer]
  have hi2n : (([] : List UInt8) ++ intsB [e.f_Signer]).length = 8 := ints_len [e.f_Signer]
  have hy := bytes_len e.f_Body
  refine T.seq ?_
  refine xR [] (by kernel_rfl) (by kernel_rfl) ?_
  refine nT ?_
  refine T.seq ?_
  refine xD [[], [0], [0, 1], [0, 1, 2], [], [4], [0, 1, 2, 3, 4, 5], [], [7], [], [9], [7, 8, 9, 10], [0, 1, 2, 3, 4, 5, 6, 7, 8, 9, 10, 11], [0, 1, 2, 3, 4, 5, 6, 7, 8, 9, 10, 11, 12]] [hR 2 rfl rfl (q_buildSlice 2 3 (kInt .i64) (kInt_ok .i64) [e.f_Signer] [⟨0, .tmp 6, .one (.d (.val (.int .i64 e.f_Signer))), 0⟩] (cs := [.d (.val (.int .i64 e.f_Signer))]) Try.underlying122 iat_3 rfl zero_3 rfl rfl rfl (Nat.le_of_ble_eq_true rfl) (part_cons rfl rfl (Nat.le_of_ble_eq_true rfl) part_ok) rfl ⟨(.inl rfl), trivial⟩ (lt_of rfl) trivial),
    hR 3 rfl rfl (r_call (block_ints false false ([] : List UInt8) true false [e.f_Signer] (by first | assumption | omega | (unfold maxLen; omega) | (simp [maxLen, -List.getD_eq_getElem?_getD] <;> omega) | decide) (by first | assumption | omega | (unfold maxLen; omega) | (simp [maxLen, -List.getD_eq_getElem?_getD] <;> omega) | decide)) Try.func68 rfl (by decide) [3] [2] (l := [(.const (.slice none 0 0), dv (.slice none 0 0)), (.tmp 7, ownV 2 (kInt .i64) 0 [e.f_Signer].length)]) [(2, .live (arrK 3 (kInt .i64) [e.f_Signer]))] rfl 0 1 rfl rfl rfl rfl rfl rfl rfl rfl rfl ⟨.inr (.inr ⟨rfl, rfl, rfl⟩), ⟨.inr (.inl ⟨rfl, (fun h => by cases h), rfl, rfl, by simp, 3, [e.f_Signer].length, elOf (kInt .i64) [e.f_Signer], List.Mem.head _, by omega, fun i j => by rw [Nat.zero_add]⟩), trivial⟩⟩ rfl (by intro b hb; simp only [List.mem_cons, List.not_mem_nil, or_false] at hb; rcases hb with rfl; exact ⟨_, List.Mem.head _⟩) (.inr ⟨trivial, (And.intro (arr_nt kU8_nt) trivial)⟩) (lt_of rfl) ⟨rfl, trivial⟩),
    hR 6 rfl rfl (r_call (wire_PutBytes true false (([] : List UInt8) ++ intsB [e.f_Signer]) te false e.f_Body (by first | assumption | omega | (unfold maxLen; omega) | (simp [maxLen, -List.getD_eq_getElem?_getD] <;> omega) | decide)) Try.func46 rfl (by decide) [4] [3] (l := [(.tmp 8, ownV 3 kU8 0 (([] : List UInt8) ++ intsB [e.f_Signer]).length), (.tmp 10, slV te false kU8 e.f_Body)]) [(3, .live (arrK 5 kU8 (([] : List UInt8) ++ intsB [e.f_Signer])))] rfl 0 1 rfl rfl rfl rfl rfl rfl rfl rfl rfl ⟨.inr (.inl ⟨rfl, (fun h => by cases h), rfl, rfl, by simp, 5, (([] : List UInt8) ++ intsB [e.f_Signer]).length, elOf kU8 (([] : List UInt8) ++ intsB [e.f_Signer]), List.Mem.head _, by omega, fun i j => by rw [Nat.zero_add]⟩), ⟨.inl ⟨rfl, rfl⟩, trivial⟩⟩ rfl (by intro b hb; simp only [List.mem_cons, List.not_mem_nil, or_false] at hb; rcases hb with rfl; exact ⟨_, List.Mem.head _⟩) (.inr ⟨trivial, (And.intro (arr_nt kU8_nt) trivial)⟩) (lt_of rfl) trivial),
    hR 11 rfl rfl (q_buildSlice 5 3 (kInt .i64) (kInt_ok .i64) [r.f_Code, r.f_Stage] [⟨0, .tmp 13, .one (.d (.val (.int .i64 r.f_Code))), 0⟩, ⟨1, .tmp 15, .one (.d (.val (.int .i64 r.f_Stage))), 1⟩] (cs := [.d (.val (.int .i64 r.f_Code)), .d (.val (.int .i64 r.f_Stage))]) Try.underlying122 iat_3 rfl zero_3 rfl rfl rfl (Nat.le_of_ble_eq_true rfl) (part_cons rfl rfl (Nat.le_of_ble_eq_true rfl) (part_cons rfl rfl (Nat.le_of_ble_eq_true rfl) part_ok)) rfl ⟨(.inl rfl), ⟨(.inl rfl), trivial⟩⟩ (lt_of rfl) trivial),
    hR 12 rfl rfl (r_call (block_ints true false (([] : List UInt8) ++ intsB [e.f_Signer] ++ bytesB e.f_Body) true false [r.f_Code, r.f_Stage] (by first | assumption | omega | (unfold maxLen; omega) | (simp [maxLen, -List.getD_eq_getElem?_getD] <;> omega) | decide) (by first | assumption | omega | (unfold maxLen; omega) | (simp [maxLen, -List.getD_eq_getElem?_getD] <;> omega) | decide)) Try.func68 rfl (by decide) [6] [4, 5] (l := [(.tmp 11, ownV 4 kU8 0 (([] : List UInt8) ++ intsB [e.f_Signer] ++ bytesB e.f_Body).length), (.tmp 16, ownV 5 (kInt .i64) 0 [r.f_Code, r.f_Stage].length)]) [(4, .live (arrK 5 kU8 (([] : List UInt8) ++ intsB [e.f_Signer] ++ bytesB e.f_Body))), (5, .live (arrK 3 (kInt .i64) [r.f_Code, r.f_Stage]))] rfl 0 1 rfl rfl rfl rfl rfl rfl rfl rfl rfl ⟨.inr (.inl ⟨rfl, (fun h => by cases h), rfl, rfl, by simp, 5, (([] : List UInt8) ++ intsB [e.f_Signer] ++ bytesB e.f_Body).length, elOf kU8 (([] : List UInt8) ++ intsB [e.f_Signer] ++ bytesB e.f_Body), List.Mem.head _, by omega, fun i j => by rw [Nat.zero_add]⟩), ⟨.inr (.inl ⟨rfl, (fun h => by cases h), rfl, rfl, by simp, 3, [r.f_Code, r.f_Stage].length, elOf (kInt .i64) [r.f_Code, r.f_Stage], List.Mem.tail _ (List.Mem.head _), by omega, fun i j => by rw [Nat.zero_add]⟩), trivial⟩⟩ rfl (by intro b hb; simp only [List.mem_cons, List.not_mem_nil, or_false] at hb; rcases hb with rfl | rfl; exact ⟨_, List.Mem.head _⟩; exact ⟨_, List.Mem.tail _ (List.Mem.head _)⟩) (.inr ⟨trivial, (And.intro (arr_nt kU8_nt) trivial)⟩) (lt_of rfl) trivial)] (by kernel_rfl) (by kernel_rfl) (by kernel_rfl) (by kernel_rfl) (by kernel_rfl) (by kernel_rfl) ?_
  refine nT ?_
  refine T.ret ?_
  exact tE (.inl rfl) [.t 4 (.one (.own 6 kU8.sz 0 (([] : List UInt8) ++ intsB [e.f_Signer] ++ bytesB e.f_Body ++ intsB [r.f_Code, r.f_Stage]).length))] ⟨⟨rfl, by kernel_rfl⟩, trivial⟩ [6] (by have e1 : ((leafB e r).length : Nat) = (([] : List UInt8) ++ intsB [e.f_Signer] ++ bytesB e.f_Body ++ intsB [r.f_Code, r.f_Stage]).length := (by first | rfl | (simp [leafB, intsB]; done)); have hE := congrArg (fun (q1 : Nat) => (ownV 6 kU8 0 q1 : AV)) e1; exact hE) rfl rfl rfl rfl rfl ⟨⟨rfl, (by have e1 : (([] : List UInt8) ++ intsB [e.f_Signer] ++ bytesB e.f_Body ++ intsB [r.f_Code, r.f_Stage] : List UInt8) = leafB e r := (by first | rfl | (simp [leafB, intsB]; done)); have hE := congrArg (fun (q1 : List UInt8) => (.live (arrK 5 kU8 q1) : HS)) e1; exact Eq.trans (by kernel_rfl) hE)⟩, trivial⟩

-- quaestor/quaestorref10.Leaf
theorem ref10_Leaf (te : Bool) (e : api_Envelope) (r : api_Result) (hb : e.f_Body.length ≤ 100000000) : Holds Try.prog 92 ⟨[.tv (.agg [.d (.val (.int .i64 e.f_Signer)), .d (dsl te false kU8 e.f_Body)]), .tv (.agg [.d (.val (.int .i64 r.f_Code)), .d (.val (.int .i64 r.f_Stage))])], [], ownV 0 kU8 0 (leafB e r).length, [.live (arrK 5 kU8 (leafB e r))]⟩ := by
  refine Holds.of Try.func92 rfl (N := 19) Try.ntmps92 rfl fun w0 B0 S0 U0 => ?_
  show T _ (mkBase 19 0 w0 S0 U0 B0) ⟨[.tv (.agg [.d (.val (.int .i64 e.f_Signer)), .d (dsl te false kU8 e.f_Body)]), .tv (.agg [.d (.val (.int .i64 r.f_Code)), .d (.val (.int .i64 r.f_Stage))])], []⟩ _ _
  have hi1 := int_len e.f_Signer
  have hi2 := int_len r.f_Code
  have hy := bytes_len e.f_Body
  refine T.seq ?_
  refine xR [] (by kernel_rfl) (by kernel_rfl) ?_
  refine nT ?_
  refine T.seq ?_
  refine xD [[], [0], [0, 1], [], [3], [0, 1, 2, 3, 4], [0, 1, 2, 3, 4, 5]] [hR 2 rfl rfl (r_call (ref01_Int false false ([] : List UInt8) e.f_Signer (by first | assumption | omega | (unfold maxLen; omega) | (simp [maxLen, -List.getD_eq_getElem?_getD] <;> omega) | decide)) Try.func57 rfl (by decide) [2] [] (l := [(.const (.slice none 0 0), dv (.slice none 0 0)), (.tmp 7, dv (.int .i64 e.f_Signer))]) [] rfl 0 1 rfl rfl rfl rfl rfl rfl rfl rfl rfl ⟨.inr (.inr ⟨rfl, rfl, rfl⟩), ⟨.inl ⟨rfl, rfl⟩, trivial⟩⟩ rfl (fun b hb => by cases hb) (.inl rfl) (lt_of rfl) ⟨rfl, trivial⟩),
    hR 5 rfl rfl (r_call (ref01_Bytes true false (([] : List UInt8) ++ intB e.f_Signer) te false e.f_Body (by first | assumption | omega | (unfold maxLen; omega) | (simp [maxLen, -List.getD_eq_getElem?_getD] <;> omega) | decide)) Try.func56 rfl (by decide) [3] [2] (l := [(.tmp 8, ownV 2 kU8 0 (([] : List UInt8) ++ intB e.f_Signer).length), (.tmp 10, slV te false kU8 e.f_Body)]) [(2, .live (arrK 5 kU8 (([] : List UInt8) ++ intB e.f_Signer)))] rfl 0 1 rfl rfl rfl rfl rfl rfl rfl rfl rfl ⟨.inr (.inl ⟨rfl, (fun h => by cases h), rfl, rfl, by simp, 5, (([] : List UInt8) ++ intB e.f_Signer).length, elOf kU8 (([] : List UInt8) ++ intB e.f_Signer), List.Mem.head _, by omega, fun i j => by rw [Nat.zero_add]⟩), ⟨.inl ⟨rfl, rfl⟩, trivial⟩⟩ rfl (by intro b hb; simp only [List.mem_cons, List.not_mem_nil, or_false] at hb; rcases hb with rfl; exact ⟨_, List.Mem.head _⟩) (.inr ⟨trivial, (And.intro (arr_nt kU8_nt) trivial)⟩) (lt_of rfl) trivial)] (by kernel_rfl) (by kernel_rfl) (by kernel_rfl) (by kernel_rfl) (by kernel_rfl) (by kernel_rfl) ?_
  refine nT ?_
  refine T.seq ?_
  refine xD [[], [], [1], [0, 1, 2], [], [4], [0, 1, 2, 3, 4, 5], [0, 1, 2, 3, 4, 5, 6]] [hR 3 rfl rfl (r_call (ref01_Int true false (([] : List UInt8) ++ intB e.f_Signer ++ bytesB e.f_Body) r.f_Code (by first | assumption | omega | (unfold maxLen; omega) | (simp [maxLen, -List.getD_eq_getElem?_getD] <;> omega) | decide)) Try.func57 rfl (by decide) [4] [3] (l := [(.tmp 12, ownV 3 kU8 0 (([] : List UInt8) ++ intB e.f_Signer ++ bytesB e.f_Body).length), (.tmp 14, dv (.int .i64 r.f_Code))]) [(3, .live (arrK 5 kU8 (([] : List UInt8) ++ intB e.f_Signer ++ bytesB e.f_Body)))] rfl 0 1 rfl rfl rfl rfl rfl rfl rfl rfl rfl ⟨.inr (.inl ⟨rfl, (fun h => by cases h), rfl, rfl, by simp, 5, (([] : List UInt8) ++ intB e.f_Signer ++ bytesB e.f_Body).length, elOf kU8 (([] : List UInt8) ++ intB e.f_Signer ++ bytesB e.f_Body), List.Mem.head _, by omega, fun i j => by rw [Nat.zero_add]⟩), ⟨.inl ⟨rfl, rfl⟩, trivial⟩⟩ rfl (by intro b hb; simp only [List.mem_cons, List.not_mem_nil, or_false] at hb; rcases hb with rfl; exact ⟨_, List.Mem.head _⟩) (.inr ⟨trivial, (And.intro (arr_nt kU8_nt) trivial)⟩) (lt_of rfl) trivial),
    hR 6 rfl rfl (r_call (ref01_Int true false (([] : List UInt8) ++ intB e.f_Signer ++ bytesB e.f_Body ++ intB r.f_Code) r.f_Stage (by first | assumption | omega | (unfold maxLen; omega) | (simp [maxLen, -List.getD_eq_getElem?_getD] <;> omega) | decide)) Try.func57 rfl (by decide) [5] [4] (l := [(.tmp 15, ownV 4 kU8 0 (([] : List UInt8) ++ intB e.f_Signer ++ bytesB e.f_Body ++ intB r.f_Code).length), (.tmp 17, dv (.int .i64 r.f_Stage))]) [(4, .live (arrK 5 kU8 (([] : List UInt8) ++ intB e.f_Signer ++ bytesB e.f_Body ++ intB r.f_Code)))] rfl 0 1 rfl rfl rfl rfl rfl rfl rfl rfl rfl ⟨.inr (.inl ⟨rfl, (fun h => by cases h), rfl, rfl, by simp, 5, (([] : List UInt8) ++ intB e.f_Signer ++ bytesB e.f_Body ++ intB r.f_Code).length, elOf kU8 (([] : List UInt8) ++ intB e.f_Signer ++ bytesB e.f_Body ++ intB r.f_Code), List.Mem.head _, by omega, fun i j => by rw [Nat.zero_add]⟩), ⟨.inl ⟨rfl, rfl⟩, trivial⟩⟩ rfl (by intro b hb; simp only [List.mem_cons, List.not_mem_nil, or_false] at hb; rcases hb with rfl; exact ⟨_, List.Mem.head _⟩) (.inr ⟨trivial, (And.intro (arr_nt kU8_nt) trivial)⟩) (lt_of rfl) trivial)] (by kernel_rfl) (by kernel_rfl) (by kernel_rfl) (by kernel_rfl) (by kernel_rfl) (by kernel_rfl) ?_
  refine nT ?_
  refine T.ret ?_
  exact tE (.inl rfl) [.t 4 (.one (.own 5 kU8.sz 0 (([] : List UInt8) ++ intB e.f_Signer ++ bytesB e.f_Body ++ intB r.f_Code ++ intB r.f_Stage).length))] ⟨⟨rfl, by kernel_rfl⟩, trivial⟩ [5] (by have e1 : ((leafB e r).length : Nat) = (([] : List UInt8) ++ intB e.f_Signer ++ bytesB e.f_Body ++ intB r.f_Code ++ intB r.f_Stage).length := (by first | rfl | (simp [leafB]; done)); have hE := congrArg (fun (q1 : Nat) => (ownV 5 kU8 0 q1 : AV)) e1; exact hE) rfl rfl rfl rfl rfl ⟨⟨rfl, (by have e1 : (([] : List UInt8) ++ intB e.f_Signer ++ bytesB e.f_Body ++ intB r.f_Code ++ intB r.f_Stage : List UInt8) = leafB e r := (by first | rfl | (simp [leafB]; done)); have hE := congrArg (fun (q1 : List UInt8) => (.live (arrK 5 kU8 q1) : HS)) e1; exact Eq.trans (by kernel_rfl) hE)⟩, trivial⟩

theorem fld_33_0 : FieldAt Try.prog 33 0 0 := ⟨_, _, _, Try.underlying33, rfl, iat_3, by decide, rfl⟩
theorem iat_30 : Try.prog.info? 30 = some Try.t30 := by kernel_rfl
theorem fld_33_2 : FieldAt Try.prog 33 2 2 := ⟨_, _, _, Try.underlying33, rfl, iat_30, by decide, rfl⟩
theorem wide_30 : Wide Try.prog 30 none := ⟨_, Try.underlying30, (fun _ h => by cases h), (fun _ _ h => by cases h)⟩
theorem iat_31 : Try.prog.info? 31 = some Try.t31 := by kernel_rfl
theorem fld_33_3 : FieldAt Try.prog 33 3 3 := ⟨_, _, _, Try.underlying33, rfl, iat_31, by decide, rfl⟩
theorem wide_31 : Wide Try.prog 31 none := ⟨_, Try.underlying31, (fun _ h => by cases h), (fun _ _ h => by cases h)⟩
-- quaestor/block.Check
theorem block_Check (tb_ : Bool) (b : api_Block) (hq : b.f_Requests.length ≤ 9223372036854775807) (hr : b.f_Results.length ≤ 9223372036854775807) : Holds Try.prog 40 ⟨[.tv (.agg [.d (.val (.int .i64 b.f_Height)), .d (.val (strV b.f_Prev)), .d (dsl tb_ false (k_api_Envelope tb_) b.f_Requests), .d (dsl tb_ false (k_api_Result tb_) b.f_Results)])], [], dv (.int .i64 (chkB b)), []⟩ := by
  refine Holds.of Try.func40 rfl (N := 26) Try.ntmps40 rfl fun w0 B0 S0 U0 => ?_
  show T _ (mkBase 26 0 w0 S0 U0 B0) ⟨[.tv (.agg [.d (.val (.int .i64 b.f_Height)), .d (.val (strV b.f_Prev)), .d (dsl tb_ false (k_api_Envelope tb_) b.f_Requests), .d (dsl tb_ false (k_api_Result tb_) b.f_Results)])], []⟩ _ _
  refine T.seq ?_
  refine xR [] (by kernel_rfl) (by kernel_rfl) ?_
  refine nT ?_
  refine T.seq ?_
  refine T.block ?_
  refine T.seq ?_
  by_cases hq1 : b.f_Height < 1
  · refine xR [hN 4 false (decide_eq_true hq1),
      hN 5 false (decide_eq_true hq1),
      hN 6 false (decide_eq_true hq1),
      hP 7 (decide_eq_true hq1)] (by kernel_rfl) (by kernel_rfl) ?_
    refine nT ?_
    refine T.condT (b := true) (by kernel_rfl) rfl ?_
    refine T.seq ?_
    refine xR [] (by kernel_rfl) (by kernel_rfl) ?_
    refine nT ?_
    refine T.ret ?_
    refine rB ?_
    refine rT ?_
    exact tE (.inl rfl) [.t 2 (.one (.d (.val (.int .i64 100))))] ⟨⟨rfl, by kernel_rfl⟩, trivial⟩ [] (by have e1 : ((chkB b) : Int) = 100 := (by first | rfl | (unfold chkB; first | rw [if_pos (by omega)] | (rw [if_neg (by omega)]; first | rw [if_pos (by omega)] | rw [if_neg (by omega)]))); have hE := congrArg (fun (q1 : Int) => (dv (.int .i64 q1) : AV)) e1; exact hE) rfl rfl rfl rfl rfl trivial
  · refine xR [hY 4 (decide_eq_false hq1),
      hY 5 (decide_eq_false hq1),
      hY 6 (decide_eq_false hq1),
      hP 7 (decide_eq_false hq1)] (by kernel_rfl) (by kernel_rfl) ?_
    refine nT ?_
    by_cases hq2 : b.f_Height > 1099511627776
    · refine T.condT (by kernel_rfl) (decide_eq_true hq2) ?_
      refine T.seq ?_
      refine xR [] (by kernel_rfl) (by kernel_rfl) ?_
      refine nT ?_
      refine T.ret ?_
      refine rB ?_
      refine rT ?_
      exact tE (.inl rfl) [.t 2 (.one (.d (.val (.int .i64 100))))] ⟨⟨rfl, by kernel_rfl⟩, trivial⟩ [] (by have e1 : ((chkB b) : Int) = 100 := (by first | rfl | (unfold chkB; first | rw [if_pos (by omega)] | (rw [if_neg (by omega)]; first | rw [if_pos (by omega)] | rw [if_neg (by omega)]))); have hE := congrArg (fun (q1 : Int) => (dv (.int .i64 q1) : AV)) e1; exact hE) rfl rfl rfl rfl rfl trivial
    · refine T.condF (by kernel_rfl) (decide_eq_false hq2) ?_
      refine T.seq ?_
      by_cases hq3 : ((b.f_Requests.length : Nat) : Int) ≠ ((b.f_Results.length : Nat) : Int)
      · refine xR [hN 8 false (decide_eq_true hq3),
          hN 9 false (decide_eq_true hq3),
          hN 10 false (decide_eq_true hq3),
          hN 11 false (decide_eq_true hq3),
          hP 12 (decide_eq_true hq3)] (by kernel_rfl) (by kernel_rfl) ?_
        refine nT ?_
        refine T.condT (b := true) (by kernel_rfl) rfl ?_
        refine T.seq ?_
        refine xR [] (by kernel_rfl) (by kernel_rfl) ?_
        refine nT ?_
        refine T.ret ?_
        refine rB ?_
        refine rT ?_
        exact tE (.inl rfl) [.t 2 (.one (.d (.val (.int .i64 102))))] ⟨⟨rfl, by kernel_rfl⟩, trivial⟩ [] (by have e1 : ((chkB b) : Int) = 102 := (by first | rfl | (unfold chkB; first | rw [if_pos (by omega)] | (rw [if_neg (by omega)]; first | rw [if_pos (by omega)] | rw [if_neg (by omega)]))); have hE := congrArg (fun (q1 : Int) => (dv (.int .i64 q1) : AV)) e1; exact hE) rfl rfl rfl rfl rfl trivial
      · refine xR [hY 8 (decide_eq_false hq3),
          hY 9 (decide_eq_false hq3),
          hY 10 (decide_eq_false hq3),
          hY 11 (decide_eq_false hq3),
          hP 12 (decide_eq_false hq3)] (by kernel_rfl) (by kernel_rfl) ?_
        refine nT ?_
        by_cases hq4 : ((b.f_Results.length : Nat) : Int) > 4
        · refine T.condT (by kernel_rfl) (decide_eq_true hq4) ?_
          refine T.seq ?_
          refine xR [] (by kernel_rfl) (by kernel_rfl) ?_
          refine nT ?_
          refine T.ret ?_
          refine rB ?_
          refine rT ?_
          exact tE (.inl rfl) [.t 2 (.one (.d (.val (.int .i64 102))))] ⟨⟨rfl, by kernel_rfl⟩, trivial⟩ [] (by have e1 : ((chkB b) : Int) = 102 := (by first | rfl | (unfold chkB; first | rw [if_pos (by omega)] | (rw [if_neg (by omega)]; first | rw [if_pos (by omega)] | rw [if_neg (by omega)]))); have hE := congrArg (fun (q1 : Int) => (dv (.int .i64 q1) : AV)) e1; exact hE) rfl rfl rfl rfl rfl trivial
        · refine T.condF (by kernel_rfl) (decide_eq_false hq4) ?_
          refine T.skip ?_
          refine nB ?_
          refine nT ?_
          refine T.seq ?_
          refine xR [] (by kernel_rfl) (by kernel_rfl) ?_
          refine nT ?_
          refine T.ret ?_
          exact tE (.inl rfl) [.t 2 (.one (.d (.val (.int .i64 0))))] ⟨⟨rfl, by kernel_rfl⟩, trivial⟩ [] (by have e1 : ((chkB b) : Int) = 0 := (by first | rfl | (unfold chkB; first | rw [if_pos (by omega)] | (rw [if_neg (by omega)]; first | rw [if_pos (by omega)] | rw [if_neg (by omega)]))); have hE := congrArg (fun (q1 : Int) => (dv (.int .i64 q1) : AV)) e1; exact hE) rfl rfl rfl rfl rfl trivial

-- quaestor/quaestorref10.Check
theorem ref10_Check (tb_ : Bool) (b : api_Block) (hq : b.f_Requests.length ≤ 9223372036854775807) (hr : b.f_Results.length ≤ 9223372036854775807) : Holds Try.prog 63 ⟨[.tv (.agg [.d (.val (.int .i64 b.f_Height)), .d (.val (strV b.f_Prev)), .d (dsl tb_ false (k_api_Envelope tb_) b.f_Requests), .d (dsl tb_ false (k_api_Result tb_) b.f_Results)])], [], dv (.int .i64 (chkB b)), []⟩ := by
  refine Holds.of Try.func63 rfl (N := 24) Try.ntmps63 rfl fun w0 B0 S0 U0 => ?_
  show T _ (mkBase 24 0 w0 S0 U0 B0) ⟨[.tv (.agg [.d (.val (.int .i64 b.f_Height)), .d (.val (strV b.f_Prev)), .d (dsl tb_ false (k_api_Envelope tb_) b.f_Requests), .d (dsl tb_ false (k_api_Result tb_) b.f_Results)])], []⟩ _ _
  refine T.seq ?_
  refine xR [] (by kernel_rfl) (by kernel_rfl) ?_
  refine nT ?_
  refine T.seq ?_
  refine T.seq ?_
  by_cases hq1 : b.f_Height < 1
  · refine xR [hN 4 false (decide_eq_true hq1),
      hN 5 false (decide_eq_true hq1),
      hN 6 false (decide_eq_true hq1),
      hP 7 (decide_eq_true hq1)] (by kernel_rfl) (by kernel_rfl) ?_
    refine nT ?_
    refine T.condT (b := true) (by kernel_rfl) rfl ?_
    refine T.seq ?_
    refine xR [] (by kernel_rfl) (by kernel_rfl) ?_
    refine nT ?_
    refine T.ret ?_
    refine rT ?_
    exact tE (.inl rfl) [.t 2 (.one (.d (.val (.int .i64 100))))] ⟨⟨rfl, by kernel_rfl⟩, trivial⟩ [] (by have e1 : ((chkB b) : Int) = 100 := (by first | rfl | (unfold chkB; first | rw [if_pos (by omega)] | (rw [if_neg (by omega)]; first | rw [if_pos (by omega)] | rw [if_neg (by omega)]))); have hE := congrArg (fun (q1 : Int) => (dv (.int .i64 q1) : AV)) e1; exact hE) rfl rfl rfl rfl rfl trivial
  · refine xR [hY 4 (decide_eq_false hq1),
      hY 5 (decide_eq_false hq1),
      hY 6 (decide_eq_false hq1),
      hP 7 (decide_eq_false hq1)] (by kernel_rfl) (by kernel_rfl) ?_
    refine nT ?_
    by_cases hq2 : b.f_Height > 1099511627776
    · refine T.condT (by kernel_rfl) (decide_eq_true hq2) ?_
      refine T.seq ?_
      refine xR [] (by kernel_rfl) (by kernel_rfl) ?_
      refine nT ?_
      refine T.ret ?_
      refine rT ?_
      exact tE (.inl rfl) [.t 2 (.one (.d (.val (.int .i64 100))))] ⟨⟨rfl, by kernel_rfl⟩, trivial⟩ [] (by have e1 : ((chkB b) : Int) = 100 := (by first | rfl | (unfold chkB; first | rw [if_pos (by omega)] | (rw [if_neg (by omega)]; first | rw [if_pos (by omega)] | rw [if_neg (by omega)]))); have hE := congrArg (fun (q1 : Int) => (dv (.int .i64 q1) : AV)) e1; exact hE) rfl rfl rfl rfl rfl trivial
    · refine T.condF (by kernel_rfl) (decide_eq_false hq2) ?_
      refine T.skip ?_
      refine nT ?_
      refine T.seq ?_
      refine T.seq ?_
      by_cases hq3 : ((b.f_Requests.length : Nat) : Int) ≠ ((b.f_Results.length : Nat) : Int)
      · refine xR [hN 8 false (decide_eq_true hq3),
          hN 9 false (decide_eq_true hq3),
          hN 10 false (decide_eq_true hq3),
          hN 11 false (decide_eq_true hq3),
          hP 12 (decide_eq_true hq3)] (by kernel_rfl) (by kernel_rfl) ?_
        refine nT ?_
        refine T.condT (b := true) (by kernel_rfl) rfl ?_
        refine T.seq ?_
        refine xR [] (by kernel_rfl) (by kernel_rfl) ?_
        refine nT ?_
        refine T.ret ?_
        refine rT ?_
        exact tE (.inl rfl) [.t 2 (.one (.d (.val (.int .i64 102))))] ⟨⟨rfl, by kernel_rfl⟩, trivial⟩ [] (by have e1 : ((chkB b) : Int) = 102 := (by first | rfl | (unfold chkB; first | rw [if_pos (by omega)] | (rw [if_neg (by omega)]; first | rw [if_pos (by omega)] | rw [if_neg (by omega)]))); have hE := congrArg (fun (q1 : Int) => (dv (.int .i64 q1) : AV)) e1; exact hE) rfl rfl rfl rfl rfl trivial
      · refine xR [hY 8 (decide_eq_false hq3),
          hY 9 (decide_eq_false hq3),
          hY 10 (decide_eq_false hq3),
          hY 11 (decide_eq_false hq3),
          hP 12 (decide_eq_false hq3)] (by kernel_rfl) (by kernel_rfl) ?_
        refine nT ?_
        by_cases hq4 : ((b.f_Requests.length : Nat) : Int) > 4
        · refine T.condT (by kernel_rfl) (decide_eq_true hq4) ?_
          refine T.seq ?_
          refine xR [] (by kernel_rfl) (by kernel_rfl) ?_
          refine nT ?_
          refine T.ret ?_
          refine rT ?_
          exact tE (.inl rfl) [.t 2 (.one (.d (.val (.int .i64 102))))] ⟨⟨rfl, by kernel_rfl⟩, trivial⟩ [] (by have e1 : ((chkB b) : Int) = 102 := (by first | rfl | (unfold chkB; first | rw [if_pos (by omega)] | (rw [if_neg (by omega)]; first | rw [if_pos (by omega)] | rw [if_neg (by omega)]))); have hE := congrArg (fun (q1 : Int) => (dv (.int .i64 q1) : AV)) e1; exact hE) rfl rfl rfl rfl rfl trivial
        · refine T.condF (by kernel_rfl) (decide_eq_false hq4) ?_
          refine T.skip ?_
          refine nT ?_
          refine T.seq ?_
          refine xR [] (by kernel_rfl) (by kernel_rfl) ?_
          refine nT ?_
          refine T.ret ?_
          exact tE (.inl rfl) [.t 2 (.one (.d (.val (.int .i64 0))))] ⟨⟨rfl, by kernel_rfl⟩, trivial⟩ [] (by have e1 : ((chkB b) : Int) = 0 := (by first | rfl | (unfold chkB; first | rw [if_pos (by omega)] | (rw [if_neg (by omega)]; first | rw [if_pos (by omega)] | rw [if_neg (by omega)]))); have hE := congrArg (fun (q1 : Int) => (dv (.int .i64 q1) : AV)) e1; exact hE) rfl rfl rfl rfl rfl trivial
end Go.Proofs.Ytdclfhahcfefeaa.Q
