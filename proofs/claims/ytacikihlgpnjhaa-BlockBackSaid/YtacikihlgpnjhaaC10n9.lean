import Derived.Test.YtacikihlgpnjhaaC10n8
namespace Go.Proofs.Ytacikihlgpnjhaa.Q
open Go Go.RowKit
set_option linter.unusedVariables false
set_option linter.unusedSimpArgs false
set_option maxRecDepth 100000
set_option maxHeartbeats 4000000
-- quaestor/block.Put
theorem block_Put (tb_ : Bool) (b : api_Block) (hf : fewW b) : Holds Try.prog 27 ⟨[.tv (.agg [.d (.val (.int .i64 b.f_Height)), .d (.val (strV b.f_Prev)), .d (dsl tb_ false (k_api_Envelope tb_) b.f_Requests), .d (dsl tb_ false (k_api_Result tb_) b.f_Results)])], [], slV false false kU8 (putB b), []⟩ := by
  refine Holds.of Try.func27 rfl (N := 34) Try.ntmps27 rfl fun w0 B0 S0 U0 => ?_
  show T _ (mkBase 34 0 w0 S0 U0 B0) ⟨[.tv (.agg [.d (.val (.int .i64 b.f_Height)), .d (.val (strV b.f_Prev)), .d (dsl tb_ false (k_api_Envelope tb_) b.f_Requests), .d (dsl tb_ false (k_api_Result tb_) b.f_Results)])], []⟩ _ _
  have hf1 := hf.1.1
  have hf2 := hf.2.1
  have hf3 := hf.2.2
  have hll := leaves_len b
  have hfl := few_leavesW hf
  have hi2 : (intsB [b.f_Height]).length = 8 := ints_len [b.f_Height]
  have hi2n : (([] : List UInt8) ++ intsB [b.f_Height]).length = 8 := ints_len [b.f_Height]
  have hy := bytes_len b.f_Prev
  have hcc := cnt_len (((leavesB b).length : Nat) : Int)
  refine T.seq ?_
  refine xR [] (by kernel_rfl) (by kernel_rfl) ?_
  refine nT ?_
  refine T.seq ?_
  refine T.seq ?_
  refine xR [hR 1 rfl rfl (r_call (block_Check tb_ b (by first | assumption | omega | (unfold maxLen; omega) | (simp [maxLen, -List.getD_eq_getElem?_getD] <;> omega) | decide) (by first | assumption | omega | (unfold maxLen; omega) | (simp [maxLen, -List.getD_eq_getElem?_getD] <;> omega) | decide)) Try.func14 rfl (by decide) [] [] (l := [(.tmp 7, .tv (.agg [.d (.val (.int .i64 b.f_Height)), .d (.val (strV b.f_Prev)), .d (dsl tb_ false (k_api_Envelope tb_) b.f_Requests), .d (dsl tb_ false (k_api_Result tb_) b.f_Results)]))]) [] rfl 0 0 rfl rfl rfl rfl rfl rfl rfl rfl rfl ⟨⟨.inl ⟨rfl, rfl⟩, ⟨.inl ⟨rfl, rfl⟩, ⟨.inl ⟨rfl, rfl⟩, ⟨.inl ⟨rfl, rfl⟩, trivial⟩⟩⟩⟩, trivial⟩ rfl (fun b hb => by cases hb) (.inl rfl) (lt_of rfl) trivial)] (by kernel_rfl) (by kernel_rfl) ?_
  refine nT ?_
  by_cases hq1 : (chkB b) ≠ 0
  · refine T.condT (by kernel_rfl) (decide_eq_true hq1) ?_
    refine T.seq ?_
    refine xR [] (by kernel_rfl) (by kernel_rfl) ?_
    refine nT ?_
    refine T.ret ?_
    refine rT ?_
    refine Ends.turn (s' := ⟨[.tv (.agg [.d (.val (.int .i64 b.f_Height)), .d (.val (strV b.f_Prev)), .d (dsl tb_ false (k_api_Envelope tb_) b.f_Requests), .d (dsl tb_ false (k_api_Result tb_) b.f_Results)]), pv 0 0, dv (.slice none 0 0), aa, aa, aa, aa, aa, aa, dv (.bool (decide ((chkB b) ≠ 0)))], [.live (.box 26 [.d (.val (.int .i64 b.f_Height)), .d (.val (strV b.f_Prev)), .d (dsl tb_ false (k_api_Envelope tb_) b.f_Requests), .d (dsl tb_ false (k_api_Result tb_) b.f_Results)])]⟩) (fun _ _ hG => Gs.norm (by kernel_rfl) hG) ?_
    refine Ends.turn (s' := ⟨[.tv (.agg [.d (.val (.int .i64 b.f_Height)), .d (.val (strV b.f_Prev)), .d (dsl tb_ false (k_api_Envelope tb_) b.f_Requests), .d (dsl tb_ false (k_api_Result tb_) b.f_Results)]), pv 0 0, slV false false kU8 ([] : List UInt8), aa, aa, aa, aa, aa, aa, dv (.bool (decide ((chkB b) ≠ 0)))], [.live (.box 26 [.d (.val (.int .i64 b.f_Height)), .d (.val (strV b.f_Prev)), .d (dsl tb_ false (k_api_Envelope tb_) b.f_Requests), .d (dsl tb_ false (k_api_Result tb_) b.f_Results)])]⟩) (fun _ _ hG => Gs.less (s := ⟨[.tv (.agg [.d (.val (.int .i64 b.f_Height)), .d (.val (strV b.f_Prev)), .d (dsl tb_ false (k_api_Envelope tb_) b.f_Requests), .d (dsl tb_ false (k_api_Result tb_) b.f_Results)]), pv 0 0, dv (.slice none 0 0), aa, aa, aa, aa, aa, aa, dv (.bool (decide ((chkB b) ≠ 0)))], [.live (.box 26 [.d (.val (.int .i64 b.f_Height)), .d (.val (strV b.f_Prev)), .d (dsl tb_ false (k_api_Envelope tb_) b.f_Requests), .d (dsl tb_ false (k_api_Result tb_) b.f_Results)])]⟩) ⟨(.inl rfl), ⟨(.inl rfl), ⟨(.inr ⟨rfl, rfl, rfl⟩), ⟨(.inl rfl), ⟨(.inl rfl), ⟨(.inl rfl), ⟨(.inl rfl), ⟨(.inl rfl), ⟨(.inl rfl), ⟨(.inl rfl), trivial⟩⟩⟩⟩⟩⟩⟩⟩⟩⟩ ⟨(.inl rfl), trivial⟩ hG) ?_
    exact tE (.inl rfl) [.t 2 (.one (.d (dsl false false kU8 ([] : List UInt8))))] ⟨⟨rfl, by kernel_rfl⟩, trivial⟩ [] (by have e1 : ((putB b) : List UInt8) = ([] : List UInt8) := (by first | rfl | (rw [putB, if_pos (Classical.not_not.1 (by assumption)), show k = (leavesB b).length by omega]) | (rw [putB, if_pos (by assumption), show k = (leavesB b).length by omega]) | (rw [putB, if_neg (by assumption)])); have hE := congrArg (fun (q1 : List UInt8) => (slV false false kU8 q1 : AV)) e1; exact hE) rfl rfl rfl rfl rfl trivial
  · refine T.condF (by kernel_rfl) (decide_eq_false hq1) ?_
    refine T.skip ?_
    refine nT ?_
    refine T.seq ?_
    refine xR [hR 1 rfl rfl (r_call (block_leaves tb_ b (by first | assumption | exact few_wide (by assumption) | decide)) Try.func32 rfl (by decide) [1] [] (l := [(.tmp 10, .tv (.agg [.d (.val (.int .i64 b.f_Height)), .d (.val (strV b.f_Prev)), .d (dsl tb_ false (k_api_Envelope tb_) b.f_Requests), .d (dsl tb_ false (k_api_Result tb_) b.f_Results)]))]) [] rfl 0 1 rfl rfl rfl rfl rfl rfl rfl rfl rfl ⟨⟨.inl ⟨rfl, rfl⟩, ⟨.inl ⟨rfl, rfl⟩, ⟨.inl ⟨rfl, rfl⟩, ⟨.inl ⟨rfl, rfl⟩, trivial⟩⟩⟩⟩, trivial⟩ rfl (fun b hb => by cases hb) (.inl rfl) (lt_of rfl) trivial)] (by kernel_rfl) (by kernel_rfl) ?_
    refine nT ?_
    refine T.seq ?_
    refine xD [[], [0], [0, 1], [0, 1, 2], [], [4], [4, 5], [0, 1, 2, 3, 4, 5, 6], [], [8], [0, 1, 2, 3, 4, 5, 6, 7, 8, 9], [0, 1, 2, 3, 4, 5, 6, 7, 8, 9, 10]] [hR 2 rfl rfl (q_buildSlice 2 3 (kInt .i64) (kInt_ok .i64) [b.f_Height] [⟨0, .tmp 13, .one (.d (.val (.int .i64 b.f_Height))), 0⟩] (cs := [.d (.val (.int .i64 b.f_Height))]) Try.underlying77 iat_3 rfl zero_3 rfl rfl rfl (Nat.le_of_ble_eq_true rfl) (part_cons rfl rfl (Nat.le_of_ble_eq_true rfl) part_ok) rfl ⟨(.inl rfl), trivial⟩ (lt_of rfl) trivial),
      hR 3 rfl rfl (r_call (block_ints false false ([] : List UInt8) true false [b.f_Height] (by first | assumption | omega | (unfold maxLen; omega) | (simp [maxLen, -List.getD_eq_getElem?_getD] <;> omega) | decide) (by first | assumption | omega | (unfold maxLen; omega) | (simp [maxLen, -List.getD_eq_getElem?_getD] <;> omega) | decide)) Try.func28 rfl (by decide) [3] [2] (l := [(.const (.slice none 0 0), dv (.slice none 0 0)), (.tmp 14, ownV 2 (kInt .i64) 0 [b.f_Height].length)]) [(2, .live (arrK 3 (kInt .i64) [b.f_Height]))] rfl 0 1 rfl rfl rfl rfl rfl rfl rfl rfl rfl ⟨.inr (.inr ⟨rfl, rfl, rfl⟩), ⟨.inr (.inl ⟨rfl, (fun h => by cases h), rfl, rfl, by simp, 3, [b.f_Height].length, elOf (kInt .i64) [b.f_Height], List.Mem.head _, by omega, fun i j => by rw [Nat.zero_add]⟩), trivial⟩⟩ rfl (by intro b hb; simp only [List.mem_cons, List.not_mem_nil, or_false] at hb; rcases hb with rfl; exact ⟨_, List.Mem.head _⟩) (.inr ⟨trivial, (And.intro (arr_nt kU8_nt) trivial)⟩) (lt_of rfl) ⟨rfl, trivial⟩),
      hR 6 rfl rfl (r_bytesOf (l := b.f_Prev) Try.underlying22 Try.underlying29 Try.underlying5 (lt_of rfl) trivial),
      hR 7 rfl rfl (r_call (wire_PutBytes true false (([] : List UInt8) ++ intsB [b.f_Height]) false true b.f_Prev (by first | assumption | omega | (unfold maxLen; omega) | (simp [maxLen, -List.getD_eq_getElem?_getD] <;> omega) | decide)) Try.func29 rfl (by decide) [4] [3] (l := [(.tmp 15, ownV 3 kU8 0 (([] : List UInt8) ++ intsB [b.f_Height]).length), (.tmp 18, slV false true kU8 b.f_Prev)]) [(3, .live (arrK 5 kU8 (([] : List UInt8) ++ intsB [b.f_Height])))] rfl 0 1 rfl rfl rfl rfl rfl rfl rfl rfl rfl ⟨.inr (.inl ⟨rfl, (fun h => by cases h), rfl, rfl, by simp, 5, (([] : List UInt8) ++ intsB [b.f_Height]).length, elOf kU8 (([] : List UInt8) ++ intsB [b.f_Height]), List.Mem.head _, by omega, fun i j => by rw [Nat.zero_add]⟩), ⟨.inl ⟨rfl, rfl⟩, trivial⟩⟩ rfl (by intro b hb; simp only [List.mem_cons, List.not_mem_nil, or_false] at hb; rcases hb with rfl; exact ⟨_, List.Mem.head _⟩) (.inr ⟨trivial, (And.intro (arr_nt kU8_nt) trivial)⟩) (lt_of rfl) trivial),
      hR 10 rfl rfl (r_call (wire_PutCount true false (([] : List UInt8) ++ intsB [b.f_Height] ++ bytesB b.f_Prev) (((leavesB b).length : Nat) : Int) (by first | assumption | omega | (unfold maxLen; omega) | (simp [maxLen, -List.getD_eq_getElem?_getD] <;> omega) | decide)) Try.func49 rfl (by decide) [5] [4] (l := [(.tmp 19, ownV 4 kU8 0 (([] : List UInt8) ++ intsB [b.f_Height] ++ bytesB b.f_Prev).length), (.tmp 21, dv (.int .i64 (((leavesB b).length : Nat) : Int)))]) [(4, .live (arrK 5 kU8 (([] : List UInt8) ++ intsB [b.f_Height] ++ bytesB b.f_Prev)))] rfl 0 1 rfl rfl rfl rfl rfl rfl rfl rfl rfl ⟨.inr (.inl ⟨rfl, (fun h => by cases h), rfl, rfl, by simp, 5, (([] : List UInt8) ++ intsB [b.f_Height] ++ bytesB b.f_Prev).length, elOf kU8 (([] : List UInt8) ++ intsB [b.f_Height] ++ bytesB b.f_Prev), List.Mem.head _, by omega, fun i j => by rw [Nat.zero_add]⟩), ⟨.inl ⟨rfl, rfl⟩, trivial⟩⟩ rfl (by intro b hb; simp only [List.mem_cons, List.not_mem_nil, or_false] at hb; rcases hb with rfl; exact ⟨_, List.Mem.head _⟩) (.inr ⟨trivial, (And.intro (arr_nt kU8_nt) trivial)⟩) (lt_of rfl) trivial)] (by kernel_rfl) (by kernel_rfl) (by kernel_rfl) (by kernel_rfl) (by kernel_rfl) (by kernel_rfl) ?_
    refine nT ?_
    refine T.seq ?_
    refine T.seq ?_
    refine xR [] (by kernel_rfl) (by kernel_rfl) ?_
    refine nT ?_
    refine T.block ?_
    refine T.loop (ι := Nat) (fun (k : Nat) => ⟨[aa, pv 0 0, aa, ownV 1 (kSl false kU8) 0 (leavesB b).length, ownV 2 kU8 0 (outB b k).length, aa, aa, aa, aa, aa, aa, aa, aa, aa, aa, aa, aa, aa, aa, aa, aa, aa, aa, ownV 1 (kSl false kU8) 0 (leavesB b).length, dv (.int .i64 (((leavesB b).length : Nat) : Int)), dv (.int .i64 ((k : Nat) : Int))], [.live (.box 26 [.d (.val (.int .i64 b.f_Height)), .d (.val (strV b.f_Prev)), .d (dsl tb_ false (k_api_Envelope tb_) b.f_Requests), .d (dsl tb_ false (k_api_Result tb_) b.f_Results)]), .live (arrK 29 (kSl false kU8) (leavesB b)), .live (arrK 5 kU8 (outB b k))]⟩) (fun (k : Nat) => (k ≤ (leavesB b).length)) (fun (k : Nat) => (leavesB b).length - k) (0) (Nat.zero_le _) (fun _ _ hG => Gs.into2 (s' := ⟨[aa, pv 0 0, aa, ownV 1 (kSl false kU8) 0 (leavesB b).length, ownV 2 kU8 0 (outB b 0).length, aa, aa, aa, aa, aa, aa, aa, aa, aa, aa, aa, aa, aa, aa, aa, aa, aa, aa, ownV 1 (kSl false kU8) 0 (leavesB b).length, dv (.int .i64 (((leavesB b).length : Nat) : Int)), dv (.int .i64 0)], [.live (.box 26 [.d (.val (.int .i64 b.f_Height)), .d (.val (strV b.f_Prev)), .d (dsl tb_ false (k_api_Envelope tb_) b.f_Requests), .d (dsl tb_ false (k_api_Result tb_) b.f_Results)]), .live (arrK 29 (kSl false kU8) (leavesB b)), .live (arrK 5 kU8 (outB b 0))]⟩) [0, 1, 5] (bm 26 58720282) (t1 := [aa, pv 0 0, aa, ownV 1 (kSl false kU8) 0 (leavesB b).length, ownV 5 kU8 0 (outB b 0).length, aa, aa, aa, aa, aa, aa, aa, aa, aa, aa, aa, aa, aa, aa, aa, aa, aa, aa, ownV 1 (kSl false kU8) 0 (leavesB b).length, dv (.int .i64 (((leavesB b).length : Nat) : Int)), dv (.int .i64 0)]) (t2 := [aa, pv 0 0, aa, ownV 1 (kSl false kU8) 0 (leavesB b).length, ownV 5 kU8 0 (([] : List UInt8) ++ intsB [b.f_Height] ++ bytesB b.f_Prev ++ cntB (((leavesB b).length : Nat) : Int)).length, aa, aa, aa, aa, aa, aa, aa, aa, aa, aa, aa, aa, aa, aa, aa, aa, aa, aa, ownV 1 (kSl false kU8) 0 (leavesB b).length, dv (.int .i64 (((leavesB b).length : Nat) : Int)), dv (.int .i64 0)]) (h1 := [.live (.box 26 [.d (.val (.int .i64 b.f_Height)), .d (.val (strV b.f_Prev)), .d (dsl tb_ false (k_api_Envelope tb_) b.f_Requests), .d (dsl tb_ false (k_api_Result tb_) b.f_Results)]), .live (arrK 29 (kSl false kU8) (leavesB b)), .live (arrK 5 kU8 (outB b 0))]) (h2 := [.live (.box 26 [.d (.val (.int .i64 b.f_Height)), .d (.val (strV b.f_Prev)), .d (dsl tb_ false (k_api_Envelope tb_) b.f_Requests), .d (dsl tb_ false (k_api_Result tb_) b.f_Results)]), .live (arrK 29 (kSl false kU8) (leavesB b)), .live (arrK 5 kU8 (([] : List UInt8) ++ intsB [b.f_Height] ++ bytesB b.f_Prev ++ cntB (((leavesB b).length : Nat) : Int)))]) (by have e1 : ((outB b 0).length : Nat) = (([] : List UInt8) ++ intsB [b.f_Height] ++ bytesB b.f_Prev ++ cntB (((leavesB b).length : Nat) : Int)).length := (by first | rfl | (simp [outB, intsB]; done)); have hE := congrArg (fun (q1 : Nat) => ([aa, pv 0 0, aa, ownV 1 (kSl false kU8) 0 (leavesB b).length, ownV 5 kU8 0 q1, aa, aa, aa, aa, aa, aa, aa, aa, aa, aa, aa, aa, aa, aa, aa, aa, aa, aa, ownV 1 (kSl false kU8) 0 (leavesB b).length, dv (.int .i64 (((leavesB b).length : Nat) : Int)), dv (.int .i64 0)] : List AV)) e1; exact hE) (by have e1 : ((outB b 0) : List UInt8) = ([] : List UInt8) ++ intsB [b.f_Height] ++ bytesB b.f_Prev ++ cntB (((leavesB b).length : Nat) : Int) := (by first | rfl | (simp [outB, intsB]; done)); have hE := congrArg (fun (q1 : List UInt8) => ([.live (.box 26 [.d (.val (.int .i64 b.f_Height)), .d (.val (strV b.f_Prev)), .d (dsl tb_ false (k_api_Envelope tb_) b.f_Requests), .d (dsl tb_ false (k_api_Result tb_) b.f_Results)]), .live (arrK 29 (kSl false kU8) (leavesB b)), .live (arrK 5 kU8 q1)] : List HS)) e1; exact hE) (by kernel_rfl) (by kernel_rfl) (by kernel_rfl) (by kernel_rfl) (by kernel_rfl) (by kernel_rfl) (by kernel_rfl) (by kernel_rfl) (by kernel_rfl) (by kernel_rfl) (by kernel_rfl) hG) ?_
    rintro k hk
    show T _ _ ⟨[aa, pv 0 0, aa, ownV 1 (kSl false kU8) 0 (leavesB b).length, ownV 2 kU8 0 (outB b k).length, aa, aa, aa, aa, aa, aa, aa, aa, aa, aa, aa, aa, aa, aa, aa, aa, aa, aa, ownV 1 (kSl false kU8) 0 (leavesB b).length, dv (.int .i64 (((leavesB b).length : Nat) : Int)), dv (.int .i64 ((k : Nat) : Int))], [.live (.box 26 [.d (.val (.int .i64 b.f_Height)), .d (.val (strV b.f_Prev)), .d (dsl tb_ false (k_api_Envelope tb_) b.f_Requests), .d (dsl tb_ false (k_api_Result tb_) b.f_Results)]), .live (arrK 29 (kSl false kU8) (leavesB b)), .live (arrK 5 kU8 (outB b k))]⟩ _ _
    replace hk : k ≤ (leavesB b).length := hk
    have hf1 := hf.1.1
    have hf2 := hf.2.1
    have hf3 := hf.2.2
    have hll := leaves_len b
    have hfl := few_leavesW hf
    have hol := out_lenW hf k
    have hgk : ((leavesB b).getD k []).length ≤ 20100 := fewG_get (sz := szL) hfl (by decide) k
    refine T.seq ?_
    refine xR [] (by kernel_rfl) (by kernel_rfl) ?_
    refine nT ?_
    refine T.seq ?_
    by_cases hq2 : ((k : Nat) : Int) < (((leavesB b).length : Nat) : Int)
    · refine T.condT (by kernel_rfl) (decide_eq_true hq2) ?_
      refine T.skip ?_
      refine nT ?_
      refine T.seq ?_
      refine T.block ?_
      refine T.seq ?_
      refine xR [hR 0 rfl rfl (r_indexO (k := .i64) (l := 1) (sz := (kSl false kU8).sz) (off := 0) (n := (leavesB b).length) (i := ((k : Nat) : Int)) (m := k) (o' := k * (kSl false kU8).sz + 0) Try.underlying60 iat_29 rfl rfl (by first | assumption | omega | (unfold maxLen; omega) | (simp [maxLen, -List.getD_eq_getElem?_getD] <;> omega) | decide) (by first | rfl | simp) (lt_of rfl) trivial),
        hR 1 rfl rfl (r_loadA (l := 1) (off := k * (kSl false kU8).sz + 0) (i := k) (j := 0) (T := 29) (sz := (kSl false kU8).sz) (n := (leavesB b).length) (el := elOf (kSl false kU8) (leavesB b)) (c := dsl false false kU8 ((leavesB b).getD k [])) wide_29 rfl (by first | assumption | omega | (unfold maxLen; omega) | (simp [maxLen, -List.getD_eq_getElem?_getD] <;> omega) | decide) (by decide) rfl (lt_of rfl) trivial)] (by kernel_rfl) (by kernel_rfl) ?_
      refine nT ?_
      refine xR [hR 2 rfl rfl (q_appendO 2 3 5 1 kU8 kU8_ok (outB b k) ((leavesB b).getD k []) ((outB b k) ++ ((leavesB b).getD k [])) (outB b k).length (sy := (.d (dsl false false kU8 ((leavesB b).getD k [])))) (rhs := []) elem_29 (by first | assumption | omega | (unfold maxLen; omega) | (simp [maxLen, -List.getD_eq_getElem?_getD] <;> omega) | decide) (src_sl false false kU8 ((leavesB b).getD k [])) (by rw [List.take_length]) (by first | assumption | omega | (unfold maxLen; omega) | (simp [maxLen, -List.getD_eq_getElem?_getD] <;> omega) | decide) (by first | assumption | omega | (unfold maxLen; omega) | (simp [maxLen, -List.getD_eq_getElem?_getD] <;> omega) | decide) (lt_of rfl) trivial)] (by kernel_rfl) (by kernel_rfl) ?_
      refine nB ?_
      refine nT ?_
      refine xR [hR 0 rfl rfl (r_bin (u1 := .int .i64 ((k : Nat) : Int)) (u2 := .int .i64 1) (v := .int .i64 ((k + 1 : Nat) : Int)) (b_add (by rw [IntKind.wrap_i64]; omega)) (lt_of rfl) ⟨rfl, trivial⟩)] (by kernel_rfl) (by kernel_rfl) ?_
      refine nL (k + 1) (show (k + 1) ≤ (leavesB b).length from (by omega)) (show ((leavesB b).length - (k + 1) : Nat) < (leavesB b).length - k from (by omega)) (fun _ _ hG => Gs.into2 (s' := ⟨[aa, pv 0 0, aa, ownV 1 (kSl false kU8) 0 (leavesB b).length, ownV 2 kU8 0 (outB b (k + 1)).length, aa, aa, aa, aa, aa, aa, aa, aa, aa, aa, aa, aa, aa, aa, aa, aa, aa, aa, ownV 1 (kSl false kU8) 0 (leavesB b).length, dv (.int .i64 (((leavesB b).length : Nat) : Int)), dv (.int .i64 ((k + 1 : Nat) : Int))], [.live (.box 26 [.d (.val (.int .i64 b.f_Height)), .d (.val (strV b.f_Prev)), .d (dsl tb_ false (k_api_Envelope tb_) b.f_Requests), .d (dsl tb_ false (k_api_Result tb_) b.f_Results)]), .live (arrK 29 (kSl false kU8) (leavesB b)), .live (arrK 5 kU8 (outB b (k + 1)))]⟩) [0, 1, 3] (bm 26 58720282) (t1 := [aa, pv 0 0, aa, ownV 1 (kSl false kU8) 0 (leavesB b).length, ownV 3 kU8 0 (outB b (k + 1)).length, aa, aa, aa, aa, aa, aa, aa, aa, aa, aa, aa, aa, aa, aa, aa, aa, aa, aa, ownV 1 (kSl false kU8) 0 (leavesB b).length, dv (.int .i64 (((leavesB b).length : Nat) : Int)), dv (.int .i64 ((k + 1 : Nat) : Int))]) (t2 := [aa, pv 0 0, aa, ownV 1 (kSl false kU8) 0 (leavesB b).length, ownV 3 kU8 0 ((outB b k) ++ ((leavesB b).getD k [])).length, aa, aa, aa, aa, aa, aa, aa, aa, aa, aa, aa, aa, aa, aa, aa, aa, aa, aa, ownV 1 (kSl false kU8) 0 (leavesB b).length, dv (.int .i64 (((leavesB b).length : Nat) : Int)), dv (.int .i64 ((k + 1 : Nat) : Int))]) (h1 := [.live (.box 26 [.d (.val (.int .i64 b.f_Height)), .d (.val (strV b.f_Prev)), .d (dsl tb_ false (k_api_Envelope tb_) b.f_Requests), .d (dsl tb_ false (k_api_Result tb_) b.f_Results)]), .live (arrK 29 (kSl false kU8) (leavesB b)), .live (arrK 5 kU8 (outB b (k + 1)))]) (h2 := [.live (.box 26 [.d (.val (.int .i64 b.f_Height)), .d (.val (strV b.f_Prev)), .d (dsl tb_ false (k_api_Envelope tb_) b.f_Requests), .d (dsl tb_ false (k_api_Result tb_) b.f_Results)]), .live (arrK 29 (kSl false kU8) (leavesB b)), .live (arrK 5 kU8 ((outB b k) ++ ((leavesB b).getD k [])))]) (by have e1 : ((outB b (k + 1)).length : Nat) = ((outB b k) ++ ((leavesB b).getD k [])).length := (by first | rfl | (rw [out_succ (by omega)])); have hE := congrArg (fun (q1 : Nat) => ([aa, pv 0 0, aa, ownV 1 (kSl false kU8) 0 (leavesB b).length, ownV 3 kU8 0 q1, aa, aa, aa, aa, aa, aa, aa, aa, aa, aa, aa, aa, aa, aa, aa, aa, aa, aa, ownV 1 (kSl false kU8) 0 (leavesB b).length, dv (.int .i64 (((leavesB b).length : Nat) : Int)), dv (.int .i64 ((k + 1 : Nat) : Int))] : List AV)) e1; exact hE) (by have e1 : ((outB b (k + 1)) : List UInt8) = (outB b k) ++ ((leavesB b).getD k []) := (by first | rfl | (rw [out_succ (by omega)])); have hE := congrArg (fun (q1 : List UInt8) => ([.live (.box 26 [.d (.val (.int .i64 b.f_Height)), .d (.val (strV b.f_Prev)), .d (dsl tb_ false (k_api_Envelope tb_) b.f_Requests), .d (dsl tb_ false (k_api_Result tb_) b.f_Results)]), .live (arrK 29 (kSl false kU8) (leavesB b)), .live (arrK 5 kU8 q1)] : List HS)) e1; exact hE) (by kernel_rfl) (by kernel_rfl) (by kernel_rfl) (by kernel_rfl) (by kernel_rfl) (by kernel_rfl) (by kernel_rfl) (by kernel_rfl) (by kernel_rfl) (by kernel_rfl) (by kernel_rfl) hG)
    · refine T.condF (by kernel_rfl) (decide_eq_false hq2) ?_
      refine T.exit ?_
      refine xT ?_
      refine xT ?_
      refine xH ?_
      refine nT ?_
      refine T.seq ?_
      refine xR [] (by kernel_rfl) (by kernel_rfl) ?_
      refine nT ?_
      refine T.ret ?_
      refine Ends.turn (s' := ⟨[aa, pv 0 0, ownV 2 kU8 0 (outB b k).length, ownV 1 (kSl false kU8) 0 (leavesB b).length, ownV 2 kU8 0 (outB b k).length, aa, aa, aa, aa, aa, aa, aa, aa, aa, aa, aa, aa, aa, aa, aa, aa, aa, aa, ownV 1 (kSl false kU8) 0 (leavesB b).length, dv (.int .i64 (((leavesB b).length : Nat) : Int)), dv (.int .i64 ((k : Nat) : Int)), dv (.bool (decide (((k : Nat) : Int) < (((leavesB b).length : Nat) : Int))))], [.live (.box 26 [.d (.val (.int .i64 b.f_Height)), .d (.val (strV b.f_Prev)), .d (dsl tb_ false (k_api_Envelope tb_) b.f_Requests), .d (dsl tb_ false (k_api_Result tb_) b.f_Results)]), .live (arrK 29 (kSl false kU8) (leavesB b)), .live (arrK 5 kU8 (outB b k))]⟩) (fun _ _ hG => Gs.norm (by kernel_rfl) hG) ?_
      refine Ends.turn (s' := ⟨[aa, pv 0 0, slV false false kU8 (outB b k), ownV 1 (kSl false kU8) 0 (leavesB b).length, slV false false kU8 (outB b k), aa, aa, aa, aa, aa, aa, aa, aa, aa, aa, aa, aa, aa, aa, aa, aa, aa, aa, ownV 1 (kSl false kU8) 0 (leavesB b).length, dv (.int .i64 (((leavesB b).length : Nat) : Int)), dv (.int .i64 ((k : Nat) : Int)), dv (.bool (decide (((k : Nat) : Int) < (((leavesB b).length : Nat) : Int))))], [.live (.box 26 [.d (.val (.int .i64 b.f_Height)), .d (.val (strV b.f_Prev)), .d (dsl tb_ false (k_api_Envelope tb_) b.f_Requests), .d (dsl tb_ false (k_api_Result tb_) b.f_Results)]), .live (arrK 29 (kSl false kU8) (leavesB b)), .dead]⟩) (fun _ _ hG => Gs.freeze (s := ⟨[aa, pv 0 0, ownV 2 kU8 0 (outB b k).length, ownV 1 (kSl false kU8) 0 (leavesB b).length, ownV 2 kU8 0 (outB b k).length, aa, aa, aa, aa, aa, aa, aa, aa, aa, aa, aa, aa, aa, aa, aa, aa, aa, aa, ownV 1 (kSl false kU8) 0 (leavesB b).length, dv (.int .i64 (((leavesB b).length : Nat) : Int)), dv (.int .i64 ((k : Nat) : Int)), dv (.bool (decide (((k : Nat) : Int) < (((leavesB b).length : Nat) : Int))))], [.live (.box 26 [.d (.val (.int .i64 b.f_Height)), .d (.val (strV b.f_Prev)), .d (dsl tb_ false (k_api_Envelope tb_) b.f_Requests), .d (dsl tb_ false (k_api_Result tb_) b.f_Results)]), .live (arrK 29 (kSl false kU8) (leavesB b)), .live (arrK 5 kU8 (outB b k))]⟩) 2 (el := elOf kU8 (outB b k)) (sz := kU8.sz) (n := (outB b k).length) rfl ⟨(.inl rfl), ⟨(.inl rfl), ⟨(.inr (.inr ⟨rfl, rfl, rfl, (fun h => by cases h), rfl, rfl, by omega, fun i j _ => by rw [Nat.zero_add]⟩)), ⟨(.inl rfl), ⟨(.inr (.inr ⟨rfl, rfl, rfl, (fun h => by cases h), rfl, rfl, by omega, fun i j _ => by rw [Nat.zero_add]⟩)), ⟨(.inl rfl), ⟨(.inl rfl), ⟨(.inl rfl), ⟨(.inl rfl), ⟨(.inl rfl), ⟨(.inl rfl), ⟨(.inl rfl), ⟨(.inl rfl), ⟨(.inl rfl), ⟨(.inl rfl), ⟨(.inl rfl), ⟨(.inl rfl), ⟨(.inl rfl), ⟨(.inl rfl), ⟨(.inl rfl), ⟨(.inl rfl), ⟨(.inl rfl), ⟨(.inl rfl), ⟨(.inl rfl), ⟨(.inl rfl), ⟨(.inl rfl), ⟨(.inl rfl), trivial⟩⟩⟩⟩⟩⟩⟩⟩⟩⟩⟩⟩⟩⟩⟩⟩⟩⟩⟩⟩⟩⟩⟩⟩⟩⟩⟩ ⟨(.inr ⟨by decide, .inl rfl⟩), ⟨(.inr ⟨by decide, .inl rfl⟩), ⟨(.inl ⟨rfl, rfl⟩), trivial⟩⟩⟩ hG) ?_
      exact tE (.inl rfl) [.t 2 (.one (.d (dsl false false kU8 (outB b k))))] ⟨⟨rfl, by kernel_rfl⟩, trivial⟩ [] (by have e1 : ((putB b) : List UInt8) = (outB b k) := (by first | rfl | (rw [putB, if_pos (Classical.not_not.1 (by assumption)), show k = (leavesB b).length by omega]) | (rw [putB, if_pos (by assumption), show k = (leavesB b).length by omega]) | (rw [putB, if_neg (by assumption)])); have hE := congrArg (fun (q1 : List UInt8) => (slV false false kU8 q1 : AV)) e1; exact hE) rfl rfl rfl rfl rfl trivial

-- quaestor/quaestorlaw10.Few
theorem law_Few (tb_ : Bool) (b : api_Block) (hq : b.f_Requests.length ≤ 9223372036854775807) (hr : b.f_Results.length ≤ 9223372036854775807) : Holds Try.prog 8 ⟨[.tv (.agg [.d (.val (.int .i64 b.f_Height)), .d (.val (strV b.f_Prev)), .d (dsl tb_ false (k_api_Envelope tb_) b.f_Requests), .d (dsl tb_ false (k_api_Result tb_) b.f_Results)])], [], dv (.bool (decide (smallB b))), []⟩ := by
  refine Holds.of Try.func8 rfl (N := 35) Try.ntmps8 rfl fun w0 B0 S0 U0 => ?_
  show T _ (mkBase 35 0 w0 S0 U0 B0) ⟨[.tv (.agg [.d (.val (.int .i64 b.f_Height)), .d (.val (strV b.f_Prev)), .d (dsl tb_ false (k_api_Envelope tb_) b.f_Requests), .d (dsl tb_ false (k_api_Result tb_) b.f_Results)])], []⟩ _ _
  refine T.seq ?_
  refine xR [] (by kernel_rfl) (by kernel_rfl) ?_
  refine nT ?_
  refine T.seq ?_
  refine T.seq ?_
  by_cases hq1 : ((b.f_Requests.length : Nat) : Int) > 20
  · refine xR [hN 5 false (decide_eq_true hq1),
      hN 6 false (decide_eq_true hq1),
      hN 7 false (decide_eq_true hq1),
      hN 8 false (decide_eq_true hq1),
      hP 9 (decide_eq_true hq1),
      hN 11 (b := true) false rfl,
      hN 12 (b := true) false rfl,
      hN 13 (b := true) false rfl,
      hN 14 (b := true) false rfl,
      hP 15 (b := true) (w := true) rfl] (by kernel_rfl) (by kernel_rfl) ?_
    refine nT ?_
    refine T.condT (b := true) (by kernel_rfl) rfl ?_
    refine T.seq ?_
    refine xR [] (by kernel_rfl) (by kernel_rfl) ?_
    refine nT ?_
    refine T.ret ?_
    refine rT ?_
    exact tE (.inl rfl) [.t 2 (.one (.d (.val (.bool false))))] ⟨⟨rfl, by kernel_rfl⟩, trivial⟩ [] (by have e1 : ((decide (smallB b)) : Bool) = false := (by first | exact decide_eq_false (fun h9 => by have h8 := h9.1.1.1; omega) | exact decide_eq_false (fun h9 => by have h8 := h9.1.2.1; omega) | exact decide_eq_false (fun h9 => by have h8 := h9.2; omega) | exact decide_eq_false (fun h9 => fewG_no2 (z := z_api_Envelope) (k := k) (by omega) (by assumption) rfl h9.1.1) | exact decide_eq_true ⟨⟨fewG_yes (z := z_api_Envelope) (k := k) (by assumption) rfl (by omega) hb, by omega, by omega⟩, by omega⟩); have hE := congrArg (fun (q1 : Bool) => (dv (.bool q1) : AV)) e1; exact hE) rfl rfl rfl rfl rfl trivial
  · by_cases hq2 : ((b.f_Results.length : Nat) : Int) > 20
    · refine xR [hY 5 (decide_eq_false hq1),
        hY 6 (decide_eq_false hq1),
        hY 7 (decide_eq_false hq1),
        hY 8 (decide_eq_false hq1),
        hP 9 (decide_eq_false hq1),
        hN 11 false (decide_eq_true hq2),
        hN 12 false (decide_eq_true hq2),
        hN 13 false (decide_eq_true hq2),
        hN 14 false (decide_eq_true hq2),
        hP 15 (decide_eq_true hq2)] (by kernel_rfl) (by kernel_rfl) ?_
      refine nT ?_
      refine T.condT (b := true) (by kernel_rfl) rfl ?_
      refine T.seq ?_
      refine xR [] (by kernel_rfl) (by kernel_rfl) ?_
      refine nT ?_
      refine T.ret ?_
      refine rT ?_
      exact tE (.inl rfl) [.t 2 (.one (.d (.val (.bool false))))] ⟨⟨rfl, by kernel_rfl⟩, trivial⟩ [] (by have e1 : ((decide (smallB b)) : Bool) = false := (by first | exact decide_eq_false (fun h9 => by have h8 := h9.1.1.1; omega) | exact decide_eq_false (fun h9 => by have h8 := h9.1.2.1; omega) | exact decide_eq_false (fun h9 => by have h8 := h9.2; omega) | exact decide_eq_false (fun h9 => fewG_no2 (z := z_api_Envelope) (k := k) (by omega) (by assumption) rfl h9.1.1) | exact decide_eq_true ⟨⟨fewG_yes (z := z_api_Envelope) (k := k) (by assumption) rfl (by omega) hb, by omega, by omega⟩, by omega⟩); have hE := congrArg (fun (q1 : Bool) => (dv (.bool q1) : AV)) e1; exact hE) rfl rfl rfl rfl rfl trivial
    · refine xR [hY 5 (decide_eq_false hq1),
        hY 6 (decide_eq_false hq1),
        hY 7 (decide_eq_false hq1),
        hY 8 (decide_eq_false hq1),
        hP 9 (decide_eq_false hq1),
        hY 11 (decide_eq_false hq2),
        hY 12 (decide_eq_false hq2),
        hY 13 (decide_eq_false hq2),
        hY 14 (decide_eq_false hq2),
        hP 15 (decide_eq_false hq2)] (by kernel_rfl) (by kernel_rfl) ?_
      refine nT ?_
      by_cases hq3 : ((b.f_Prev.length : Nat) : Int) > 5000
      · refine T.condT (by kernel_rfl) (decide_eq_true hq3) ?_
        refine T.seq ?_
        refine xR [] (by kernel_rfl) (by kernel_rfl) ?_
        refine nT ?_
        refine T.ret ?_
        refine rT ?_
        exact tE (.inl rfl) [.t 2 (.one (.d (.val (.bool false))))] ⟨⟨rfl, by kernel_rfl⟩, trivial⟩ [] (by have e1 : ((decide (smallB b)) : Bool) = false := (by first | exact decide_eq_false (fun h9 => by have h8 := h9.1.1.1; omega) | exact decide_eq_false (fun h9 => by have h8 := h9.1.2.1; omega) | exact decide_eq_false (fun h9 => by have h8 := h9.2; omega) | exact decide_eq_false (fun h9 => fewG_no2 (z := z_api_Envelope) (k := k) (by omega) (by assumption) rfl h9.1.1) | exact decide_eq_true ⟨⟨fewG_yes (z := z_api_Envelope) (k := k) (by assumption) rfl (by omega) hb, by omega, by omega⟩, by omega⟩); have hE := congrArg (fun (q1 : Bool) => (dv (.bool q1) : AV)) e1; exact hE) rfl rfl rfl rfl rfl trivial
      · refine T.condF (by kernel_rfl) (decide_eq_false hq3) ?_
        refine T.skip ?_
        refine nT ?_
        refine T.seq ?_
        refine T.seq ?_
        refine xR [] (by kernel_rfl) (by kernel_rfl) ?_
        refine nT ?_
        refine T.block ?_
        refine T.loop (ι := Nat) (fun (k : Nat) => ⟨[.tv (.agg [.d (.val (.int .i64 b.f_Height)), .d (.val (strV b.f_Prev)), .d (dsl tb_ false (k_api_Envelope tb_) b.f_Requests), .d (dsl tb_ false (k_api_Result tb_) b.f_Results)]), pv 0 0, dv (.bool false), dv (.int .i64 ((k : Nat) : Int)), aa, aa, aa, aa, aa, aa, aa, aa, aa, aa, aa, aa, aa, aa, aa, dv (.bool (decide (((b.f_Prev.length : Nat) : Int) > 5000)))], [.live (.box 26 [.d (.val (.int .i64 b.f_Height)), .d (.val (strV b.f_Prev)), .d (dsl tb_ false (k_api_Envelope tb_) b.f_Requests), .d (dsl tb_ false (k_api_Result tb_) b.f_Results)])]⟩) (fun (k : Nat) => (k ≤ b.f_Requests.length) ∧ (∀ j, j < k → szE (b.f_Requests.getD j z_api_Envelope) ≤ 500)) (fun (k : Nat) => b.f_Requests.length - k) (0) ⟨(Nat.zero_le _), (fun j hj => absurd hj (Nat.not_lt_zero _))⟩ (fun _ _ hG => Gs.into2 (s' := ⟨[.tv (.agg [.d (.val (.int .i64 b.f_Height)), .d (.val (strV b.f_Prev)), .d (dsl tb_ false (k_api_Envelope tb_) b.f_Requests), .d (dsl tb_ false (k_api_Result tb_) b.f_Results)]), pv 0 0, dv (.bool false), dv (.int .i64 0), aa, aa, aa, aa, aa, aa, aa, aa, aa, aa, aa, aa, aa, aa, aa, dv (.bool (decide (((b.f_Prev.length : Nat) : Int) > 5000)))], [.live (.box 26 [.d (.val (.int .i64 b.f_Height)), .d (.val (strV b.f_Prev)), .d (dsl tb_ false (k_api_Envelope tb_) b.f_Requests), .d (dsl tb_ false (k_api_Result tb_) b.f_Results)])]⟩) [0] (bm 20 524303) (t1 := [.tv (.agg [.d (.val (.int .i64 b.f_Height)), .d (.val (strV b.f_Prev)), .d (dsl tb_ false (k_api_Envelope tb_) b.f_Requests), .d (dsl tb_ false (k_api_Result tb_) b.f_Results)]), pv 0 0, dv (.bool false), dv (.int .i64 0), aa, aa, aa, aa, aa, aa, aa, aa, aa, aa, aa, aa, aa, aa, aa, dv (.bool (decide (((b.f_Prev.length : Nat) : Int) > 5000)))]) (h1 := [.live (.box 26 [.d (.val (.int .i64 b.f_Height)), .d (.val (strV b.f_Prev)), .d (dsl tb_ false (k_api_Envelope tb_) b.f_Requests), .d (dsl tb_ false (k_api_Result tb_) b.f_Results)])]) rfl rfl (by kernel_rfl) (by kernel_rfl) (by kernel_rfl) (by kernel_rfl) (by kernel_rfl) (by kernel_rfl) (by kernel_rfl) (by kernel_rfl) (by kernel_rfl) (by kernel_rfl) (by kernel_rfl) hG) ?_
        rintro k ⟨hk, hb⟩
        show T _ _ ⟨[.tv (.agg [.d (.val (.int .i64 b.f_Height)), .d (.val (strV b.f_Prev)), .d (dsl tb_ false (k_api_Envelope tb_) b.f_Requests), .d (dsl tb_ false (k_api_Result tb_) b.f_Results)]), pv 0 0, dv (.bool false), dv (.int .i64 ((k : Nat) : Int)), aa, aa, aa, aa, aa, aa, aa, aa, aa, aa, aa, aa, aa, aa, aa, dv (.bool (decide (((b.f_Prev.length : Nat) : Int) > 5000)))], [.live (.box 26 [.d (.val (.int .i64 b.f_Height)), .d (.val (strV b.f_Prev)), .d (dsl tb_ false (k_api_Envelope tb_) b.f_Requests), .d (dsl tb_ false (k_api_Result tb_) b.f_Results)])]⟩ _ _
        replace hk : k ≤ b.f_Requests.length := hk
        replace hb : ∀ j, j < k → szE (b.f_Requests.getD j z_api_Envelope) ≤ 500 := hb
        refine T.seq ?_
        refine T.seq ?_
        refine xR [] (by kernel_rfl) (by kernel_rfl) ?_
        refine nT ?_
        by_cases hq4 : ((k : Nat) : Int) < ((b.f_Requests.length : Nat) : Int)
        · refine T.condT (by kernel_rfl) (decide_eq_true hq4) ?_
          refine T.skip ?_
          refine nT ?_
          refine T.seq ?_
          refine T.block ?_
          refine T.seq ?_
          refine xR [hR 3 rfl rfl (q_index tb_ false (k_api_Envelope tb_) b.f_Requests k (k := .i64) (i := ((k : Nat) : Int)) Try.underlying23 iat_32 rfl rfl (by first | assumption | omega | (unfold maxLen; omega) | (simp [maxLen, -List.getD_eq_getElem?_getD] <;> omega) | decide) (lt_of rfl) trivial)] (by kernel_rfl) (by kernel_rfl) ?_
          refine nT ?_
          by_cases hq5 : (((b.f_Requests.getD k z_api_Envelope).f_Body.length : Nat) : Int) > 500
          · refine T.condT (by kernel_rfl) (decide_eq_true hq5) ?_
            refine T.seq ?_
            refine xR [] (by kernel_rfl) (by kernel_rfl) ?_
            refine nT ?_
            refine T.ret ?_
            refine rB ?_
            refine rT ?_
            refine rT ?_
            refine rB ?_
            refine rT ?_
            exact tE (.inl rfl) [.t 2 (.one (.d (.val (.bool false))))] ⟨⟨rfl, by kernel_rfl⟩, trivial⟩ [] (by have e1 : ((decide (smallB b)) : Bool) = false := (by first | exact decide_eq_false (fun h9 => by have h8 := h9.1.1.1; omega) | exact decide_eq_false (fun h9 => by have h8 := h9.1.2.1; omega) | exact decide_eq_false (fun h9 => by have h8 := h9.2; omega) | exact decide_eq_false (fun h9 => fewG_no2 (z := z_api_Envelope) (k := k) (by omega) (by assumption) rfl h9.1.1) | exact decide_eq_true ⟨⟨fewG_yes (z := z_api_Envelope) (k := k) (by assumption) rfl (by omega) hb, by omega, by omega⟩, by omega⟩); have hE := congrArg (fun (q1 : Bool) => (dv (.bool q1) : AV)) e1; exact hE) rfl rfl rfl rfl rfl trivial
          · refine T.condF (by kernel_rfl) (decide_eq_false hq5) ?_
            refine T.skip ?_
            refine nB ?_
            refine nT ?_
            refine xR [hR 1 rfl rfl (r_bin (u1 := .int .i64 ((k : Nat) : Int)) (u2 := .int .i64 1) (v := .int .i64 ((k + 1 : Nat) : Int)) (b_add (by rw [IntKind.wrap_i64]; omega)) (lt_of rfl) ⟨rfl, trivial⟩)] (by kernel_rfl) (by kernel_rfl) ?_
            refine nL (k + 1) ⟨(show (k + 1) ≤ b.f_Requests.length from (by omega)), (show ∀ j, j < (k + 1) → szE (b.f_Requests.getD j z_api_Envelope) ≤ 500 from (all_succ hb (by have h9 : ((((b.f_Requests.getD k z_api_Envelope).f_Body.length : Nat) : Int)) ≤ 500 := (by omega); exact Int.ofNat_le.1 h9)))⟩ (show (b.f_Requests.length - (k + 1) : Nat) < b.f_Requests.length - k from (by omega)) (fun _ _ hG => Gs.into2 (s' := ⟨[.tv (.agg [.d (.val (.int .i64 b.f_Height)), .d (.val (strV b.f_Prev)), .d (dsl tb_ false (k_api_Envelope tb_) b.f_Requests), .d (dsl tb_ false (k_api_Result tb_) b.f_Results)]), pv 0 0, dv (.bool false), dv (.int .i64 ((k + 1 : Nat) : Int)), aa, aa, aa, aa, aa, aa, aa, aa, aa, aa, aa, aa, aa, aa, aa, dv (.bool (decide (((b.f_Prev.length : Nat) : Int) > 5000)))], [.live (.box 26 [.d (.val (.int .i64 b.f_Height)), .d (.val (strV b.f_Prev)), .d (dsl tb_ false (k_api_Envelope tb_) b.f_Requests), .d (dsl tb_ false (k_api_Result tb_) b.f_Results)])]⟩) [0] (bm 20 524303) (t1 := [.tv (.agg [.d (.val (.int .i64 b.f_Height)), .d (.val (strV b.f_Prev)), .d (dsl tb_ false (k_api_Envelope tb_) b.f_Requests), .d (dsl tb_ false (k_api_Result tb_) b.f_Results)]), pv 0 0, dv (.bool false), dv (.int .i64 ((k + 1 : Nat) : Int)), aa, aa, aa, aa, aa, aa, aa, aa, aa, aa, aa, aa, aa, aa, aa, dv (.bool (decide (((b.f_Prev.length : Nat) : Int) > 5000)))]) (h1 := [.live (.box 26 [.d (.val (.int .i64 b.f_Height)), .d (.val (strV b.f_Prev)), .d (dsl tb_ false (k_api_Envelope tb_) b.f_Requests), .d (dsl tb_ false (k_api_Result tb_) b.f_Results)])]) rfl rfl (by kernel_rfl) (by kernel_rfl) (by kernel_rfl) (by kernel_rfl) (by kernel_rfl) (by kernel_rfl) (by kernel_rfl) (by kernel_rfl) (by kernel_rfl) (by kernel_rfl) (by kernel_rfl) hG)
        · refine T.condF (by kernel_rfl) (decide_eq_false hq4) ?_
          refine T.exit ?_
          refine xT ?_
          refine xT ?_
          refine xH ?_
          refine nT ?_
          refine T.seq ?_
          refine xR [] (by kernel_rfl) (by kernel_rfl) ?_
          refine nT ?_
          refine T.ret ?_
          exact tE (.inl rfl) [.t 2 (.one (.d (.val (.bool true))))] ⟨⟨rfl, by kernel_rfl⟩, trivial⟩ [] (by have e1 : ((decide (smallB b)) : Bool) = true := (by first | exact decide_eq_false (fun h9 => by have h8 := h9.1.1.1; omega) | exact decide_eq_false (fun h9 => by have h8 := h9.1.2.1; omega) | exact decide_eq_false (fun h9 => by have h8 := h9.2; omega) | exact decide_eq_false (fun h9 => fewG_no2 (z := z_api_Envelope) (k := k) (by omega) (by assumption) rfl h9.1.1) | exact decide_eq_true ⟨⟨fewG_yes (z := z_api_Envelope) (k := k) (by assumption) rfl (by omega) hb, by omega, by omega⟩, by omega⟩); have hE := congrArg (fun (q1 : Bool) => (dv (.bool q1) : AV)) e1; exact hE) rfl rfl rfl rfl rfl trivial

-- quaestor/quaestorref03.Same
theorem ref03_Same (ta : Bool) (tb : Bool) (a : api_Envelope) (b : api_Envelope) : Holds Try.prog 63 ⟨[.tv (.agg [.d (.val (.int .i64 a.f_Signer)), .d (dsl ta false kU8 a.f_Body)]), .tv (.agg [.d (.val (.int .i64 b.f_Signer)), .d (dsl tb false kU8 b.f_Body)])], [], dv (.bool (decide (a = b))), []⟩ := by
  refine Holds.of Try.func63 rfl (N := 17) Try.ntmps63 rfl fun w0 B0 S0 U0 => ?_
  show T _ (mkBase 17 0 w0 S0 U0 B0) ⟨[.tv (.agg [.d (.val (.int .i64 a.f_Signer)), .d (dsl ta false kU8 a.f_Body)]), .tv (.agg [.d (.val (.int .i64 b.f_Signer)), .d (dsl tb false kU8 b.f_Body)])], []⟩ _ _
  refine T.seq ?_
  refine xR [] (by kernel_rfl) (by kernel_rfl) ?_
  refine nT ?_
  refine T.seq ?_
  by_cases hq1 : a.f_Signer = b.f_Signer
  · refine xR [hY 6 (decide_eq_true hq1),
      hY 7 (decide_eq_true hq1),
      hY 8 (decide_eq_true hq1),
      hY 9 (decide_eq_true hq1),
      hS 10 (oY rfl rfl rfl rfl (lt_of rfl) (decide_eq_true hq1) (r_call (ref01_Same ta false tb false a.f_Body b.f_Body ) Try.func9 rfl (by decide) [] [] (l := [(.tmp 12, slV ta false kU8 a.f_Body), (.tmp 14, slV tb false kU8 b.f_Body)]) [] rfl 0 0 rfl rfl rfl rfl rfl rfl rfl rfl rfl ⟨.inl ⟨rfl, rfl⟩, ⟨.inl ⟨rfl, rfl⟩, trivial⟩⟩ rfl (fun b hb => by cases hb) (.inl rfl) (lt_of rfl) trivial)),
      hP 11 (decide_eq_true hq1)] (by kernel_rfl) (by kernel_rfl) ?_
    refine nT ?_
    refine T.ret ?_
    exact tE (.inl rfl) [.t 4 (.one (.d (.val (.bool (decide (a.f_Body = b.f_Body))))))] ⟨⟨rfl, by kernel_rfl⟩, trivial⟩ [] (by have e1 : ((decide (a = b)) : Bool) = (decide (a.f_Body = b.f_Body)) := (by simp [api_Envelope_iff, *]); have hE := congrArg (fun (q1 : Bool) => (dv (.bool q1) : AV)) e1; exact hE) rfl rfl rfl rfl rfl trivial
  · refine xR [hN 6 true (decide_eq_false hq1),
      hN 7 true (decide_eq_false hq1),
      hN 8 true (decide_eq_false hq1),
      hN 9 true (decide_eq_false hq1),
      hN 10 true (decide_eq_false hq1),
      hP 11 (decide_eq_false hq1)] (by kernel_rfl) (by kernel_rfl) ?_
    refine nT ?_
    refine T.ret ?_
    exact tE (.inl rfl) [.t 4 (.one (.d (.val (.bool false))))] ⟨⟨rfl, by kernel_rfl⟩, trivial⟩ [] (by have e1 : ((decide (a = b)) : Bool) = false := (by simp [api_Envelope_iff, *]); have hE := congrArg (fun (q1 : Bool) => (dv (.bool q1) : AV)) e1; exact hE) rfl rfl rfl rfl rfl trivial

-- quaestor/quaestorref03.All
theorem ref03_All (ta : Bool) (na : Bool) (sa : Bool) (tb : Bool) (nb : Bool) (sb : Bool) (a : List api_Envelope) (b : List api_Envelope) (hl : a.length ≤ 9223372036854775807) : Holds Try.prog 42 ⟨[slV ta na (k_api_Envelope sa) a, slV tb nb (k_api_Envelope sb) b], [], dv (.bool (decide (a = b))), []⟩ := by
  refine Holds.of Try.func42 rfl (N := 27) Try.ntmps42 rfl fun w0 B0 S0 U0 => ?_
  show T _ (mkBase 27 0 w0 S0 U0 B0) ⟨[slV ta na (k_api_Envelope sa) a, slV tb nb (k_api_Envelope sb) b], []⟩ _ _
  refine T.seq ?_
  refine xR [] (by kernel_rfl) (by kernel_rfl) ?_
  refine nT ?_
  refine T.seq ?_
  refine T.seq ?_
  refine xR [] (by kernel_rfl) (by kernel_rfl) ?_
  refine nT ?_
  by_cases hq1 : ((a.length : Nat) : Int) ≠ ((b.length : Nat) : Int)
  · refine T.condT (by kernel_rfl) (decide_eq_true hq1) ?_
    refine T.seq ?_
    refine xR [] (by kernel_rfl) (by kernel_rfl) ?_
    refine nT ?_
    refine T.ret ?_
    refine rT ?_
    exact tE (.inl rfl) [.t 4 (.one (.d (.val (.bool false))))] ⟨⟨rfl, by kernel_rfl⟩, trivial⟩ [] (by have e1 : ((decide (a = b)) : Bool) = false := (by first | exact decide_eq_true (rows_eq (z := z_api_Envelope) (k := k) hab (by omega) hb) | exact (decide_eq_true (rows_eq (z := z_api_Envelope) (k := k) hab (by omega) hb)).symm | exact decide_eq_false (fun e => by have h9 : a.length ≠ b.length := (by omega); exact h9 (by rw [e])) | exact (decide_eq_false (fun e => by have h9 : a.length ≠ b.length := (by omega); exact h9 (by rw [e]))).symm | exact decide_eq_false (fun e => by have h9 : ¬ a.getD k z_api_Envelope = b.getD k z_api_Envelope := (by assumption); exact h9 (by rw [e])) | exact (decide_eq_false (fun e => by have h9 : ¬ a.getD k z_api_Envelope = b.getD k z_api_Envelope := (by assumption); exact h9 (by rw [e]))).symm); have hE := congrArg (fun (q1 : Bool) => (dv (.bool q1) : AV)) e1; exact hE) rfl rfl rfl rfl rfl trivial
  · refine T.condF (by kernel_rfl) (decide_eq_false hq1) ?_
    refine T.skip ?_
    refine nT ?_
    refine T.seq ?_
    refine T.seq ?_
    refine xR [] (by kernel_rfl) (by kernel_rfl) ?_
    refine nT ?_
    refine T.block ?_
    refine T.loop (ι := Nat) (fun (k : Nat) => ⟨[slV ta na (k_api_Envelope sa) a, slV tb nb (k_api_Envelope sb) b, aa, aa, dv (.bool false), dv (.int .i64 ((k : Nat) : Int)), aa, aa, aa, aa, dv (.bool (decide (((a.length : Nat) : Int) ≠ ((b.length : Nat) : Int))))], []⟩) (fun (k : Nat) => (k ≤ a.length) ∧ (a.length = b.length) ∧ (∀ j, j < k → a.getD j z_api_Envelope = b.getD j z_api_Envelope)) (fun (k : Nat) => a.length - k) (0) ⟨(Nat.zero_le _), (by omega), (fun j hj => absurd hj (Nat.not_lt_zero _))⟩ (fun _ _ hG => Gs.into2 (s' := ⟨[slV ta na (k_api_Envelope sa) a, slV tb nb (k_api_Envelope sb) b, aa, aa, dv (.bool false), dv (.int .i64 0), aa, aa, aa, aa, dv (.bool (decide (((a.length : Nat) : Int) ≠ ((b.length : Nat) : Int))))], []⟩) [] (bm 11 1075) (t1 := [slV ta na (k_api_Envelope sa) a, slV tb nb (k_api_Envelope sb) b, aa, aa, dv (.bool false), dv (.int .i64 0), aa, aa, aa, aa, dv (.bool (decide (((a.length : Nat) : Int) ≠ ((b.length : Nat) : Int))))]) (h1 := []) rfl rfl (by kernel_rfl) (by kernel_rfl) (by kernel_rfl) (by kernel_rfl) (by kernel_rfl) (by kernel_rfl) (by kernel_rfl) (by kernel_rfl) (by kernel_rfl) (by kernel_rfl) (by kernel_rfl) hG) ?_
    rintro k ⟨hk, hab, hb⟩
    show T _ _ ⟨[slV ta na (k_api_Envelope sa) a, slV tb nb (k_api_Envelope sb) b, aa, aa, dv (.bool false), dv (.int .i64 ((k : Nat) : Int)), aa, aa, aa, aa, dv (.bool (decide (((a.length : Nat) : Int) ≠ ((b.length : Nat) : Int))))], []⟩ _ _
    replace hk : k ≤ a.length := hk
    replace hab : a.length = b.length := hab
    replace hb : ∀ j, j < k → a.getD j z_api_Envelope = b.getD j z_api_Envelope := hb
    refine T.seq ?_
    refine T.seq ?_
    refine xR [] (by kernel_rfl) (by kernel_rfl) ?_
    refine nT ?_
    by_cases hq2 : ((k : Nat) : Int) < ((a.length : Nat) : Int)
    · refine T.condT (by kernel_rfl) (decide_eq_true hq2) ?_
      refine T.skip ?_
      refine nT ?_
      refine T.seq ?_
      refine T.block ?_
      refine T.seq ?_
      refine xD [[], [], [0, 1], [0, 1, 2], [], [], [4, 5], [4, 5, 6], [0, 1, 2, 3, 4, 5, 6, 7], [0, 1, 2, 3, 4, 5, 6, 7, 8]] [hR 2 rfl rfl (q_index ta na (k_api_Envelope sa) a k (k := .i64) (i := ((k : Nat) : Int)) Try.underlying23 iat_32 rfl rfl (by first | assumption | omega | (unfold maxLen; omega) | (simp [maxLen, -List.getD_eq_getElem?_getD] <;> omega) | decide) (lt_of rfl) trivial),
        hR 6 rfl rfl (q_index tb nb (k_api_Envelope sb) b k (k := .i64) (i := ((k : Nat) : Int)) Try.underlying23 iat_32 rfl rfl (by first | assumption | omega | (unfold maxLen; omega) | (simp [maxLen, -List.getD_eq_getElem?_getD] <;> omega) | decide) (lt_of rfl) trivial),
        hR 8 rfl rfl (r_call (ref03_Same sa sb (a.getD k z_api_Envelope) (b.getD k z_api_Envelope) ) Try.func63 rfl (by decide) [] [] (l := [(.tmp 20, .tv (.agg [.d (.val (.int .i64 (a.getD k z_api_Envelope).f_Signer)), .d (dsl sa false kU8 (a.getD k z_api_Envelope).f_Body)])), (.tmp 24, .tv (.agg [.d (.val (.int .i64 (b.getD k z_api_Envelope).f_Signer)), .d (dsl sb false kU8 (b.getD k z_api_Envelope).f_Body)]))]) [] rfl 0 0 rfl rfl rfl rfl rfl rfl rfl rfl rfl ⟨⟨.inl ⟨rfl, rfl⟩, ⟨.inl ⟨rfl, rfl⟩, trivial⟩⟩, ⟨⟨.inl ⟨rfl, rfl⟩, ⟨.inl ⟨rfl, rfl⟩, trivial⟩⟩, trivial⟩⟩ rfl (fun b hb => by cases hb) (.inl rfl) (lt_of rfl) trivial)] (by kernel_rfl) (by kernel_rfl) (by kernel_rfl) (by kernel_rfl) (by kernel_rfl) (by kernel_rfl) ?_
      refine nT ?_
      by_cases hq3 : (a.getD k z_api_Envelope) = (b.getD k z_api_Envelope)
      · refine T.condF (by kernel_rfl) (congrArg Bool.not (decide_eq_true hq3)) ?_
        refine T.skip ?_
        refine nB ?_
        refine nT ?_
        refine xR [hR 1 rfl rfl (r_bin (u1 := .int .i64 ((k : Nat) : Int)) (u2 := .int .i64 1) (v := .int .i64 ((k + 1 : Nat) : Int)) (b_add (by rw [IntKind.wrap_i64]; omega)) (lt_of rfl) ⟨rfl, trivial⟩)] (by kernel_rfl) (by kernel_rfl) ?_
        refine nL (k + 1) ⟨(show (k + 1) ≤ a.length from (by omega)), (show a.length = b.length from hab), (show ∀ j, j < (k + 1) → a.getD j z_api_Envelope = b.getD j z_api_Envelope from (all_succ hb (by assumption)))⟩ (show (a.length - (k + 1) : Nat) < a.length - k from (by omega)) (fun _ _ hG => Gs.into2 (s' := ⟨[slV ta na (k_api_Envelope sa) a, slV tb nb (k_api_Envelope sb) b, aa, aa, dv (.bool false), dv (.int .i64 ((k + 1 : Nat) : Int)), aa, aa, aa, aa, dv (.bool (decide (((a.length : Nat) : Int) ≠ ((b.length : Nat) : Int))))], []⟩) [] (bm 11 1075) (t1 := [slV ta na (k_api_Envelope sa) a, slV tb nb (k_api_Envelope sb) b, aa, aa, dv (.bool false), dv (.int .i64 ((k + 1 : Nat) : Int)), aa, aa, aa, aa, dv (.bool (decide (((a.length : Nat) : Int) ≠ ((b.length : Nat) : Int))))]) (h1 := []) rfl rfl (by kernel_rfl) (by kernel_rfl) (by kernel_rfl) (by kernel_rfl) (by kernel_rfl) (by kernel_rfl) (by kernel_rfl) (by kernel_rfl) (by kernel_rfl) (by kernel_rfl) (by kernel_rfl) hG)
      · refine T.condT (by kernel_rfl) (congrArg Bool.not (decide_eq_false hq3)) ?_
        refine T.seq ?_
        refine xR [] (by kernel_rfl) (by kernel_rfl) ?_
        refine nT ?_
        refine T.ret ?_
        refine rB ?_
        refine rT ?_
        refine rT ?_
        refine rB ?_
        refine rT ?_
        exact tE (.inl rfl) [.t 4 (.one (.d (.val (.bool false))))] ⟨⟨rfl, by kernel_rfl⟩, trivial⟩ [] (by have e1 : ((decide (a = b)) : Bool) = false := (by first | exact decide_eq_true (rows_eq (z := z_api_Envelope) (k := k) hab (by omega) hb) | exact (decide_eq_true (rows_eq (z := z_api_Envelope) (k := k) hab (by omega) hb)).symm | exact decide_eq_false (fun e => by have h9 : a.length ≠ b.length := (by omega); exact h9 (by rw [e])) | exact (decide_eq_false (fun e => by have h9 : a.length ≠ b.length := (by omega); exact h9 (by rw [e]))).symm | exact decide_eq_false (fun e => by have h9 : ¬ a.getD k z_api_Envelope = b.getD k z_api_Envelope := (by assumption); exact h9 (by rw [e])) | exact (decide_eq_false (fun e => by have h9 : ¬ a.getD k z_api_Envelope = b.getD k z_api_Envelope := (by assumption); exact h9 (by rw [e]))).symm); have hE := congrArg (fun (q1 : Bool) => (dv (.bool q1) : AV)) e1; exact hE) rfl rfl rfl rfl rfl trivial
    · refine T.condF (by kernel_rfl) (decide_eq_false hq2) ?_
      refine T.exit ?_
      refine xT ?_
      refine xT ?_
      refine xH ?_
      refine nT ?_
      refine T.seq ?_
      refine xR [] (by kernel_rfl) (by kernel_rfl) ?_
      refine nT ?_
      refine T.ret ?_
      exact tE (.inl rfl) [.t 4 (.one (.d (.val (.bool true))))] ⟨⟨rfl, by kernel_rfl⟩, trivial⟩ [] (by have e1 : ((decide (a = b)) : Bool) = true := (by first | exact decide_eq_true (rows_eq (z := z_api_Envelope) (k := k) hab (by omega) hb) | exact (decide_eq_true (rows_eq (z := z_api_Envelope) (k := k) hab (by omega) hb)).symm | exact decide_eq_false (fun e => by have h9 : a.length ≠ b.length := (by omega); exact h9 (by rw [e])) | exact (decide_eq_false (fun e => by have h9 : a.length ≠ b.length := (by omega); exact h9 (by rw [e]))).symm | exact decide_eq_false (fun e => by have h9 : ¬ a.getD k z_api_Envelope = b.getD k z_api_Envelope := (by assumption); exact h9 (by rw [e])) | exact (decide_eq_false (fun e => by have h9 : ¬ a.getD k z_api_Envelope = b.getD k z_api_Envelope := (by assumption); exact h9 (by rw [e]))).symm); have hE := congrArg (fun (q1 : Bool) => (dv (.bool q1) : AV)) e1; exact hE) rfl rfl rfl rfl rfl trivial
end Go.Proofs.Ytacikihlgpnjhaa.Q
