import Derived.Test.YtlabmehgcfgigaaC04n18
namespace Go.Proofs.Ytlabmehgcfgigaa.Q
open Go Go.RowKit
set_option linter.unusedVariables false
set_option linter.unusedSimpArgs false
set_option maxRecDepth 100000
set_option maxHeartbeats 4000000
-- quaestor/value.Put
theorem value_Put (tb : Bool) (nb : Bool) (b : List UInt8) (v : api_Value) (hb : b.length ≤ 1000000) (ht : v.f_Text.length ≤ 1000) (hn : v.f_Num < 18446744073709551616) : Holds Try.prog 38 ⟨[slV tb nb kU8 b, .tv (.agg [.d (.val (.int .i64 v.f_Kind)), .d (.val (.int .i64 v.f_Int)), .d (.val (.bool v.f_Bool)), .d (.val (strV v.f_Text)), .d (.val (.float .f64 v.f_Num))])], [], ownV 0 kU8 0 (b ++ valB v).length, [.live (arrK 5 kU8 (b ++ valB v))]⟩ := by
  refine Holds.of Try.func38 rfl (N := 37) Try.ntmps38 rfl fun w0 B0 S0 U0 => ?_
  show T _ (mkBase 37 0 w0 S0 U0 B0) ⟨[slV tb nb kU8 b, .tv (.agg [.d (.val (.int .i64 v.f_Kind)), .d (.val (.int .i64 v.f_Int)), .d (.val (.bool v.f_Bool)), .d (.val (strV v.f_Text)), .d (.val (.float .f64 v.f_Num))])], []⟩ _ _
  have hil := int_len v.f_Kind
  refine T.seq ?_
  refine xR [] (by kernel_rfl) (by kernel_rfl) ?_
  refine nT ?_
  refine T.seq ?_
  refine xR [hR 3 rfl rfl (r_call (wire_PutInt tb nb b v.f_Kind (by first | assumption | omega | (unfold maxLen; omega) | (simp [maxLen, -List.getD_eq_getElem?_getD] <;> omega) | decide)) Try.func72 rfl (by decide) [1] [] (l := [(.tmp 5, slV tb nb kU8 b), (.tmp 7, dv (.int .i64 v.f_Kind))]) [] rfl 0 1 rfl rfl rfl rfl rfl rfl rfl rfl rfl ⟨.inl ⟨rfl, rfl⟩, ⟨.inl ⟨rfl, rfl⟩, trivial⟩⟩ rfl (fun b hb => by cases hb) (.inl rfl) (lt_of rfl) trivial)] (by kernel_rfl) (by kernel_rfl) ?_
  refine nT ?_
  refine T.seq ?_
  refine T.seq ?_
  refine xR [] (by kernel_rfl) (by kernel_rfl) ?_
  refine nT ?_
  refine T.block ?_
  refine T.seq ?_
  refine xR [] (by kernel_rfl) (by kernel_rfl) ?_
  refine nT ?_
  by_cases hq1 : v.f_Kind = 1
  · refine T.condT (by kernel_rfl) (decide_eq_true hq1) ?_
    refine xR [hR 3 rfl rfl (r_call (wire_PutInt true false (b ++ intB v.f_Kind) v.f_Int (by first | assumption | omega | (unfold maxLen; omega) | (simp [maxLen, -List.getD_eq_getElem?_getD] <;> omega) | decide)) Try.func72 rfl (by decide) [2] [1] (l := [(.tmp 13, ownV 1 kU8 0 (b ++ intB v.f_Kind).length), (.tmp 15, dv (.int .i64 v.f_Int))]) [(1, .live (arrK 5 kU8 (b ++ intB v.f_Kind)))] rfl 0 1 rfl rfl rfl rfl rfl rfl rfl rfl rfl ⟨.inr (.inl ⟨rfl, (fun h => by cases h), rfl, rfl, by simp, 5, (b ++ intB v.f_Kind).length, elOf kU8 (b ++ intB v.f_Kind), List.Mem.head _, by omega, fun i j => by rw [Nat.zero_add]⟩), ⟨.inl ⟨rfl, rfl⟩, trivial⟩⟩ rfl (by intro b hb; simp only [List.mem_cons, List.not_mem_nil, or_false] at hb; rcases hb with rfl; exact ⟨_, List.Mem.head _⟩) (.inr ⟨trivial, (And.intro (arr_nt kU8_nt) trivial)⟩) (lt_of rfl) trivial)] (by kernel_rfl) (by kernel_rfl) ?_
    refine nB ?_
    refine nT ?_
    refine T.seq ?_
    refine xR [] (by kernel_rfl) (by kernel_rfl) ?_
    refine nT ?_
    refine T.ret ?_
    exact tE (.inl rfl) [.t 4 (.one (.own 2 kU8.sz 0 (b ++ intB v.f_Kind ++ intB v.f_Int).length))] ⟨⟨rfl, by kernel_rfl⟩, trivial⟩ [2] (by have e1 : ((b ++ valB v).length : Nat) = (b ++ intB v.f_Kind ++ intB v.f_Int).length := (by first | (first | (rw [val_1 (by assumption), ← List.append_assoc]) | (rw [val_2 (by assumption), ← List.append_assoc]) | (rw [val_3 (by assumption), ← List.append_assoc]) | (rw [val_4 (by assumption), ← List.append_assoc]) | (rw [val_0 (by assumption) (by assumption) (by assumption) (by assumption)])) | (symm; first | (rw [val_1 (by assumption), ← List.append_assoc]) | (rw [val_2 (by assumption), ← List.append_assoc]) | (rw [val_3 (by assumption), ← List.append_assoc]) | (rw [val_4 (by assumption), ← List.append_assoc]) | (rw [val_0 (by assumption) (by assumption) (by assumption) (by assumption)]))); have hE := congrArg (fun (q1 : Nat) => (ownV 2 kU8 0 q1 : AV)) e1; exact hE) rfl rfl rfl rfl rfl ⟨⟨rfl, (by have e1 : (b ++ intB v.f_Kind ++ intB v.f_Int : List UInt8) = b ++ valB v := (by first | (first | (rw [val_1 (by assumption), ← List.append_assoc]) | (rw [val_2 (by assumption), ← List.append_assoc]) | (rw [val_3 (by assumption), ← List.append_assoc]) | (rw [val_4 (by assumption), ← List.append_assoc]) | (rw [val_0 (by assumption) (by assumption) (by assumption) (by assumption)])) | (symm; first | (rw [val_1 (by assumption), ← List.append_assoc]) | (rw [val_2 (by assumption), ← List.append_assoc]) | (rw [val_3 (by assumption), ← List.append_assoc]) | (rw [val_4 (by assumption), ← List.append_assoc]) | (rw [val_0 (by assumption) (by assumption) (by assumption) (by assumption)]))); have hE := congrArg (fun (q1 : List UInt8) => (.live (arrK 5 kU8 q1) : HS)) e1; exact Eq.trans (by kernel_rfl) hE)⟩, trivial⟩
  · refine T.condF (by kernel_rfl) (decide_eq_false hq1) ?_
    refine T.seq ?_
    refine xR [] (by kernel_rfl) (by kernel_rfl) ?_
    refine nT ?_
    by_cases hq2 : v.f_Kind = 2
    · refine T.condT (by kernel_rfl) (decide_eq_true hq2) ?_
      refine xR [hR 3 rfl rfl (r_call (wire_PutBool true false (b ++ intB v.f_Kind) v.f_Bool (by first | assumption | omega | (unfold maxLen; omega) | (simp [maxLen, -List.getD_eq_getElem?_getD] <;> omega) | decide)) Try.func73 rfl (by decide) [2] [1] (l := [(.tmp 19, ownV 1 kU8 0 (b ++ intB v.f_Kind).length), (.tmp 21, dv (.bool v.f_Bool))]) [(1, .live (arrK 5 kU8 (b ++ intB v.f_Kind)))] rfl 0 1 rfl rfl rfl rfl rfl rfl rfl rfl rfl ⟨.inr (.inl ⟨rfl, (fun h => by cases h), rfl, rfl, by simp, 5, (b ++ intB v.f_Kind).length, elOf kU8 (b ++ intB v.f_Kind), List.Mem.head _, by omega, fun i j => by rw [Nat.zero_add]⟩), ⟨.inl ⟨rfl, rfl⟩, trivial⟩⟩ rfl (by intro b hb; simp only [List.mem_cons, List.not_mem_nil, or_false] at hb; rcases hb with rfl; exact ⟨_, List.Mem.head _⟩) (.inr ⟨trivial, (And.intro (arr_nt kU8_nt) trivial)⟩) (lt_of rfl) trivial)] (by kernel_rfl) (by kernel_rfl) ?_
      refine nB ?_
      refine nT ?_
      refine T.seq ?_
      refine xR [] (by kernel_rfl) (by kernel_rfl) ?_
      refine nT ?_
      refine T.ret ?_
      exact tE (.inl rfl) [.t 4 (.one (.own 2 kU8.sz 0 (b ++ intB v.f_Kind ++ boolB v.f_Bool).length))] ⟨⟨rfl, by kernel_rfl⟩, trivial⟩ [2] (by have e1 : ((b ++ valB v).length : Nat) = (b ++ intB v.f_Kind ++ boolB v.f_Bool).length := (by first | (first | (rw [val_1 (by assumption), ← List.append_assoc]) | (rw [val_2 (by assumption), ← List.append_assoc]) | (rw [val_3 (by assumption), ← List.append_assoc]) | (rw [val_4 (by assumption), ← List.append_assoc]) | (rw [val_0 (by assumption) (by assumption) (by assumption) (by assumption)])) | (symm; first | (rw [val_1 (by assumption), ← List.append_assoc]) | (rw [val_2 (by assumption), ← List.append_assoc]) | (rw [val_3 (by assumption), ← List.append_assoc]) | (rw [val_4 (by assumption), ← List.append_assoc]) | (rw [val_0 (by assumption) (by assumption) (by assumption) (by assumption)]))); have hE := congrArg (fun (q1 : Nat) => (ownV 2 kU8 0 q1 : AV)) e1; exact hE) rfl rfl rfl rfl rfl ⟨⟨rfl, (by have e1 : (b ++ intB v.f_Kind ++ boolB v.f_Bool : List UInt8) = b ++ valB v := (by first | (first | (rw [val_1 (by assumption), ← List.append_assoc]) | (rw [val_2 (by assumption), ← List.append_assoc]) | (rw [val_3 (by assumption), ← List.append_assoc]) | (rw [val_4 (by assumption), ← List.append_assoc]) | (rw [val_0 (by assumption) (by assumption) (by assumption) (by assumption)])) | (symm; first | (rw [val_1 (by assumption), ← List.append_assoc]) | (rw [val_2 (by assumption), ← List.append_assoc]) | (rw [val_3 (by assumption), ← List.append_assoc]) | (rw [val_4 (by assumption), ← List.append_assoc]) | (rw [val_0 (by assumption) (by assumption) (by assumption) (by assumption)]))); have hE := congrArg (fun (q1 : List UInt8) => (.live (arrK 5 kU8 q1) : HS)) e1; exact Eq.trans (by kernel_rfl) hE)⟩, trivial⟩
    · refine T.condF (by kernel_rfl) (decide_eq_false hq2) ?_
      refine T.seq ?_
      refine xR [] (by kernel_rfl) (by kernel_rfl) ?_
      refine nT ?_
      by_cases hq3 : v.f_Kind = 3
      · refine T.condT (by kernel_rfl) (decide_eq_true hq3) ?_
        refine xR [hR 3 rfl rfl (r_bytesOf (l := v.f_Text) Try.underlying9 Try.underlying47 Try.underlying5 (lt_of rfl) trivial),
          hR 4 rfl rfl (r_call (wire_PutBytes true false (b ++ intB v.f_Kind) false true v.f_Text (by first | assumption | omega | (unfold maxLen; omega) | (simp [maxLen, -List.getD_eq_getElem?_getD] <;> omega) | decide)) Try.func74 rfl (by decide) [2] [1] (l := [(.tmp 25, ownV 1 kU8 0 (b ++ intB v.f_Kind).length), (.tmp 28, slV false true kU8 v.f_Text)]) [(1, .live (arrK 5 kU8 (b ++ intB v.f_Kind)))] rfl 0 1 rfl rfl rfl rfl rfl rfl rfl rfl rfl ⟨.inr (.inl ⟨rfl, (fun h => by cases h), rfl, rfl, by simp, 5, (b ++ intB v.f_Kind).length, elOf kU8 (b ++ intB v.f_Kind), List.Mem.head _, by omega, fun i j => by rw [Nat.zero_add]⟩), ⟨.inl ⟨rfl, rfl⟩, trivial⟩⟩ rfl (by intro b hb; simp only [List.mem_cons, List.not_mem_nil, or_false] at hb; rcases hb with rfl; exact ⟨_, List.Mem.head _⟩) (.inr ⟨trivial, (And.intro (arr_nt kU8_nt) trivial)⟩) (lt_of rfl) trivial)] (by kernel_rfl) (by kernel_rfl) ?_
        refine nB ?_
        refine nT ?_
        refine T.seq ?_
        refine xR [] (by kernel_rfl) (by kernel_rfl) ?_
        refine nT ?_
        refine T.ret ?_
        exact tE (.inl rfl) [.t 4 (.one (.own 2 kU8.sz 0 (b ++ intB v.f_Kind ++ bytesB v.f_Text).length))] ⟨⟨rfl, by kernel_rfl⟩, trivial⟩ [2] (by have e1 : ((b ++ valB v).length : Nat) = (b ++ intB v.f_Kind ++ bytesB v.f_Text).length := (by first | (first | (rw [val_1 (by assumption), ← List.append_assoc]) | (rw [val_2 (by assumption), ← List.append_assoc]) | (rw [val_3 (by assumption), ← List.append_assoc]) | (rw [val_4 (by assumption), ← List.append_assoc]) | (rw [val_0 (by assumption) (by assumption) (by assumption) (by assumption)])) | (symm; first | (rw [val_1 (by assumption), ← List.append_assoc]) | (rw [val_2 (by assumption), ← List.append_assoc]) | (rw [val_3 (by assumption), ← List.append_assoc]) | (rw [val_4 (by assumption), ← List.append_assoc]) | (rw [val_0 (by assumption) (by assumption) (by assumption) (by assumption)]))); have hE := congrArg (fun (q1 : Nat) => (ownV 2 kU8 0 q1 : AV)) e1; exact hE) rfl rfl rfl rfl rfl ⟨⟨rfl, (by have e1 : (b ++ intB v.f_Kind ++ bytesB v.f_Text : List UInt8) = b ++ valB v := (by first | (first | (rw [val_1 (by assumption), ← List.append_assoc]) | (rw [val_2 (by assumption), ← List.append_assoc]) | (rw [val_3 (by assumption), ← List.append_assoc]) | (rw [val_4 (by assumption), ← List.append_assoc]) | (rw [val_0 (by assumption) (by assumption) (by assumption) (by assumption)])) | (symm; first | (rw [val_1 (by assumption), ← List.append_assoc]) | (rw [val_2 (by assumption), ← List.append_assoc]) | (rw [val_3 (by assumption), ← List.append_assoc]) | (rw [val_4 (by assumption), ← List.append_assoc]) | (rw [val_0 (by assumption) (by assumption) (by assumption) (by assumption)]))); have hE := congrArg (fun (q1 : List UInt8) => (.live (arrK 5 kU8 q1) : HS)) e1; exact Eq.trans (by kernel_rfl) hE)⟩, trivial⟩
      · refine T.condF (by kernel_rfl) (decide_eq_false hq3) ?_
        refine T.seq ?_
        refine xR [] (by kernel_rfl) (by kernel_rfl) ?_
        refine nT ?_
        by_cases hq4 : v.f_Kind = 4
        · refine T.condT (by kernel_rfl) (decide_eq_true hq4) ?_
          refine xR [hR 3 rfl rfl (r_call (wire_PutNum true false (b ++ intB v.f_Kind) v.f_Num (by first | assumption | omega | (unfold maxLen; omega) | (simp [maxLen, -List.getD_eq_getElem?_getD] <;> omega) | decide) (by first | assumption | omega | (unfold maxLen; omega) | (simp [maxLen, -List.getD_eq_getElem?_getD] <;> omega) | decide)) Try.func75 rfl (by decide) [2] [1] (l := [(.tmp 32, ownV 1 kU8 0 (b ++ intB v.f_Kind).length), (.tmp 34, dv (.float .f64 v.f_Num))]) [(1, .live (arrK 5 kU8 (b ++ intB v.f_Kind)))] rfl 0 1 rfl rfl rfl rfl rfl rfl rfl rfl rfl ⟨.inr (.inl ⟨rfl, (fun h => by cases h), rfl, rfl, by simp, 5, (b ++ intB v.f_Kind).length, elOf kU8 (b ++ intB v.f_Kind), List.Mem.head _, by omega, fun i j => by rw [Nat.zero_add]⟩), ⟨.inl ⟨rfl, rfl⟩, trivial⟩⟩ rfl (by intro b hb; simp only [List.mem_cons, List.not_mem_nil, or_false] at hb; rcases hb with rfl; exact ⟨_, List.Mem.head _⟩) (.inr ⟨trivial, (And.intro (arr_nt kU8_nt) trivial)⟩) (lt_of rfl) trivial)] (by kernel_rfl) (by kernel_rfl) ?_
          refine nB ?_
          refine nT ?_
          refine T.seq ?_
          refine xR [] (by kernel_rfl) (by kernel_rfl) ?_
          refine nT ?_
          refine T.ret ?_
          exact tE (.inl rfl) [.t 4 (.one (.own 2 kU8.sz 0 (b ++ intB v.f_Kind ++ numB v.f_Num).length))] ⟨⟨rfl, by kernel_rfl⟩, trivial⟩ [2] (by have e1 : ((b ++ valB v).length : Nat) = (b ++ intB v.f_Kind ++ numB v.f_Num).length := (by first | (first | (rw [val_1 (by assumption), ← List.append_assoc]) | (rw [val_2 (by assumption), ← List.append_assoc]) | (rw [val_3 (by assumption), ← List.append_assoc]) | (rw [val_4 (by assumption), ← List.append_assoc]) | (rw [val_0 (by assumption) (by assumption) (by assumption) (by assumption)])) | (symm; first | (rw [val_1 (by assumption), ← List.append_assoc]) | (rw [val_2 (by assumption), ← List.append_assoc]) | (rw [val_3 (by assumption), ← List.append_assoc]) | (rw [val_4 (by assumption), ← List.append_assoc]) | (rw [val_0 (by assumption) (by assumption) (by assumption) (by assumption)]))); have hE := congrArg (fun (q1 : Nat) => (ownV 2 kU8 0 q1 : AV)) e1; exact hE) rfl rfl rfl rfl rfl ⟨⟨rfl, (by have e1 : (b ++ intB v.f_Kind ++ numB v.f_Num : List UInt8) = b ++ valB v := (by first | (first | (rw [val_1 (by assumption), ← List.append_assoc]) | (rw [val_2 (by assumption), ← List.append_assoc]) | (rw [val_3 (by assumption), ← List.append_assoc]) | (rw [val_4 (by assumption), ← List.append_assoc]) | (rw [val_0 (by assumption) (by assumption) (by assumption) (by assumption)])) | (symm; first | (rw [val_1 (by assumption), ← List.append_assoc]) | (rw [val_2 (by assumption), ← List.append_assoc]) | (rw [val_3 (by assumption), ← List.append_assoc]) | (rw [val_4 (by assumption), ← List.append_assoc]) | (rw [val_0 (by assumption) (by assumption) (by assumption) (by assumption)]))); have hE := congrArg (fun (q1 : List UInt8) => (.live (arrK 5 kU8 q1) : HS)) e1; exact Eq.trans (by kernel_rfl) hE)⟩, trivial⟩
        · refine T.condF (by kernel_rfl) (decide_eq_false hq4) ?_
          refine T.skip ?_
          refine nB ?_
          refine nT ?_
          refine T.seq ?_
          refine xR [] (by kernel_rfl) (by kernel_rfl) ?_
          refine nT ?_
          refine T.ret ?_
          exact tE (.inl rfl) [.t 4 (.one (.own 1 kU8.sz 0 (b ++ intB v.f_Kind).length))] ⟨⟨rfl, by kernel_rfl⟩, trivial⟩ [1] (by have e1 : ((b ++ valB v).length : Nat) = (b ++ intB v.f_Kind).length := (by first | (first | (rw [val_1 (by assumption), ← List.append_assoc]) | (rw [val_2 (by assumption), ← List.append_assoc]) | (rw [val_3 (by assumption), ← List.append_assoc]) | (rw [val_4 (by assumption), ← List.append_assoc]) | (rw [val_0 (by assumption) (by assumption) (by assumption) (by assumption)])) | (symm; first | (rw [val_1 (by assumption), ← List.append_assoc]) | (rw [val_2 (by assumption), ← List.append_assoc]) | (rw [val_3 (by assumption), ← List.append_assoc]) | (rw [val_4 (by assumption), ← List.append_assoc]) | (rw [val_0 (by assumption) (by assumption) (by assumption) (by assumption)]))); have hE := congrArg (fun (q1 : Nat) => (ownV 1 kU8 0 q1 : AV)) e1; exact hE) rfl rfl rfl rfl rfl ⟨⟨rfl, (by have e1 : (b ++ intB v.f_Kind : List UInt8) = b ++ valB v := (by first | (first | (rw [val_1 (by assumption), ← List.append_assoc]) | (rw [val_2 (by assumption), ← List.append_assoc]) | (rw [val_3 (by assumption), ← List.append_assoc]) | (rw [val_4 (by assumption), ← List.append_assoc]) | (rw [val_0 (by assumption) (by assumption) (by assumption) (by assumption)])) | (symm; first | (rw [val_1 (by assumption), ← List.append_assoc]) | (rw [val_2 (by assumption), ← List.append_assoc]) | (rw [val_3 (by assumption), ← List.append_assoc]) | (rw [val_4 (by assumption), ← List.append_assoc]) | (rw [val_0 (by assumption) (by assumption) (by assumption) (by assumption)]))); have hE := congrArg (fun (q1 : List UInt8) => (.live (arrK 5 kU8 q1) : HS)) e1; exact Eq.trans (by kernel_rfl) hE)⟩, trivial⟩
end Go.Proofs.Ytlabmehgcfgigaa.Q
namespace Go.Proofs.Ytlabmehgcfgigaa.Q
open Go Go.RowKit
set_option linter.unusedVariables false
set_option linter.unusedSimpArgs false
set_option maxRecDepth 100000
set_option maxHeartbeats 4000000
-- quaestor/quaestorref04.Put
theorem ref04_Put (tb : Bool) (nb : Bool) (b : List UInt8) (v : api_Value) (hb : b.length ≤ 1000000) (ht : v.f_Text.length ≤ 1000) (hn : v.f_Num < 18446744073709551616) : Holds Try.prog 39 ⟨[slV tb nb kU8 b, .tv (.agg [.d (.val (.int .i64 v.f_Kind)), .d (.val (.int .i64 v.f_Int)), .d (.val (.bool v.f_Bool)), .d (.val (strV v.f_Text)), .d (.val (.float .f64 v.f_Num))])], [], ownV 0 kU8 0 (b ++ valB v).length, [.live (arrK 5 kU8 (b ++ valB v))]⟩ := by
  refine Holds.of Try.func39 rfl (N := 37) Try.ntmps39 rfl fun w0 B0 S0 U0 => ?_
  show T _ (mkBase 37 0 w0 S0 U0 B0) ⟨[slV tb nb kU8 b, .tv (.agg [.d (.val (.int .i64 v.f_Kind)), .d (.val (.int .i64 v.f_Int)), .d (.val (.bool v.f_Bool)), .d (.val (strV v.f_Text)), .d (.val (.float .f64 v.f_Num))])], []⟩ _ _
  have hil := int_len v.f_Kind
  refine T.seq ?_
  refine xR [] (by kernel_rfl) (by kernel_rfl) ?_
  refine nT ?_
  refine T.seq ?_
  refine xR [hR 3 rfl rfl (r_call (ref01_Int tb nb b v.f_Kind (by first | assumption | omega | (unfold maxLen; omega) | (simp [maxLen, -List.getD_eq_getElem?_getD] <;> omega) | decide)) Try.func76 rfl (by decide) [1] [] (l := [(.tmp 5, slV tb nb kU8 b), (.tmp 7, dv (.int .i64 v.f_Kind))]) [] rfl 0 1 rfl rfl rfl rfl rfl rfl rfl rfl rfl ⟨.inl ⟨rfl, rfl⟩, ⟨.inl ⟨rfl, rfl⟩, trivial⟩⟩ rfl (fun b hb => by cases hb) (.inl rfl) (lt_of rfl) trivial)] (by kernel_rfl) (by kernel_rfl) ?_
  refine nT ?_
  refine T.seq ?_
  refine T.seq ?_
  refine xR [] (by kernel_rfl) (by kernel_rfl) ?_
  refine nT ?_
  refine T.block ?_
  refine T.seq ?_
  refine xR [] (by kernel_rfl) (by kernel_rfl) ?_
  refine nT ?_
  by_cases hq1 : v.f_Kind = 1
  · refine T.condT (by kernel_rfl) (decide_eq_true hq1) ?_
    refine T.seq ?_
    refine xR [hR 3 rfl rfl (r_call (ref01_Int true false (b ++ intB v.f_Kind) v.f_Int (by first | assumption | omega | (unfold maxLen; omega) | (simp [maxLen, -List.getD_eq_getElem?_getD] <;> omega) | decide)) Try.func76 rfl (by decide) [2] [1] (l := [(.tmp 13, ownV 1 kU8 0 (b ++ intB v.f_Kind).length), (.tmp 15, dv (.int .i64 v.f_Int))]) [(1, .live (arrK 5 kU8 (b ++ intB v.f_Kind)))] rfl 0 1 rfl rfl rfl rfl rfl rfl rfl rfl rfl ⟨.inr (.inl ⟨rfl, (fun h => by cases h), rfl, rfl, by simp, 5, (b ++ intB v.f_Kind).length, elOf kU8 (b ++ intB v.f_Kind), List.Mem.head _, by omega, fun i j => by rw [Nat.zero_add]⟩), ⟨.inl ⟨rfl, rfl⟩, trivial⟩⟩ rfl (by intro b hb; simp only [List.mem_cons, List.not_mem_nil, or_false] at hb; rcases hb with rfl; exact ⟨_, List.Mem.head _⟩) (.inr ⟨trivial, (And.intro (arr_nt kU8_nt) trivial)⟩) (lt_of rfl) trivial)] (by kernel_rfl) (by kernel_rfl) ?_
    refine nT ?_
    refine T.ret ?_
    refine rB ?_
    refine rT ?_
    exact tE (.inl rfl) [.t 4 (.one (.own 2 kU8.sz 0 (b ++ intB v.f_Kind ++ intB v.f_Int).length))] ⟨⟨rfl, by kernel_rfl⟩, trivial⟩ [2] (by have e1 : ((b ++ valB v).length : Nat) = (b ++ intB v.f_Kind ++ intB v.f_Int).length := (by first | (first | (rw [val_1 (by assumption), ← List.append_assoc]) | (rw [val_2 (by assumption), ← List.append_assoc]) | (rw [val_3 (by assumption), ← List.append_assoc]) | (rw [val_4 (by assumption), ← List.append_assoc]) | (rw [val_0 (by assumption) (by assumption) (by assumption) (by assumption)])) | (symm; first | (rw [val_1 (by assumption), ← List.append_assoc]) | (rw [val_2 (by assumption), ← List.append_assoc]) | (rw [val_3 (by assumption), ← List.append_assoc]) | (rw [val_4 (by assumption), ← List.append_assoc]) | (rw [val_0 (by assumption) (by assumption) (by assumption) (by assumption)]))); have hE := congrArg (fun (q1 : Nat) => (ownV 2 kU8 0 q1 : AV)) e1; exact hE) rfl rfl rfl rfl rfl ⟨⟨rfl, (by have e1 : (b ++ intB v.f_Kind ++ intB v.f_Int : List UInt8) = b ++ valB v := (by first | (first | (rw [val_1 (by assumption), ← List.append_assoc]) | (rw [val_2 (by assumption), ← List.append_assoc]) | (rw [val_3 (by assumption), ← List.append_assoc]) | (rw [val_4 (by assumption), ← List.append_assoc]) | (rw [val_0 (by assumption) (by assumption) (by assumption) (by assumption)])) | (symm; first | (rw [val_1 (by assumption), ← List.append_assoc]) | (rw [val_2 (by assumption), ← List.append_assoc]) | (rw [val_3 (by assumption), ← List.append_assoc]) | (rw [val_4 (by assumption), ← List.append_assoc]) | (rw [val_0 (by assumption) (by assumption) (by assumption) (by assumption)]))); have hE := congrArg (fun (q1 : List UInt8) => (.live (arrK 5 kU8 q1) : HS)) e1; exact Eq.trans (by kernel_rfl) hE)⟩, trivial⟩
  · refine T.condF (by kernel_rfl) (decide_eq_false hq1) ?_
    refine T.seq ?_
    refine xR [] (by kernel_rfl) (by kernel_rfl) ?_
    refine nT ?_
    by_cases hq2 : v.f_Kind = 2
    · refine T.condT (by kernel_rfl) (decide_eq_true hq2) ?_
      refine T.seq ?_
      refine xR [hR 3 rfl rfl (r_call (ref01_Bool true false (b ++ intB v.f_Kind) v.f_Bool (by first | assumption | omega | (unfold maxLen; omega) | (simp [maxLen, -List.getD_eq_getElem?_getD] <;> omega) | decide)) Try.func77 rfl (by decide) [2] [1] (l := [(.tmp 19, ownV 1 kU8 0 (b ++ intB v.f_Kind).length), (.tmp 21, dv (.bool v.f_Bool))]) [(1, .live (arrK 5 kU8 (b ++ intB v.f_Kind)))] rfl 0 1 rfl rfl rfl rfl rfl rfl rfl rfl rfl ⟨.inr (.inl ⟨rfl, (fun h => by cases h), rfl, rfl, by simp, 5, (b ++ intB v.f_Kind).length, elOf kU8 (b ++ intB v.f_Kind), List.Mem.head _, by omega, fun i j => by rw [Nat.zero_add]⟩), ⟨.inl ⟨rfl, rfl⟩, trivial⟩⟩ rfl (by intro b hb; simp only [List.mem_cons, List.not_mem_nil, or_false] at hb; rcases hb with rfl; exact ⟨_, List.Mem.head _⟩) (.inr ⟨trivial, (And.intro (arr_nt kU8_nt) trivial)⟩) (lt_of rfl) trivial)] (by kernel_rfl) (by kernel_rfl) ?_
      refine nT ?_
      refine T.ret ?_
      refine rB ?_
      refine rT ?_
      exact tE (.inl rfl) [.t 4 (.one (.own 2 kU8.sz 0 (b ++ intB v.f_Kind ++ boolB v.f_Bool).length))] ⟨⟨rfl, by kernel_rfl⟩, trivial⟩ [2] (by have e1 : ((b ++ valB v).length : Nat) = (b ++ intB v.f_Kind ++ boolB v.f_Bool).length := (by first | (first | (rw [val_1 (by assumption), ← List.append_assoc]) | (rw [val_2 (by assumption), ← List.append_assoc]) | (rw [val_3 (by assumption), ← List.append_assoc]) | (rw [val_4 (by assumption), ← List.append_assoc]) | (rw [val_0 (by assumption) (by assumption) (by assumption) (by assumption)])) | (symm; first | (rw [val_1 (by assumption), ← List.append_assoc]) | (rw [val_2 (by assumption), ← List.append_assoc]) | (rw [val_3 (by assumption), ← List.append_assoc]) | (rw [val_4 (by assumption), ← List.append_assoc]) | (rw [val_0 (by assumption) (by assumption) (by assumption) (by assumption)]))); have hE := congrArg (fun (q1 : Nat) => (ownV 2 kU8 0 q1 : AV)) e1; exact hE) rfl rfl rfl rfl rfl ⟨⟨rfl, (by have e1 : (b ++ intB v.f_Kind ++ boolB v.f_Bool : List UInt8) = b ++ valB v := (by first | (first | (rw [val_1 (by assumption), ← List.append_assoc]) | (rw [val_2 (by assumption), ← List.append_assoc]) | (rw [val_3 (by assumption), ← List.append_assoc]) | (rw [val_4 (by assumption), ← List.append_assoc]) | (rw [val_0 (by assumption) (by assumption) (by assumption) (by assumption)])) | (symm; first | (rw [val_1 (by assumption), ← List.append_assoc]) | (rw [val_2 (by assumption), ← List.append_assoc]) | (rw [val_3 (by assumption), ← List.append_assoc]) | (rw [val_4 (by assumption), ← List.append_assoc]) | (rw [val_0 (by assumption) (by assumption) (by assumption) (by assumption)]))); have hE := congrArg (fun (q1 : List UInt8) => (.live (arrK 5 kU8 q1) : HS)) e1; exact Eq.trans (by kernel_rfl) hE)⟩, trivial⟩
    · refine T.condF (by kernel_rfl) (decide_eq_false hq2) ?_
      refine T.seq ?_
      refine xR [] (by kernel_rfl) (by kernel_rfl) ?_
      refine nT ?_
      by_cases hq3 : v.f_Kind = 3
      · refine T.condT (by kernel_rfl) (decide_eq_true hq3) ?_
        refine T.seq ?_
        refine xR [hR 3 rfl rfl (r_bytesOf (l := v.f_Text) Try.underlying9 Try.underlying47 Try.underlying5 (lt_of rfl) trivial),
          hR 4 rfl rfl (r_call (ref01_Bytes true false (b ++ intB v.f_Kind) false true v.f_Text (by first | assumption | omega | (unfold maxLen; omega) | (simp [maxLen, -List.getD_eq_getElem?_getD] <;> omega) | decide)) Try.func78 rfl (by decide) [2] [1] (l := [(.tmp 25, ownV 1 kU8 0 (b ++ intB v.f_Kind).length), (.tmp 28, slV false true kU8 v.f_Text)]) [(1, .live (arrK 5 kU8 (b ++ intB v.f_Kind)))] rfl 0 1 rfl rfl rfl rfl rfl rfl rfl rfl rfl ⟨.inr (.inl ⟨rfl, (fun h => by cases h), rfl, rfl, by simp, 5, (b ++ intB v.f_Kind).length, elOf kU8 (b ++ intB v.f_Kind), List.Mem.head _, by omega, fun i j => by rw [Nat.zero_add]⟩), ⟨.inl ⟨rfl, rfl⟩, trivial⟩⟩ rfl (by intro b hb; simp only [List.mem_cons, List.not_mem_nil, or_false] at hb; rcases hb with rfl; exact ⟨_, List.Mem.head _⟩) (.inr ⟨trivial, (And.intro (arr_nt kU8_nt) trivial)⟩) (lt_of rfl) trivial)] (by kernel_rfl) (by kernel_rfl) ?_
        refine nT ?_
        refine T.ret ?_
        refine rB ?_
        refine rT ?_
        exact tE (.inl rfl) [.t 4 (.one (.own 2 kU8.sz 0 (b ++ intB v.f_Kind ++ bytesB v.f_Text).length))] ⟨⟨rfl, by kernel_rfl⟩, trivial⟩ [2] (by have e1 : ((b ++ valB v).length : Nat) = (b ++ intB v.f_Kind ++ bytesB v.f_Text).length := (by first | (first | (rw [val_1 (by assumption), ← List.append_assoc]) | (rw [val_2 (by assumption), ← List.append_assoc]) | (rw [val_3 (by assumption), ← List.append_assoc]) | (rw [val_4 (by assumption), ← List.append_assoc]) | (rw [val_0 (by assumption) (by assumption) (by assumption) (by assumption)])) | (symm; first | (rw [val_1 (by assumption), ← List.append_assoc]) | (rw [val_2 (by assumption), ← List.append_assoc]) | (rw [val_3 (by assumption), ← List.append_assoc]) | (rw [val_4 (by assumption), ← List.append_assoc]) | (rw [val_0 (by assumption) (by assumption) (by assumption) (by assumption)]))); have hE := congrArg (fun (q1 : Nat) => (ownV 2 kU8 0 q1 : AV)) e1; exact hE) rfl rfl rfl rfl rfl ⟨⟨rfl, (by have e1 : (b ++ intB v.f_Kind ++ bytesB v.f_Text : List UInt8) = b ++ valB v := (by first | (first | (rw [val_1 (by assumption), ← List.append_assoc]) | (rw [val_2 (by assumption), ← List.append_assoc]) | (rw [val_3 (by assumption), ← List.append_assoc]) | (rw [val_4 (by assumption), ← List.append_assoc]) | (rw [val_0 (by assumption) (by assumption) (by assumption) (by assumption)])) | (symm; first | (rw [val_1 (by assumption), ← List.append_assoc]) | (rw [val_2 (by assumption), ← List.append_assoc]) | (rw [val_3 (by assumption), ← List.append_assoc]) | (rw [val_4 (by assumption), ← List.append_assoc]) | (rw [val_0 (by assumption) (by assumption) (by assumption) (by assumption)]))); have hE := congrArg (fun (q1 : List UInt8) => (.live (arrK 5 kU8 q1) : HS)) e1; exact Eq.trans (by kernel_rfl) hE)⟩, trivial⟩
      · refine T.condF (by kernel_rfl) (decide_eq_false hq3) ?_
        refine T.seq ?_
        refine xR [] (by kernel_rfl) (by kernel_rfl) ?_
        refine nT ?_
        by_cases hq4 : v.f_Kind = 4
        · refine T.condT (by kernel_rfl) (decide_eq_true hq4) ?_
          refine T.seq ?_
          refine xR [hR 3 rfl rfl (r_call (ref01_Num true false (b ++ intB v.f_Kind) v.f_Num (by first | assumption | omega | (unfold maxLen; omega) | (simp [maxLen, -List.getD_eq_getElem?_getD] <;> omega) | decide) (by first | assumption | omega | (unfold maxLen; omega) | (simp [maxLen, -List.getD_eq_getElem?_getD] <;> omega) | decide)) Try.func79 rfl (by decide) [2] [1] (l := [(.tmp 32, ownV 1 kU8 0 (b ++ intB v.f_Kind).length), (.tmp 34, dv (.float .f64 v.f_Num))]) [(1, .live (arrK 5 kU8 (b ++ intB v.f_Kind)))] rfl 0 1 rfl rfl rfl rfl rfl rfl rfl rfl rfl ⟨.inr (.inl ⟨rfl, (fun h => by cases h), rfl, rfl, by simp, 5, (b ++ intB v.f_Kind).length, elOf kU8 (b ++ intB v.f_Kind), List.Mem.head _, by omega, fun i j => by rw [Nat.zero_add]⟩), ⟨.inl ⟨rfl, rfl⟩, trivial⟩⟩ rfl (by intro b hb; simp only [List.mem_cons, List.not_mem_nil, or_false] at hb; rcases hb with rfl; exact ⟨_, List.Mem.head _⟩) (.inr ⟨trivial, (And.intro (arr_nt kU8_nt) trivial)⟩) (lt_of rfl) trivial)] (by kernel_rfl) (by kernel_rfl) ?_
          refine nT ?_
          refine T.ret ?_
          refine rB ?_
          refine rT ?_
          exact tE (.inl rfl) [.t 4 (.one (.own 2 kU8.sz 0 (b ++ intB v.f_Kind ++ numB v.f_Num).length))] ⟨⟨rfl, by kernel_rfl⟩, trivial⟩ [2] (by have e1 : ((b ++ valB v).length : Nat) = (b ++ intB v.f_Kind ++ numB v.f_Num).length := (by first | (first | (rw [val_1 (by assumption), ← List.append_assoc]) | (rw [val_2 (by assumption), ← List.append_assoc]) | (rw [val_3 (by assumption), ← List.append_assoc]) | (rw [val_4 (by assumption), ← List.append_assoc]) | (rw [val_0 (by assumption) (by assumption) (by assumption) (by assumption)])) | (symm; first | (rw [val_1 (by assumption), ← List.append_assoc]) | (rw [val_2 (by assumption), ← List.append_assoc]) | (rw [val_3 (by assumption), ← List.append_assoc]) | (rw [val_4 (by assumption), ← List.append_assoc]) | (rw [val_0 (by assumption) (by assumption) (by assumption) (by assumption)]))); have hE := congrArg (fun (q1 : Nat) => (ownV 2 kU8 0 q1 : AV)) e1; exact hE) rfl rfl rfl rfl rfl ⟨⟨rfl, (by have e1 : (b ++ intB v.f_Kind ++ numB v.f_Num : List UInt8) = b ++ valB v := (by first | (first | (rw [val_1 (by assumption), ← List.append_assoc]) | (rw [val_2 (by assumption), ← List.append_assoc]) | (rw [val_3 (by assumption), ← List.append_assoc]) | (rw [val_4 (by assumption), ← List.append_assoc]) | (rw [val_0 (by assumption) (by assumption) (by assumption) (by assumption)])) | (symm; first | (rw [val_1 (by assumption), ← List.append_assoc]) | (rw [val_2 (by assumption), ← List.append_assoc]) | (rw [val_3 (by assumption), ← List.append_assoc]) | (rw [val_4 (by assumption), ← List.append_assoc]) | (rw [val_0 (by assumption) (by assumption) (by assumption) (by assumption)]))); have hE := congrArg (fun (q1 : List UInt8) => (.live (arrK 5 kU8 q1) : HS)) e1; exact Eq.trans (by kernel_rfl) hE)⟩, trivial⟩
        · refine T.condF (by kernel_rfl) (decide_eq_false hq4) ?_
          refine T.skip ?_
          refine nB ?_
          refine nT ?_
          refine T.seq ?_
          refine xR [] (by kernel_rfl) (by kernel_rfl) ?_
          refine nT ?_
          refine T.ret ?_
          exact tE (.inl rfl) [.t 4 (.one (.own 1 kU8.sz 0 (b ++ intB v.f_Kind).length))] ⟨⟨rfl, by kernel_rfl⟩, trivial⟩ [1] (by have e1 : ((b ++ valB v).length : Nat) = (b ++ intB v.f_Kind).length := (by first | (first | (rw [val_1 (by assumption), ← List.append_assoc]) | (rw [val_2 (by assumption), ← List.append_assoc]) | (rw [val_3 (by assumption), ← List.append_assoc]) | (rw [val_4 (by assumption), ← List.append_assoc]) | (rw [val_0 (by assumption) (by assumption) (by assumption) (by assumption)])) | (symm; first | (rw [val_1 (by assumption), ← List.append_assoc]) | (rw [val_2 (by assumption), ← List.append_assoc]) | (rw [val_3 (by assumption), ← List.append_assoc]) | (rw [val_4 (by assumption), ← List.append_assoc]) | (rw [val_0 (by assumption) (by assumption) (by assumption) (by assumption)]))); have hE := congrArg (fun (q1 : Nat) => (ownV 1 kU8 0 q1 : AV)) e1; exact hE) rfl rfl rfl rfl rfl ⟨⟨rfl, (by have e1 : (b ++ intB v.f_Kind : List UInt8) = b ++ valB v := (by first | (first | (rw [val_1 (by assumption), ← List.append_assoc]) | (rw [val_2 (by assumption), ← List.append_assoc]) | (rw [val_3 (by assumption), ← List.append_assoc]) | (rw [val_4 (by assumption), ← List.append_assoc]) | (rw [val_0 (by assumption) (by assumption) (by assumption) (by assumption)])) | (symm; first | (rw [val_1 (by assumption), ← List.append_assoc]) | (rw [val_2 (by assumption), ← List.append_assoc]) | (rw [val_3 (by assumption), ← List.append_assoc]) | (rw [val_4 (by assumption), ← List.append_assoc]) | (rw [val_0 (by assumption) (by assumption) (by assumption) (by assumption)]))); have hE := congrArg (fun (q1 : List UInt8) => (.live (arrK 5 kU8 q1) : HS)) e1; exact Eq.trans (by kernel_rfl) hE)⟩, trivial⟩
end Go.Proofs.Ytlabmehgcfgigaa.Q
