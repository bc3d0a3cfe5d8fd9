import Derived.Test.YtdclfhahcfefeaaC11n24
namespace Go.Proofs.Ytdclfhahcfefeaa.Q
open Go Go.RowKit
set_option linter.unusedVariables false
set_option linter.unusedSimpArgs false
set_option maxRecDepth 100000
set_option maxHeartbeats 4000000
-- quaestor/quaestorlaw11.LedgerPacks
theorem law_LedgerPacks (h : Int) (x : quaestorlaw11_Snap) (b : List UInt8) : Holds Try.prog 7 ⟨[dv (.int .i64 h), .tv (.agg [.d (.val (strV x.f_Head)), .d (dsl false false kU8 x.f_State)]), slV false false kU8 b], [], dv (.bool true), []⟩ := by
  refine Holds.of Try.func7 rfl (N := 89) Try.ntmps7 rfl fun w0 B0 S0 U0 => ?_
  show T _ (mkBase 89 0 w0 S0 U0 B0) ⟨[dv (.int .i64 h), .tv (.agg [.d (.val (strV x.f_Head)), .d (dsl false false kU8 x.f_State)]), slV false false kU8 b], []⟩ _ _
  refine T.seq ?_
  refine xR [] (by kernel_rfl) (by kernel_rfl) ?_
  refine nT ?_
  refine T.seq ?_
  refine T.seq ?_
  by_cases hq1 : ((x.f_Head.length : Nat) : Int) > 5000
  · refine xR [hN 5 false (decide_eq_true hq1),
      hN 6 false (decide_eq_true hq1),
      hN 7 false (decide_eq_true hq1),
      hN 8 false (decide_eq_true hq1),
      hP 9 (decide_eq_true hq1),
      hN 11 (b := true) false rfl,
      hN 12 (b := true) false rfl,
      hN 13 (b := true) false rfl,
      hP 14 (b := true) (w := true) rfl] (by kernel_rfl) (by kernel_rfl) ?_
    refine nT ?_
    refine T.condT (b := true) (by kernel_rfl) rfl ?_
    refine T.seq ?_
    refine xR [] (by kernel_rfl) (by kernel_rfl) ?_
    refine nT ?_
    refine T.ret ?_
    refine rT ?_
    exact tE (.inl rfl) [.t 6 (.one (.d (.val (.bool true))))] ⟨⟨rfl, by kernel_rfl⟩, trivial⟩ [] rfl rfl rfl rfl rfl rfl trivial
  · by_cases hq2 : ((x.f_State.length : Nat) : Int) > 5000
    · refine xR [hY 5 (decide_eq_false hq1),
        hY 6 (decide_eq_false hq1),
        hY 7 (decide_eq_false hq1),
        hY 8 (decide_eq_false hq1),
        hP 9 (decide_eq_false hq1),
        hN 11 false (decide_eq_true hq2),
        hN 12 false (decide_eq_true hq2),
        hN 13 false (decide_eq_true hq2),
        hP 14 (decide_eq_true hq2)] (by kernel_rfl) (by kernel_rfl) ?_
      refine nT ?_
      refine T.condT (b := true) (by kernel_rfl) rfl ?_
      refine T.seq ?_
      refine xR [] (by kernel_rfl) (by kernel_rfl) ?_
      refine nT ?_
      refine T.ret ?_
      refine rT ?_
      exact tE (.inl rfl) [.t 6 (.one (.d (.val (.bool true))))] ⟨⟨rfl, by kernel_rfl⟩, trivial⟩ [] rfl rfl rfl rfl rfl rfl trivial
    · refine xR [hY 5 (decide_eq_false hq1),
        hY 6 (decide_eq_false hq1),
        hY 7 (decide_eq_false hq1),
        hY 8 (decide_eq_false hq1),
        hP 9 (decide_eq_false hq1),
        hY 11 (decide_eq_false hq2),
        hY 12 (decide_eq_false hq2),
        hY 13 (decide_eq_false hq2),
        hP 14 (decide_eq_false hq2)] (by kernel_rfl) (by kernel_rfl) ?_
      refine nT ?_
      by_cases hq3 : ((b.length : Nat) : Int) > 20000
      · refine T.condT (by kernel_rfl) (decide_eq_true hq3) ?_
        refine T.seq ?_
        refine xR [] (by kernel_rfl) (by kernel_rfl) ?_
        refine nT ?_
        refine T.ret ?_
        refine rT ?_
        exact tE (.inl rfl) [.t 6 (.one (.d (.val (.bool true))))] ⟨⟨rfl, by kernel_rfl⟩, trivial⟩ [] rfl rfl rfl rfl rfl rfl trivial
      · have hun := un_any (b := b) (M := ((b.length : Nat) : Int)) (M' := 1099511627776) (Int.le_refl _) (by omega); have hun1 := hun.1; have hun2 := hun.2.1; have hun3 := hun.2.2.1; have hun4 := hun.2.2.2; have hu := u_lens ((b.length : Nat) : Int) b
        refine T.condF (by kernel_rfl) (decide_eq_false hq3) ?_
        refine T.skip ?_
        refine nT ?_
        refine T.seq ?_
        refine xR [hR 5 rfl rfl (r_call (ledger_Pack h x.f_Head false false x.f_State (by first | assumption | omega | (unfold maxLen; omega) | (simp [maxLen, -List.getD_eq_getElem?_getD] <;> omega) | decide) (by first | assumption | omega | (unfold maxLen; omega) | (simp [maxLen, -List.getD_eq_getElem?_getD] <;> omega) | decide)) Try.func26 rfl (by decide) [1] [] (l := [(.tmp 31, dv (.int .i64 h)), (.tmp 33, dv (strV x.f_Head)), (.tmp 35, slV false false kU8 x.f_State)]) [] rfl 0 1 rfl rfl rfl rfl rfl rfl rfl rfl rfl ⟨.inl ⟨rfl, rfl⟩, ⟨.inl ⟨rfl, rfl⟩, ⟨.inl ⟨rfl, rfl⟩, trivial⟩⟩⟩ rfl (fun b hb => by cases hb) (.inl rfl) (lt_of rfl) trivial)] (by kernel_rfl) (by kernel_rfl) ?_
        refine nT ?_
        refine T.seq ?_
        refine xR [hR 1 rfl rfl (r_call (ledger_Unpack false false b (by first | assumption | omega | (unfold maxLen; omega) | (simp [maxLen, -List.getD_eq_getElem?_getD] <;> omega) | decide)) Try.func27 rfl (by decide) [] [] (l := [(.tmp 38, slV false false kU8 b)]) [] rfl 0 0 rfl rfl rfl rfl rfl rfl rfl rfl rfl ⟨.inl ⟨rfl, rfl⟩, trivial⟩ rfl (fun b hb => by cases hb) (.inl rfl) (lt_of rfl) trivial)] (by kernel_rfl) (by kernel_rfl) ?_
        refine nT ?_
        refine T.seq ?_
        refine xR [hR 1 rfl rfl (r_call (ref11_Unpack b (by first | assumption | omega | (unfold maxLen; omega) | (simp [maxLen, -List.getD_eq_getElem?_getD] <;> omega) | decide)) Try.func28 rfl (by decide) [] [] (l := [(.tmp 45, slV false false kU8 b)]) [] rfl 0 0 rfl rfl rfl rfl rfl rfl rfl rfl rfl ⟨.inl ⟨rfl, rfl⟩, trivial⟩ rfl (fun b hb => by cases hb) (.inl rfl) (lt_of rfl) trivial)] (by kernel_rfl) (by kernel_rfl) ?_
        refine nT ?_
        refine T.seq ?_
        by_cases hq4 : (unH ((b.length : Nat) : Int) b) = (unH 1099511627776 b)
        · by_cases hq5 : (unD ((b.length : Nat) : Int) b) = (unD 1099511627776 b)
          · by_cases hq6 : (unS ((b.length : Nat) : Int) b) = (unS 1099511627776 b)
            · by_cases hq7 : (unE ((b.length : Nat) : Int) b) = (unE 1099511627776 b)
              · refine xR [hR 6 rfl rfl (r_call (ref11_Pack h x.f_Head false false x.f_State (by first | assumption | omega | (unfold maxLen; omega) | (simp [maxLen, -List.getD_eq_getElem?_getD] <;> omega) | decide) (by first | assumption | omega | (unfold maxLen; omega) | (simp [maxLen, -List.getD_eq_getElem?_getD] <;> omega) | decide)) Try.func30 rfl (by decide) [2] [] (l := [(.tmp 52, dv (.int .i64 h)), (.tmp 54, dv (strV x.f_Head)), (.tmp 56, slV false false kU8 x.f_State)]) [] rfl 0 1 rfl rfl rfl rfl rfl rfl rfl rfl rfl ⟨.inl ⟨rfl, rfl⟩, ⟨.inl ⟨rfl, rfl⟩, ⟨.inl ⟨rfl, rfl⟩, trivial⟩⟩⟩ rfl (fun b hb => by cases hb) (.inl rfl) (lt_of rfl) trivial),
                  hR 7 rfl rfl (r_call (ref01_Same true false true false (packB h x.f_Head x.f_State) (packB h x.f_Head x.f_State) ) Try.func29 rfl (by decide) [] [1, 2] (l := [(.tmp 51, ownV 1 kU8 0 (packB h x.f_Head x.f_State).length), (.tmp 57, ownV 2 kU8 0 (packB h x.f_Head x.f_State).length)]) [(1, .live (arrK 5 kU8 (packB h x.f_Head x.f_State))), (2, .live (arrK 5 kU8 (packB h x.f_Head x.f_State)))] rfl 0 0 rfl rfl rfl rfl rfl rfl rfl rfl rfl ⟨.inr (.inl ⟨rfl, (fun h => by cases h), rfl, rfl, by simp, 5, (packB h x.f_Head x.f_State).length, elOf kU8 (packB h x.f_Head x.f_State), List.Mem.head _, by omega, fun i j => by rw [Nat.zero_add]⟩), ⟨.inr (.inl ⟨rfl, (fun h => by cases h), rfl, rfl, by simp, 5, (packB h x.f_Head x.f_State).length, elOf kU8 (packB h x.f_Head x.f_State), List.Mem.tail _ (List.Mem.head _), by omega, fun i j => by rw [Nat.zero_add]⟩), trivial⟩⟩ rfl (by intro b hb; simp only [List.mem_cons, List.not_mem_nil, or_false] at hb; rcases hb with rfl | rfl; exact ⟨_, List.Mem.head _⟩; exact ⟨_, List.Mem.tail _ (List.Mem.head _)⟩) (.inr ⟨trivial, trivial⟩) (lt_of rfl) trivial),
                  hY 9 (show decide ((packB h x.f_Head x.f_State) = (packB h x.f_Head x.f_State)) = true from decide_eq_true (Eq.refl _)),
                  hY 10 (show decide ((packB h x.f_Head x.f_State) = (packB h x.f_Head x.f_State)) = true from decide_eq_true (Eq.refl _)),
                  hY 11 (show decide ((packB h x.f_Head x.f_State) = (packB h x.f_Head x.f_State)) = true from decide_eq_true (Eq.refl _)),
                  hP 12 (show decide ((packB h x.f_Head x.f_State) = (packB h x.f_Head x.f_State)) = true from decide_eq_true (Eq.refl _)),
                  hY 14 (decide_eq_true hq4),
                  hY 15 (decide_eq_true hq4),
                  hY 16 (decide_eq_true hq4),
                  hP 17 (decide_eq_true hq4),
                  hY 19 (decide_eq_true hq5),
                  hY 20 (decide_eq_true hq5),
                  hS 21 (oY rfl rfl rfl rfl (lt_of rfl) (decide_eq_true hq5) (r_call (ref01_Same false false false false (unS ((b.length : Nat) : Int) b) (unS 1099511627776 b) ) Try.func29 rfl (by decide) [] [] (l := [(.tmp 70, slV false false kU8 (unS ((b.length : Nat) : Int) b)), (.tmp 71, slV false false kU8 (unS 1099511627776 b))]) [] rfl 0 0 rfl rfl rfl rfl rfl rfl rfl rfl rfl ⟨.inl ⟨rfl, rfl⟩, ⟨.inl ⟨rfl, rfl⟩, trivial⟩⟩ rfl (fun b hb => by cases hb) (.inl rfl) (lt_of rfl) trivial)),
                  hP 22 (decide_eq_true hq5),
                  hY 24 (decide_eq_true hq6),
                  hY 25 (decide_eq_true hq6),
                  hY 26 (decide_eq_true hq6),
                  hP 27 (decide_eq_true hq6),
                  hY 29 (decide_eq_true hq7),
                  hS 30 (oY rfl rfl rfl rfl (lt_of rfl) (decide_eq_true hq7) (r_call (ledger_Seal false false b (by first | assumption | omega | (unfold maxLen; omega) | (simp [maxLen, -List.getD_eq_getElem?_getD] <;> omega) | decide)) Try.func31 rfl (by decide) [] [] (l := [(.tmp 80, slV false false kU8 b)]) [] rfl 0 0 rfl rfl rfl rfl rfl rfl rfl rfl rfl ⟨.inl ⟨rfl, rfl⟩, trivial⟩ rfl (fun b hb => by cases hb) (.inl rfl) (lt_of rfl) trivial)),
                  hY 31 (decide_eq_true hq7),
                  hS 32 (oY rfl rfl rfl rfl (lt_of rfl) (decide_eq_true hq7) (r_call (ref11_Seal false false b (by first | assumption | omega | (unfold maxLen; omega) | (simp [maxLen, -List.getD_eq_getElem?_getD] <;> omega) | decide)) Try.func32 rfl (by decide) [] [] (l := [(.tmp 82, slV false false kU8 b)]) [] rfl 0 0 rfl rfl rfl rfl rfl rfl rfl rfl rfl ⟨.inl ⟨rfl, rfl⟩, trivial⟩ rfl (fun b hb => by cases hb) (.inl rfl) (lt_of rfl) trivial)),
                  hY 33 (decide_eq_true hq7),
                  hP 34 (decide_eq_true hq7),
                  hS 36 (oY rfl rfl rfl rfl (lt_of rfl) (show decide ((ofB 7 [b]) = (ofB 7 [b])) = true from decide_eq_true (Eq.refl _)) (r_call (law_awake  ) Try.func14 rfl (by decide) [] [] (l := []) [] rfl 0 0 rfl rfl rfl rfl rfl rfl rfl rfl rfl trivial rfl (fun b hb => by cases hb) (.inl rfl) (lt_of rfl) trivial)),
                  hP 37 (show decide ((ofB 7 [b]) = (ofB 7 [b])) = true from decide_eq_true (Eq.refl _))] (by kernel_rfl) (by kernel_rfl) ?_
                refine nT ?_
                refine T.ret ?_
                exact tE (.inl rfl) [.t 6 (.one (.d (.val (.bool true))))] ⟨⟨rfl, by kernel_rfl⟩, trivial⟩ [] rfl rfl rfl rfl rfl rfl trivial
              · exact absurd (by first | rfl | exact hun1 | exact hun2 | exact hun3 | exact hun4) hq7
            · exact absurd (by first | rfl | exact hun1 | exact hun2 | exact hun3 | exact hun4) hq6
          · exact absurd (by first | rfl | exact hun1 | exact hun2 | exact hun3 | exact hun4) hq5
        · exact absurd (by first | rfl | exact hun1 | exact hun2 | exact hun3 | exact hun4) hq4
end Go.Proofs.Ytdclfhahcfefeaa.Q
