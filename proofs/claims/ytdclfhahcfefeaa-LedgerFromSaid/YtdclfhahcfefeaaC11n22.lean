import Derived.Test.YtdclfhahcfefeaaC11n21
namespace Go.Proofs.Ytdclfhahcfefeaa.Q
open Go Go.RowKit
set_option linter.unusedVariables false
set_option linter.unusedSimpArgs false
set_option maxRecDepth 100000
set_option maxHeartbeats 4000000
-- quaestor/quaestorlaw11.LedgerFrom
theorem law_LedgerFrom (h : Int) (d : List UInt8) (l : List quaestorlaw11_Act) (hl : l.length ≤ 9223372036854775807) (hx : ∀ j, (l.getD j z_quaestorlaw11_Act).f_Block.f_Requests.length ≤ 9223372036854775807 ∧ (l.getD j z_quaestorlaw11_Act).f_Block.f_Results.length ≤ 9223372036854775807) : Holds Try.prog 5 ⟨[dv (.int .i64 h), dv (strV d), slV false false (k_quaestorlaw11_Act false) l], [], dv (.bool true), []⟩ := by
  refine Holds.of Try.func5 rfl (N := 77) Try.ntmps5 rfl fun w0 B0 S0 U0 => ?_
  show T _ (mkBase 77 0 w0 S0 U0 B0) ⟨[dv (.int .i64 h), dv (strV d), slV false false (k_quaestorlaw11_Act false) l], []⟩ _ _
  refine T.seq ?_
  refine xR [] (by kernel_rfl) (by kernel_rfl) ?_
  refine nT ?_
  refine T.seq ?_
  refine T.seq ?_
  by_cases hq1 : fewA l
  · refine xR [hR 1 rfl rfl (r_call (law_few l (by first | assumption | omega | (unfold maxLen; omega) | (simp [maxLen, -List.getD_eq_getElem?_getD] <;> omega) | decide) (by first | assumption | omega | (unfold maxLen; omega) | (simp [maxLen, -List.getD_eq_getElem?_getD] <;> omega) | decide)) Try.func9 rfl (by decide) [] [] (l := [(.tmp 12, slV false false (k_quaestorlaw11_Act false) l)]) [] rfl 0 0 rfl rfl rfl rfl rfl rfl rfl rfl rfl ⟨.inl ⟨rfl, rfl⟩, trivial⟩ rfl (fun b hb => by cases hb) (.inl rfl) (lt_of rfl) trivial),
      hY 4 (congrArg Bool.not (decide_eq_true hq1)),
      hY 5 (congrArg Bool.not (decide_eq_true hq1)),
      hY 6 (congrArg Bool.not (decide_eq_true hq1)),
      hP 7 (congrArg Bool.not (decide_eq_true hq1))] (by kernel_rfl) (by kernel_rfl) ?_
    refine nT ?_
    by_cases hq2 : ((d.length : Nat) : Int) > 5000
    · refine T.condT (by kernel_rfl) (decide_eq_true hq2) ?_
      refine T.seq ?_
      refine xR [] (by kernel_rfl) (by kernel_rfl) ?_
      refine nT ?_
      refine T.ret ?_
      refine rT ?_
      exact tE (.inl rfl) [.t 6 (.one (.d (.val (.bool true))))] ⟨⟨rfl, by kernel_rfl⟩, trivial⟩ [] rfl rfl rfl rfl rfl rfl trivial
    · refine T.condF (by kernel_rfl) (decide_eq_false hq2) ?_
      refine T.skip ?_
      refine nT ?_
      refine T.seq ?_
      by_cases hq3 : 0 ≤ h ∧ h ≤ 1099511627776
      · refine xR [hR 2 rfl rfl (r_call (ledger_From_ok h d (by first | assumption | omega | (unfold maxLen; omega) | (simp [maxLen, -List.getD_eq_getElem?_getD] <;> omega) | decide)) Try.func21 rfl (by decide) [0, 1] [] (l := [(.tmp 21, dv (.int .i64 h)), (.tmp 22, dv (strV d))]) [] rfl 0 2 rfl rfl rfl rfl rfl rfl rfl rfl rfl ⟨.inl ⟨rfl, rfl⟩, ⟨.inl ⟨rfl, rfl⟩, trivial⟩⟩ rfl (fun b hb => by cases hb) (.inl rfl) (lt_of rfl) trivial)] (by kernel_rfl) (by kernel_rfl) ?_
        refine nT ?_
        refine T.seq ?_
        refine xR [hR 2 rfl rfl (r_call (ref11_From_ok h d (by first | assumption | omega | (unfold maxLen; omega) | (simp [maxLen, -List.getD_eq_getElem?_getD] <;> omega) | decide)) Try.func22 rfl (by decide) [2, 3] [] (l := [(.tmp 27, dv (.int .i64 h)), (.tmp 28, dv (strV d))]) [] rfl 0 2 rfl rfl rfl rfl rfl rfl rfl rfl rfl ⟨.inl ⟨rfl, rfl⟩, ⟨.inl ⟨rfl, rfl⟩, trivial⟩⟩ rfl (fun b hb => by cases hb) (.inl rfl) (lt_of rfl) trivial)] (by kernel_rfl) (by kernel_rfl) ?_
        refine nT ?_
        refine T.seq ?_
        refine T.seq ?_
        refine xR [hY 4 (b := false) (w := false) rfl,
          hY 5 (b := false) (w := false) rfl,
          hY 6 (b := false) (w := false) rfl,
          hY 7 (b := false) (w := false) rfl,
          hY 8 (b := false) (w := false) rfl,
          hP 9 (b := false) (w := false) rfl] (by kernel_rfl) (by kernel_rfl) ?_
        refine nT ?_
        refine T.condF (by kernel_rfl) (show decide (false ≠ false) = false from decide_eq_false (fun h => h rfl)) ?_
        refine T.skip ?_
        refine nT ?_
        refine T.seq ?_
        refine T.seq ?_
        refine xR [] (by kernel_rfl) (by kernel_rfl) ?_
        refine nT ?_
        refine T.condF (b := false) (by kernel_rfl) rfl ?_
        refine T.skip ?_
        refine nT ?_
        refine T.seq ?_
        refine T.seq ?_
        refine xR [] (by kernel_rfl) (by kernel_rfl) ?_
        refine nT ?_
        refine T.block ?_
        refine T.loop (ι := Nat) (fun (k : Nat) => ⟨[dv (.int .i64 h), dv (strV d), slV false false (k_quaestorlaw11_Act false) l, aa, aa, aa, dv (.bool false), pv 0 0, dv (.int .i64 0), pv 2 0, dv (.int .i64 0), dv (.int .i64 ((k : Nat) : Int)), aa, aa, aa, aa, aa, aa, aa, dv (.bool (decide (((d.length : Nat) : Int) > 5000))), aa, aa, aa, aa, aa, aa, aa, aa, aa, aa, aa, aa, aa, aa, aa, aa, aa, aa, aa, aa, aa, dv (.bool (decide (false ≠ false))), aa, dv (.bool false)], [.live (.box 74 [.d (.val (.int .i64 (runS (sFrom h d) l k).h)), .d (.val (strV (runS (sFrom h d) l k).d)), .d (.val (.bool true)), .own 1 (k_ledger_link false).sz 0 (linksB (runS (sFrom h d) l k).L).length]), .live (arrK 80 (k_ledger_link false) (linksB (runS (sFrom h d) l k).L)), .live (.box 76 [.d (.val (.bool true)), .d (.val (.int .i64 (runS (sFrom h d) l k).h)), .d (.val (strV (runS (sFrom h d) l k).d)), .own 3 (k_api_Block false).sz 0 (runS (sFrom h d) l k).L.length]), .live (arrK 33 (k_api_Block false) (runS (sFrom h d) l k).L)]⟩) (fun (k : Nat) => (k ≤ l.length)) (fun (k : Nat) => l.length - k) (0) (Nat.zero_le _) (fun _ _ hG => Gs.into2 (s' := ⟨[dv (.int .i64 h), dv (strV d), slV false false (k_quaestorlaw11_Act false) l, aa, aa, aa, dv (.bool false), pv 0 0, dv (.int .i64 0), pv 2 0, dv (.int .i64 0), dv (.int .i64 0), aa, aa, aa, aa, aa, aa, aa, dv (.bool (decide (((d.length : Nat) : Int) > 5000))), aa, aa, aa, aa, aa, aa, aa, aa, aa, aa, aa, aa, aa, aa, aa, aa, aa, aa, aa, aa, aa, dv (.bool (decide (false ≠ false))), aa, dv (.bool false)], [.live (.box 74 [.d (.val (.int .i64 (runS (sFrom h d) l 0).h)), .d (.val (strV (runS (sFrom h d) l 0).d)), .d (.val (.bool true)), .own 1 (k_ledger_link false).sz 0 (linksB (runS (sFrom h d) l 0).L).length]), .live (arrK 80 (k_ledger_link false) (linksB (runS (sFrom h d) l 0).L)), .live (.box 76 [.d (.val (.bool true)), .d (.val (.int .i64 (runS (sFrom h d) l 0).h)), .d (.val (strV (runS (sFrom h d) l 0).d)), .own 3 (k_api_Block false).sz 0 (runS (sFrom h d) l 0).L.length]), .live (arrK 33 (k_api_Block false) (runS (sFrom h d) l 0).L)]⟩) [0, 1, 2, 3] (bm 44 10995116806087) (t1 := [dv (.int .i64 h), dv (strV d), slV false false (k_quaestorlaw11_Act false) l, aa, aa, aa, dv (.bool false), pv 0 0, dv (.int .i64 0), pv 2 0, dv (.int .i64 0), dv (.int .i64 0), aa, aa, aa, aa, aa, aa, aa, dv (.bool (decide (((d.length : Nat) : Int) > 5000))), aa, aa, aa, aa, aa, aa, aa, aa, aa, aa, aa, aa, aa, aa, aa, aa, aa, aa, aa, aa, aa, dv (.bool (decide (false ≠ false))), aa, dv (.bool false)]) (h1 := [.live (.box 74 [.d (.val (.int .i64 (runS (sFrom h d) l 0).h)), .d (.val (strV (runS (sFrom h d) l 0).d)), .d (.val (.bool true)), .own 1 (k_ledger_link false).sz 0 (linksB (runS (sFrom h d) l 0).L).length]), .live (arrK 80 (k_ledger_link false) (linksB (runS (sFrom h d) l 0).L)), .live (.box 76 [.d (.val (.bool true)), .d (.val (.int .i64 (runS (sFrom h d) l 0).h)), .d (.val (strV (runS (sFrom h d) l 0).d)), .own 3 (k_api_Block false).sz 0 (runS (sFrom h d) l 0).L.length]), .live (arrK 33 (k_api_Block false) (runS (sFrom h d) l 0).L)]) (h2 := [.live (.box 74 [.d (.val (.int .i64 h)), .d (.val (strV d)), .d (.val (.bool true)), .own 1 (k_ledger_link false).sz 0 ([] : List ledger_link).length]), .live (arrK 80 (k_ledger_link false) ([] : List ledger_link)), .live (.box 76 [.d (.val (.bool true)), .d (.val (.int .i64 h)), .d (.val (strV d)), .own 3 (k_api_Block false).sz 0 ([] : List api_Block).length]), .live (arrK 33 (k_api_Block false) ([] : List api_Block))]) rfl (by have e1 : ((runS (sFrom h d) l 0).h : Int) = h := (by rfl); have e2 : ((runS (sFrom h d) l 0).d : List UInt8) = d := (by rfl); have e3 : ((linksB (runS (sFrom h d) l 0).L).length : Nat) = ([] : List ledger_link).length := (by rfl); have e4 : ((linksB (runS (sFrom h d) l 0).L) : List ledger_link) = ([] : List ledger_link) := (by rfl); have e5 : ((runS (sFrom h d) l 0).h : Int) = h := (by rfl); have e6 : ((runS (sFrom h d) l 0).d : List UInt8) = d := (by rfl); have e7 : ((runS (sFrom h d) l 0).L.length : Nat) = ([] : List api_Block).length := (by rfl); have e8 : ((runS (sFrom h d) l 0).L : List api_Block) = ([] : List api_Block) := (by rfl); have hE := congr (congr (congr (congr (congr (congr (congr (congrArg (fun (q1 : Int) (q2 : List UInt8) (q3 : Nat) (q4 : List ledger_link) (q5 : Int) (q6 : List UInt8) (q7 : Nat) (q8 : List api_Block) => ([.live (.box 74 [.d (.val (.int .i64 q1)), .d (.val (strV q2)), .d (.val (.bool true)), .own 1 (k_ledger_link false).sz 0 q3]), .live (arrK 80 (k_ledger_link false) q4), .live (.box 76 [.d (.val (.bool true)), .d (.val (.int .i64 q5)), .d (.val (strV q6)), .own 3 (k_api_Block false).sz 0 q7]), .live (arrK 33 (k_api_Block false) q8)] : List HS)) e1) e2) e3) e4) e5) e6) e7) e8; exact hE) (by kernel_rfl) (by kernel_rfl) (by kernel_rfl) (by kernel_rfl) (by kernel_rfl) (by kernel_rfl) (by kernel_rfl) (by kernel_rfl) (by kernel_rfl) (by kernel_rfl) (by kernel_rfl) hG) ?_
        rintro k hk
        show T _ _ ⟨[dv (.int .i64 h), dv (strV d), slV false false (k_quaestorlaw11_Act false) l, aa, aa, aa, dv (.bool false), pv 0 0, dv (.int .i64 0), pv 2 0, dv (.int .i64 0), dv (.int .i64 ((k : Nat) : Int)), aa, aa, aa, aa, aa, aa, aa, dv (.bool (decide (((d.length : Nat) : Int) > 5000))), aa, aa, aa, aa, aa, aa, aa, aa, aa, aa, aa, aa, aa, aa, aa, aa, aa, aa, aa, aa, aa, dv (.bool (decide (false ≠ false))), aa, dv (.bool false)], [.live (.box 74 [.d (.val (.int .i64 (runS (sFrom h d) l k).h)), .d (.val (strV (runS (sFrom h d) l k).d)), .d (.val (.bool true)), .own 1 (k_ledger_link false).sz 0 (linksB (runS (sFrom h d) l k).L).length]), .live (arrK 80 (k_ledger_link false) (linksB (runS (sFrom h d) l k).L)), .live (.box 76 [.d (.val (.bool true)), .d (.val (.int .i64 (runS (sFrom h d) l k).h)), .d (.val (strV (runS (sFrom h d) l k).d)), .own 3 (k_api_Block false).sz 0 (runS (sFrom h d) l k).L.length]), .live (arrK 33 (k_api_Block false) (runS (sFrom h d) l k).L)]⟩ _ _
        replace hk : k ≤ l.length := hk
        have hl30 := hq1.1
        have hs0 := okS_from hq3 (by omega : d.length ≤ 5000)
        have f0 := run_fact hs0 hq1 (k := k) (by omega)
        have f0h := f0.1
        have f0l := f0.2.1
        have f0w := f0.2.2.1
        have f0a := f0.2.2.2
        have hfx := (fewA_get hq1 k).1
        refine T.seq ?_
        refine T.seq ?_
        refine xR [] (by kernel_rfl) (by kernel_rfl) ?_
        refine nT ?_
        by_cases hq4 : ((k : Nat) : Int) < ((l.length : Nat) : Int)
        · have f1 := run_fact hs0 hq1 (k := k + 1) (by omega); have f1h := f1.1; have f1l := f1.2.1; have f1w := f1.2.2.1; have f1a := f1.2.2.2
          refine T.condT (by kernel_rfl) (decide_eq_true hq4) ?_
          refine T.skip ?_
          refine nT ?_
          refine T.seq ?_
          refine T.block ?_
          refine T.seq ?_
          refine xR [hR 4 rfl rfl (q_index false false (k_quaestorlaw11_Act false) l k (k := .i64) (i := ((k : Nat) : Int)) Try.underlying22 iat_35 rfl rfl (by first | assumption | omega | (unfold maxLen; omega) | (simp [maxLen, -List.getD_eq_getElem?_getD] <;> omega) | decide) (lt_of rfl) trivial),
            hR 6 rfl rfl (r_call (law_step (runS (sFrom h d) l k).h (runS (sFrom h d) l k).d (runS (sFrom h d) l k).L (l.getD k z_quaestorlaw11_Act) (by first | assumption | omega | (unfold maxLen; omega) | (simp [maxLen, -List.getD_eq_getElem?_getD] <;> omega) | decide) (by first | assumption | omega | (unfold maxLen; omega) | (simp [maxLen, -List.getD_eq_getElem?_getD] <;> omega) | decide) (by first | assumption | omega | (unfold maxLen; omega) | (simp [maxLen, -List.getD_eq_getElem?_getD] <;> omega) | decide) (by first | assumption | omega | (unfold maxLen; omega) | (simp [maxLen, -List.getD_eq_getElem?_getD] <;> omega) | decide) (by first | assumption | omega | (unfold maxLen; omega) | (simp [maxLen, -List.getD_eq_getElem?_getD] <;> omega) | decide)) Try.func12 rfl (by decide) [0, 1, 2, 3, 4, 5] [] (l := [(.tmp 51, pv 0 0), (.tmp 52, pv 2 0), (.tmp 56, .tv (.agg [.d (.val (.bool (l.getD k z_quaestorlaw11_Act).f_Cut)), .d (.val (.bool (l.getD k z_quaestorlaw11_Act).f_Right)), .d (.val (.int .i64 (l.getD k z_quaestorlaw11_Act).f_H)), .d (.val (.int .i64 (l.getD k z_quaestorlaw11_Act).f_Block.f_Height)), .d (.val (strV (l.getD k z_quaestorlaw11_Act).f_Block.f_Prev)), .d (dsl false false (k_api_Envelope false) (l.getD k z_quaestorlaw11_Act).f_Block.f_Requests), .d (dsl false false (k_api_Result false) (l.getD k z_quaestorlaw11_Act).f_Block.f_Results)]))]) [] rfl 4 6 rfl rfl rfl rfl rfl rfl rfl rfl rfl ⟨.inl ⟨rfl, rfl⟩, ⟨.inl ⟨rfl, rfl⟩, ⟨⟨.inl ⟨rfl, rfl⟩, ⟨.inl ⟨rfl, rfl⟩, ⟨.inl ⟨rfl, rfl⟩, ⟨.inl ⟨rfl, rfl⟩, ⟨.inl ⟨rfl, rfl⟩, ⟨.inl ⟨rfl, rfl⟩, ⟨.inl ⟨rfl, rfl⟩, trivial⟩⟩⟩⟩⟩⟩⟩, trivial⟩⟩⟩ rfl (fun b hb => by cases hb) (.inl rfl) (lt_of rfl) trivial),
            hY 9 (b := false) (w := false) rfl,
            hY 10 (b := false) (w := false) rfl,
            hY 11 (b := false) (w := false) rfl,
            hY 12 (b := false) (w := false) rfl,
            hS 13 (oY (b := false) rfl rfl rfl rfl (lt_of rfl) rfl (q_index false false (k_quaestorlaw11_Act false) l k (k := .i64) (i := ((k : Nat) : Int)) Try.underlying22 iat_35 rfl rfl (by first | assumption | omega | (unfold maxLen; omega) | (simp [maxLen, -List.getD_eq_getElem?_getD] <;> omega) | decide) (lt_of rfl) trivial)),
            hY 14 (b := false) (w := false) rfl,
            hY 15 (b := false) (w := false) rfl,
            hS 16 (oY (b := false) rfl rfl rfl rfl (lt_of rfl) rfl (r_call (law_same (stH (runS (sFrom h d) l k).h (runS (sFrom h d) l k).L (l.getD k z_quaestorlaw11_Act)) (stD (runS (sFrom h d) l k).h (runS (sFrom h d) l k).d (runS (sFrom h d) l k).L (l.getD k z_quaestorlaw11_Act)) (stL (runS (sFrom h d) l k).h (runS (sFrom h d) l k).d (runS (sFrom h d) l k).L (l.getD k z_quaestorlaw11_Act)) (l.getD k z_quaestorlaw11_Act).f_H (by first | assumption | omega | (unfold maxLen; omega) | (simp [maxLen, -List.getD_eq_getElem?_getD] <;> omega) | decide) (by first | assumption | omega | (unfold maxLen; omega) | (simp [maxLen, -List.getD_eq_getElem?_getD] <;> omega) | decide) (by first | assumption | omega | (unfold maxLen; omega) | (simp [maxLen, -List.getD_eq_getElem?_getD] <;> omega) | decide)) Try.func13 rfl (by decide) [0, 4, 2, 5] [] (l := [(.tmp 60, pv 0 0), (.tmp 61, pv 2 0), (.tmp 66, dv (.int .i64 (l.getD k z_quaestorlaw11_Act).f_H))]) [] rfl 4 4 rfl rfl rfl rfl rfl rfl rfl rfl rfl ⟨.inl ⟨rfl, rfl⟩, ⟨.inl ⟨rfl, rfl⟩, ⟨.inl ⟨rfl, rfl⟩, trivial⟩⟩⟩ rfl (fun b hb => by cases hb) (.inl rfl) (lt_of rfl) trivial)),
            hY 17 (b := false) (w := false) rfl,
            hP 18 (b := false) (w := false) rfl] (by kernel_rfl) (by kernel_rfl) ?_
          refine nT ?_
          refine T.condF (b := (!true)) (by kernel_rfl) rfl ?_
          refine T.skip ?_
          refine nB ?_
          refine nT ?_
          refine xR [hR 1 rfl rfl (r_bin (u1 := .int .i64 ((k : Nat) : Int)) (u2 := .int .i64 1) (v := .int .i64 ((k + 1 : Nat) : Int)) (b_add (by rw [IntKind.wrap_i64]; omega)) (lt_of rfl) ⟨rfl, trivial⟩)] (by kernel_rfl) (by kernel_rfl) ?_
          refine nL (k + 1) (show (k + 1) ≤ l.length from (by omega)) (show (l.length - (k + 1) : Nat) < l.length - k from (by omega)) (fun _ _ hG => Gs.into2 (s' := ⟨[dv (.int .i64 h), dv (strV d), slV false false (k_quaestorlaw11_Act false) l, aa, aa, aa, dv (.bool false), pv 0 0, dv (.int .i64 0), pv 2 0, dv (.int .i64 0), dv (.int .i64 ((k + 1 : Nat) : Int)), aa, aa, aa, aa, aa, aa, aa, dv (.bool (decide (((d.length : Nat) : Int) > 5000))), aa, aa, aa, aa, aa, aa, aa, aa, aa, aa, aa, aa, aa, aa, aa, aa, aa, aa, aa, aa, aa, dv (.bool (decide (false ≠ false))), aa, dv (.bool false)], [.live (.box 74 [.d (.val (.int .i64 (runS (sFrom h d) l (k + 1)).h)), .d (.val (strV (runS (sFrom h d) l (k + 1)).d)), .d (.val (.bool true)), .own 1 (k_ledger_link false).sz 0 (linksB (runS (sFrom h d) l (k + 1)).L).length]), .live (arrK 80 (k_ledger_link false) (linksB (runS (sFrom h d) l (k + 1)).L)), .live (.box 76 [.d (.val (.bool true)), .d (.val (.int .i64 (runS (sFrom h d) l (k + 1)).h)), .d (.val (strV (runS (sFrom h d) l (k + 1)).d)), .own 3 (k_api_Block false).sz 0 (runS (sFrom h d) l (k + 1)).L.length]), .live (arrK 33 (k_api_Block false) (runS (sFrom h d) l (k + 1)).L)]⟩) [0, 4, 2, 5] (bm 44 10995116806087) (t1 := [dv (.int .i64 h), dv (strV d), slV false false (k_quaestorlaw11_Act false) l, aa, aa, aa, dv (.bool false), pv 0 0, dv (.int .i64 0), pv 2 0, dv (.int .i64 0), dv (.int .i64 ((k + 1 : Nat) : Int)), aa, aa, aa, aa, aa, aa, aa, dv (.bool (decide (((d.length : Nat) : Int) > 5000))), aa, aa, aa, aa, aa, aa, aa, aa, aa, aa, aa, aa, aa, aa, aa, aa, aa, aa, aa, aa, aa, dv (.bool (decide (false ≠ false))), aa, dv (.bool false)]) (h1 := [.live (.box 74 [.d (.val (.int .i64 (runS (sFrom h d) l (k + 1)).h)), .d (.val (strV (runS (sFrom h d) l (k + 1)).d)), .d (.val (.bool true)), .own 4 (k_ledger_link false).sz 0 (linksB (runS (sFrom h d) l (k + 1)).L).length]), .live (arrK 80 (k_ledger_link false) (linksB (runS (sFrom h d) l (k + 1)).L)), .live (.box 76 [.d (.val (.bool true)), .d (.val (.int .i64 (runS (sFrom h d) l (k + 1)).h)), .d (.val (strV (runS (sFrom h d) l (k + 1)).d)), .own 5 (k_api_Block false).sz 0 (runS (sFrom h d) l (k + 1)).L.length]), .live (arrK 33 (k_api_Block false) (runS (sFrom h d) l (k + 1)).L)]) (h2 := [.live (.box 74 [.d (.val (.int .i64 (stH (runS (sFrom h d) l k).h (runS (sFrom h d) l k).L (l.getD k z_quaestorlaw11_Act)))), .d (.val (strV (stD (runS (sFrom h d) l k).h (runS (sFrom h d) l k).d (runS (sFrom h d) l k).L (l.getD k z_quaestorlaw11_Act)))), .d (.val (.bool true)), .own 4 (k_ledger_link false).sz 0 (linksB (stL (runS (sFrom h d) l k).h (runS (sFrom h d) l k).d (runS (sFrom h d) l k).L (l.getD k z_quaestorlaw11_Act))).length]), .live (arrK 80 (k_ledger_link false) (linksB (stL (runS (sFrom h d) l k).h (runS (sFrom h d) l k).d (runS (sFrom h d) l k).L (l.getD k z_quaestorlaw11_Act)))), .live (.box 76 [.d (.val (.bool true)), .d (.val (.int .i64 (stH (runS (sFrom h d) l k).h (runS (sFrom h d) l k).L (l.getD k z_quaestorlaw11_Act)))), .d (.val (strV (stD (runS (sFrom h d) l k).h (runS (sFrom h d) l k).d (runS (sFrom h d) l k).L (l.getD k z_quaestorlaw11_Act)))), .own 5 (k_api_Block false).sz 0 (stL (runS (sFrom h d) l k).h (runS (sFrom h d) l k).d (runS (sFrom h d) l k).L (l.getD k z_quaestorlaw11_Act)).length]), .live (arrK 33 (k_api_Block false) (stL (runS (sFrom h d) l k).h (runS (sFrom h d) l k).d (runS (sFrom h d) l k).L (l.getD k z_quaestorlaw11_Act)))]) rfl (by have e1 : ((runS (sFrom h d) l (k + 1)).h : Int) = (stH (runS (sFrom h d) l k).h (runS (sFrom h d) l k).L (l.getD k z_quaestorlaw11_Act)) := (by rfl); have e2 : ((runS (sFrom h d) l (k + 1)).d : List UInt8) = (stD (runS (sFrom h d) l k).h (runS (sFrom h d) l k).d (runS (sFrom h d) l k).L (l.getD k z_quaestorlaw11_Act)) := (by rfl); have e3 : ((linksB (runS (sFrom h d) l (k + 1)).L).length : Nat) = (linksB (stL (runS (sFrom h d) l k).h (runS (sFrom h d) l k).d (runS (sFrom h d) l k).L (l.getD k z_quaestorlaw11_Act))).length := (by rfl); have e4 : ((linksB (runS (sFrom h d) l (k + 1)).L) : List ledger_link) = (linksB (stL (runS (sFrom h d) l k).h (runS (sFrom h d) l k).d (runS (sFrom h d) l k).L (l.getD k z_quaestorlaw11_Act))) := (by rfl); have e5 : ((runS (sFrom h d) l (k + 1)).h : Int) = (stH (runS (sFrom h d) l k).h (runS (sFrom h d) l k).L (l.getD k z_quaestorlaw11_Act)) := (by rfl); have e6 : ((runS (sFrom h d) l (k + 1)).d : List UInt8) = (stD (runS (sFrom h d) l k).h (runS (sFrom h d) l k).d (runS (sFrom h d) l k).L (l.getD k z_quaestorlaw11_Act)) := (by rfl); have e7 : ((runS (sFrom h d) l (k + 1)).L.length : Nat) = (stL (runS (sFrom h d) l k).h (runS (sFrom h d) l k).d (runS (sFrom h d) l k).L (l.getD k z_quaestorlaw11_Act)).length := (by rfl); have e8 : ((runS (sFrom h d) l (k + 1)).L : List api_Block) = (stL (runS (sFrom h d) l k).h (runS (sFrom h d) l k).d (runS (sFrom h d) l k).L (l.getD k z_quaestorlaw11_Act)) := (by rfl); have hE := congr (congr (congr (congr (congr (congr (congr (congrArg (fun (q1 : Int) (q2 : List UInt8) (q3 : Nat) (q4 : List ledger_link) (q5 : Int) (q6 : List UInt8) (q7 : Nat) (q8 : List api_Block) => ([.live (.box 74 [.d (.val (.int .i64 q1)), .d (.val (strV q2)), .d (.val (.bool true)), .own 4 (k_ledger_link false).sz 0 q3]), .live (arrK 80 (k_ledger_link false) q4), .live (.box 76 [.d (.val (.bool true)), .d (.val (.int .i64 q5)), .d (.val (strV q6)), .own 5 (k_api_Block false).sz 0 q7]), .live (arrK 33 (k_api_Block false) q8)] : List HS)) e1) e2) e3) e4) e5) e6) e7) e8; exact hE) (by kernel_rfl) (by kernel_rfl) (by kernel_rfl) (by kernel_rfl) (by kernel_rfl) (by kernel_rfl) (by kernel_rfl) (by kernel_rfl) (by kernel_rfl) (by kernel_rfl) (by kernel_rfl) hG)
        · refine T.condF (by kernel_rfl) (decide_eq_false hq4) ?_
          refine T.exit ?_
          refine xT ?_
          refine xT ?_
          refine xH ?_
          refine nT ?_
          refine T.seq ?_
          refine xR [hR 3 rfl rfl (r_call (law_same (runS (sFrom h d) l k).h (runS (sFrom h d) l k).d (runS (sFrom h d) l k).L h (by first | assumption | omega | (unfold maxLen; omega) | (simp [maxLen, -List.getD_eq_getElem?_getD] <;> omega) | decide) (by first | assumption | omega | (unfold maxLen; omega) | (simp [maxLen, -List.getD_eq_getElem?_getD] <;> omega) | decide) (by first | assumption | omega | (unfold maxLen; omega) | (simp [maxLen, -List.getD_eq_getElem?_getD] <;> omega) | decide)) Try.func13 rfl (by decide) [0, 1, 2, 3] [] (l := [(.tmp 70, pv 0 0), (.tmp 71, pv 2 0), (.tmp 72, dv (.int .i64 h))]) [] rfl 4 4 rfl rfl rfl rfl rfl rfl rfl rfl rfl ⟨.inl ⟨rfl, rfl⟩, ⟨.inl ⟨rfl, rfl⟩, ⟨.inl ⟨rfl, rfl⟩, trivial⟩⟩⟩ rfl (fun b hb => by cases hb) (.inl rfl) (lt_of rfl) trivial),
            hS 5 (oY (b := true) rfl rfl rfl rfl (lt_of rfl) rfl (r_call (law_awake  ) Try.func14 rfl (by decide) [] [] (l := []) [] rfl 0 0 rfl rfl rfl rfl rfl rfl rfl rfl rfl trivial rfl (fun b hb => by cases hb) (.inl rfl) (lt_of rfl) trivial)),
            hP 6 (b := true) (w := true) rfl] (by kernel_rfl) (by kernel_rfl) ?_
          refine nT ?_
          refine T.ret ?_
          exact tE (.inl rfl) [.t 6 (.one (.d (.val (.bool true))))] ⟨⟨rfl, by kernel_rfl⟩, trivial⟩ [] rfl rfl rfl rfl rfl rfl trivial
      · refine xR [hR 2 rfl rfl (r_call (ledger_From_no h d (by first | assumption | omega | (unfold maxLen; omega) | (simp [maxLen, -List.getD_eq_getElem?_getD] <;> omega) | decide)) Try.func21 rfl (by decide) [] [] (l := [(.tmp 21, dv (.int .i64 h)), (.tmp 22, dv (strV d))]) [] rfl 0 0 rfl rfl rfl rfl rfl rfl rfl rfl rfl ⟨.inl ⟨rfl, rfl⟩, ⟨.inl ⟨rfl, rfl⟩, trivial⟩⟩ rfl (fun b hb => by cases hb) (.inl rfl) (lt_of rfl) trivial)] (by kernel_rfl) (by kernel_rfl) ?_
        refine nT ?_
        refine T.seq ?_
        refine xR [hR 2 rfl rfl (r_call (ref11_From_no h d (by first | assumption | omega | (unfold maxLen; omega) | (simp [maxLen, -List.getD_eq_getElem?_getD] <;> omega) | decide)) Try.func22 rfl (by decide) [] [] (l := [(.tmp 27, dv (.int .i64 h)), (.tmp 28, dv (strV d))]) [] rfl 0 0 rfl rfl rfl rfl rfl rfl rfl rfl rfl ⟨.inl ⟨rfl, rfl⟩, ⟨.inl ⟨rfl, rfl⟩, trivial⟩⟩ rfl (fun b hb => by cases hb) (.inl rfl) (lt_of rfl) trivial)] (by kernel_rfl) (by kernel_rfl) ?_
        refine nT ?_
        refine T.seq ?_
        refine T.seq ?_
        refine xR [hY 4 (b := false) (w := false) rfl,
          hY 5 (b := false) (w := false) rfl,
          hY 6 (b := false) (w := false) rfl,
          hY 7 (b := false) (w := false) rfl,
          hY 8 (b := false) (w := false) rfl,
          hP 9 (b := false) (w := false) rfl] (by kernel_rfl) (by kernel_rfl) ?_
        refine nT ?_
        refine T.condF (by kernel_rfl) (show decide (true ≠ true) = false from decide_eq_false (fun h => h rfl)) ?_
        refine T.skip ?_
        refine nT ?_
        refine T.seq ?_
        refine T.seq ?_
        refine xR [] (by kernel_rfl) (by kernel_rfl) ?_
        refine nT ?_
        refine T.condT (b := true) (by kernel_rfl) rfl ?_
        refine T.seq ?_
        refine xR [hR 0 rfl rfl (r_call (law_awake  ) Try.func14 rfl (by decide) [] [] (l := []) [] rfl 0 0 rfl rfl rfl rfl rfl rfl rfl rfl rfl trivial rfl (fun b hb => by cases hb) (.inl rfl) (lt_of rfl) trivial)] (by kernel_rfl) (by kernel_rfl) ?_
        refine nT ?_
        refine T.ret ?_
        refine rT ?_
        exact tE (.inl rfl) [.t 6 (.one (.d (.val (.bool true))))] ⟨⟨rfl, by kernel_rfl⟩, trivial⟩ [] rfl rfl rfl rfl rfl rfl trivial
  · refine xR [hR 1 rfl rfl (r_call (law_few l (by first | assumption | omega | (unfold maxLen; omega) | (simp [maxLen, -List.getD_eq_getElem?_getD] <;> omega) | decide) (by first | assumption | omega | (unfold maxLen; omega) | (simp [maxLen, -List.getD_eq_getElem?_getD] <;> omega) | decide)) Try.func9 rfl (by decide) [] [] (l := [(.tmp 12, slV false false (k_quaestorlaw11_Act false) l)]) [] rfl 0 0 rfl rfl rfl rfl rfl rfl rfl rfl rfl ⟨.inl ⟨rfl, rfl⟩, trivial⟩ rfl (fun b hb => by cases hb) (.inl rfl) (lt_of rfl) trivial),
      hN 4 false (congrArg Bool.not (decide_eq_false hq1)),
      hN 5 false (congrArg Bool.not (decide_eq_false hq1)),
      hN 6 false (congrArg Bool.not (decide_eq_false hq1)),
      hP 7 (congrArg Bool.not (decide_eq_false hq1))] (by kernel_rfl) (by kernel_rfl) ?_
    refine nT ?_
    refine T.condT (b := true) (by kernel_rfl) rfl ?_
    refine T.seq ?_
    refine xR [] (by kernel_rfl) (by kernel_rfl) ?_
    refine nT ?_
    refine T.ret ?_
    refine rT ?_
    exact tE (.inl rfl) [.t 6 (.one (.d (.val (.bool true))))] ⟨⟨rfl, by kernel_rfl⟩, trivial⟩ [] rfl rfl rfl rfl rfl rfl trivial
end Go.Proofs.Ytdclfhahcfefeaa.Q
