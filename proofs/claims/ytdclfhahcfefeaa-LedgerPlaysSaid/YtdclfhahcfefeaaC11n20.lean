import Derived.Test.YtdclfhahcfefeaaM11D
namespace Go.Proofs.Ytdclfhahcfefeaa.Q
open Go Go.RowKit
set_option linter.unusedVariables false
set_option linter.unusedSimpArgs false
set_option maxRecDepth 100000
set_option maxHeartbeats 4000000
-- quaestor/quaestorlaw11.LedgerPlays
theorem law_LedgerPlays (l : List quaestorlaw11_Act) (x : Int) (hl : l.length ≤ 9223372036854775807) (hx : ∀ j, (l.getD j z_quaestorlaw11_Act).f_Block.f_Requests.length ≤ 9223372036854775807 ∧ (l.getD j z_quaestorlaw11_Act).f_Block.f_Results.length ≤ 9223372036854775807) : Holds Try.prog 3 ⟨[slV false false (k_quaestorlaw11_Act false) l, dv (.int .i64 x)], [], dv (.bool true), []⟩ := by
  refine Holds.of Try.func3 rfl (N := 46) Try.ntmps3 rfl fun w0 B0 S0 U0 => ?_
  show T _ (mkBase 46 0 w0 S0 U0 B0) ⟨[slV false false (k_quaestorlaw11_Act false) l, dv (.int .i64 x)], []⟩ _ _
  refine T.seq ?_
  refine xR [] (by kernel_rfl) (by kernel_rfl) ?_
  refine nT ?_
  refine T.seq ?_
  refine T.seq ?_
  refine xR [hR 1 rfl rfl (r_call (law_few l (by first | assumption | omega | (unfold maxLen; omega) | (simp [maxLen, -List.getD_eq_getElem?_getD] <;> omega) | decide) (by first | assumption | omega | (unfold maxLen; omega) | (simp [maxLen, -List.getD_eq_getElem?_getD] <;> omega) | decide)) Try.func9 rfl (by decide) [] [] (l := [(.tmp 8, slV false false (k_quaestorlaw11_Act false) l)]) [] rfl 0 0 rfl rfl rfl rfl rfl rfl rfl rfl rfl ⟨.inl ⟨rfl, rfl⟩, trivial⟩ rfl (fun b hb => by cases hb) (.inl rfl) (lt_of rfl) trivial)] (by kernel_rfl) (by kernel_rfl) ?_
  refine nT ?_
  by_cases hq1 : fewA l
  · refine T.condF (by kernel_rfl) (congrArg Bool.not (decide_eq_true hq1)) ?_
    refine T.skip ?_
    refine nT ?_
    refine T.seq ?_
    refine xR [hR 0 rfl rfl (r_call (ledger_New  ) Try.func10 rfl (by decide) [0, 1] [] (l := []) [] rfl 0 2 rfl rfl rfl rfl rfl rfl rfl rfl rfl trivial rfl (fun b hb => by cases hb) (.inl rfl) (lt_of rfl) trivial),
      hR 1 rfl rfl (r_call (ref11_New  ) Try.func11 rfl (by decide) [2, 3] [] (l := []) [] rfl 0 2 rfl rfl rfl rfl rfl rfl rfl rfl rfl trivial rfl (fun b hb => by cases hb) (.inl rfl) (lt_of rfl) trivial)] (by kernel_rfl) (by kernel_rfl) ?_
    refine nT ?_
    refine T.seq ?_
    refine T.seq ?_
    refine xR [] (by kernel_rfl) (by kernel_rfl) ?_
    refine nT ?_
    refine T.block ?_
    refine T.loop (ι := Nat) (fun (k : Nat) => ⟨[slV false false (k_quaestorlaw11_Act false) l, dv (.int .i64 x), aa, aa, dv (.bool false), pv 0 0, pv 2 0, dv (.int .i64 ((k : Nat) : Int)), aa, aa, dv (.bool (!(decide (fewA l))))], [.live (.box 74 [.d (.val (.int .i64 (runS sNew l k).h)), .d (.val (strV (runS sNew l k).d)), .d (.val (.bool true)), .own 1 (k_ledger_link false).sz 0 (linksB (runS sNew l k).L).length]), .live (arrK 80 (k_ledger_link false) (linksB (runS sNew l k).L)), .live (.box 76 [.d (.val (.bool true)), .d (.val (.int .i64 (runS sNew l k).h)), .d (.val (strV (runS sNew l k).d)), .own 3 (k_api_Block false).sz 0 (runS sNew l k).L.length]), .live (arrK 33 (k_api_Block false) (runS sNew l k).L)]⟩) (fun (k : Nat) => (k ≤ l.length)) (fun (k : Nat) => l.length - k) (0) (Nat.zero_le _) (fun _ _ hG => Gs.into2 (s' := ⟨[slV false false (k_quaestorlaw11_Act false) l, dv (.int .i64 x), aa, aa, dv (.bool false), pv 0 0, pv 2 0, dv (.int .i64 0), aa, aa, dv (.bool (!(decide (fewA l))))], [.live (.box 74 [.d (.val (.int .i64 (runS sNew l 0).h)), .d (.val (strV (runS sNew l 0).d)), .d (.val (.bool true)), .own 1 (k_ledger_link false).sz 0 (linksB (runS sNew l 0).L).length]), .live (arrK 80 (k_ledger_link false) (linksB (runS sNew l 0).L)), .live (.box 76 [.d (.val (.bool true)), .d (.val (.int .i64 (runS sNew l 0).h)), .d (.val (strV (runS sNew l 0).d)), .own 3 (k_api_Block false).sz 0 (runS sNew l 0).L.length]), .live (arrK 33 (k_api_Block false) (runS sNew l 0).L)]⟩) [0, 1, 2, 3] (bm 11 1267) (t1 := [slV false false (k_quaestorlaw11_Act false) l, dv (.int .i64 x), aa, aa, dv (.bool false), pv 0 0, pv 2 0, dv (.int .i64 0), aa, aa, dv (.bool (!(decide (fewA l))))]) (h1 := [.live (.box 74 [.d (.val (.int .i64 (runS sNew l 0).h)), .d (.val (strV (runS sNew l 0).d)), .d (.val (.bool true)), .own 1 (k_ledger_link false).sz 0 (linksB (runS sNew l 0).L).length]), .live (arrK 80 (k_ledger_link false) (linksB (runS sNew l 0).L)), .live (.box 76 [.d (.val (.bool true)), .d (.val (.int .i64 (runS sNew l 0).h)), .d (.val (strV (runS sNew l 0).d)), .own 3 (k_api_Block false).sz 0 (runS sNew l 0).L.length]), .live (arrK 33 (k_api_Block false) (runS sNew l 0).L)]) (h2 := [.live (.box 74 [.d (.val (.int .i64 0)), .d (.val (strV (ofB 6 ([] : List (List UInt8))))), .d (.val (.bool true)), .own 1 (k_ledger_link false).sz 0 ([] : List ledger_link).length]), .live (arrK 80 (k_ledger_link false) ([] : List ledger_link)), .live (.box 76 [.d (.val (.bool true)), .d (.val (.int .i64 0)), .d (.val (strV (ofB 6 ([] : List (List UInt8))))), .own 3 (k_api_Block false).sz 0 ([] : List api_Block).length]), .live (arrK 33 (k_api_Block false) ([] : List api_Block))]) rfl (by have e1 : ((runS sNew l 0).h : Int) = 0 := (by rfl); have e2 : ((runS sNew l 0).d : List UInt8) = (ofB 6 ([] : List (List UInt8))) := (by rfl); have e3 : ((linksB (runS sNew l 0).L).length : Nat) = ([] : List ledger_link).length := (by rfl); have e4 : ((linksB (runS sNew l 0).L) : List ledger_link) = ([] : List ledger_link) := (by rfl); have e5 : ((runS sNew l 0).h : Int) = 0 := (by rfl); have e6 : ((runS sNew l 0).d : List UInt8) = (ofB 6 ([] : List (List UInt8))) := (by rfl); have e7 : ((runS sNew l 0).L.length : Nat) = ([] : List api_Block).length := (by rfl); have e8 : ((runS sNew l 0).L : List api_Block) = ([] : List api_Block) := (by rfl); have hE := congr (congr (congr (congr (congr (congr (congr (congrArg (fun (q1 : Int) (q2 : List UInt8) (q3 : Nat) (q4 : List ledger_link) (q5 : Int) (q6 : List UInt8) (q7 : Nat) (q8 : List api_Block) => ([.live (.box 74 [.d (.val (.int .i64 q1)), .d (.val (strV q2)), .d (.val (.bool true)), .own 1 (k_ledger_link false).sz 0 q3]), .live (arrK 80 (k_ledger_link false) q4), .live (.box 76 [.d (.val (.bool true)), .d (.val (.int .i64 q5)), .d (.val (strV q6)), .own 3 (k_api_Block false).sz 0 q7]), .live (arrK 33 (k_api_Block false) q8)] : List HS)) e1) e2) e3) e4) e5) e6) e7) e8; exact hE) (by kernel_rfl) (by kernel_rfl) (by kernel_rfl) (by kernel_rfl) (by kernel_rfl) (by kernel_rfl) (by kernel_rfl) (by kernel_rfl) (by kernel_rfl) (by kernel_rfl) (by kernel_rfl) hG) ?_
    rintro k hk
    show T _ _ ⟨[slV false false (k_quaestorlaw11_Act false) l, dv (.int .i64 x), aa, aa, dv (.bool false), pv 0 0, pv 2 0, dv (.int .i64 ((k : Nat) : Int)), aa, aa, dv (.bool (!(decide (fewA l))))], [.live (.box 74 [.d (.val (.int .i64 (runS sNew l k).h)), .d (.val (strV (runS sNew l k).d)), .d (.val (.bool true)), .own 1 (k_ledger_link false).sz 0 (linksB (runS sNew l k).L).length]), .live (arrK 80 (k_ledger_link false) (linksB (runS sNew l k).L)), .live (.box 76 [.d (.val (.bool true)), .d (.val (.int .i64 (runS sNew l k).h)), .d (.val (strV (runS sNew l k).d)), .own 3 (k_api_Block false).sz 0 (runS sNew l k).L.length]), .live (arrK 33 (k_api_Block false) (runS sNew l k).L)]⟩ _ _
    replace hk : k ≤ l.length := hk
    have hl30 := hq1.1
    have f0 := run_fact okS_new hq1 (k := k) (by omega)
    have f0h := f0.1
    have f0l := f0.2.1
    have f0w := f0.2.2.1
    have f0a := f0.2.2.2
    have hfx := (fewA_get hq1 k).1
    refine T.seq ?_
    refine T.seq ?_
    refine xR [] (by kernel_rfl) (by kernel_rfl) ?_
    refine nT ?_
    by_cases hq2 : ((k : Nat) : Int) < ((l.length : Nat) : Int)
    · have f1 := run_fact okS_new hq1 (k := k + 1) (by omega); have f1h := f1.1; have f1l := f1.2.1; have f1w := f1.2.2.1; have f1a := f1.2.2.2
      refine T.condT (by kernel_rfl) (decide_eq_true hq2) ?_
      refine T.skip ?_
      refine nT ?_
      refine T.seq ?_
      refine T.block ?_
      refine T.seq ?_
      refine xR [hR 4 rfl rfl (q_index false false (k_quaestorlaw11_Act false) l k (k := .i64) (i := ((k : Nat) : Int)) Try.underlying22 iat_35 rfl rfl (by first | assumption | omega | (unfold maxLen; omega) | (simp [maxLen, -List.getD_eq_getElem?_getD] <;> omega) | decide) (lt_of rfl) trivial),
        hR 6 rfl rfl (r_call (law_step (runS sNew l k).h (runS sNew l k).d (runS sNew l k).L (l.getD k z_quaestorlaw11_Act) (by first | assumption | omega | (unfold maxLen; omega) | (simp [maxLen, -List.getD_eq_getElem?_getD] <;> omega) | decide) (by first | assumption | omega | (unfold maxLen; omega) | (simp [maxLen, -List.getD_eq_getElem?_getD] <;> omega) | decide) (by first | assumption | omega | (unfold maxLen; omega) | (simp [maxLen, -List.getD_eq_getElem?_getD] <;> omega) | decide) (by first | assumption | omega | (unfold maxLen; omega) | (simp [maxLen, -List.getD_eq_getElem?_getD] <;> omega) | decide) (by first | assumption | omega | (unfold maxLen; omega) | (simp [maxLen, -List.getD_eq_getElem?_getD] <;> omega) | decide)) Try.func12 rfl (by decide) [0, 1, 2, 3, 4, 5] [] (l := [(.tmp 19, pv 0 0), (.tmp 20, pv 2 0), (.tmp 24, .tv (.agg [.d (.val (.bool (l.getD k z_quaestorlaw11_Act).f_Cut)), .d (.val (.bool (l.getD k z_quaestorlaw11_Act).f_Right)), .d (.val (.int .i64 (l.getD k z_quaestorlaw11_Act).f_H)), .d (.val (.int .i64 (l.getD k z_quaestorlaw11_Act).f_Block.f_Height)), .d (.val (strV (l.getD k z_quaestorlaw11_Act).f_Block.f_Prev)), .d (dsl false false (k_api_Envelope false) (l.getD k z_quaestorlaw11_Act).f_Block.f_Requests), .d (dsl false false (k_api_Result false) (l.getD k z_quaestorlaw11_Act).f_Block.f_Results)]))]) [] rfl 4 6 rfl rfl rfl rfl rfl rfl rfl rfl rfl ⟨.inl ⟨rfl, rfl⟩, ⟨.inl ⟨rfl, rfl⟩, ⟨⟨.inl ⟨rfl, rfl⟩, ⟨.inl ⟨rfl, rfl⟩, ⟨.inl ⟨rfl, rfl⟩, ⟨.inl ⟨rfl, rfl⟩, ⟨.inl ⟨rfl, rfl⟩, ⟨.inl ⟨rfl, rfl⟩, ⟨.inl ⟨rfl, rfl⟩, trivial⟩⟩⟩⟩⟩⟩⟩, trivial⟩⟩⟩ rfl (fun b hb => by cases hb) (.inl rfl) (lt_of rfl) trivial),
        hY 9 (b := false) (w := false) rfl,
        hY 10 (b := false) (w := false) rfl,
        hY 11 (b := false) (w := false) rfl,
        hS 12 (oY (b := false) rfl rfl rfl rfl (lt_of rfl) rfl (r_call (law_same (stH (runS sNew l k).h (runS sNew l k).L (l.getD k z_quaestorlaw11_Act)) (stD (runS sNew l k).h (runS sNew l k).d (runS sNew l k).L (l.getD k z_quaestorlaw11_Act)) (stL (runS sNew l k).h (runS sNew l k).d (runS sNew l k).L (l.getD k z_quaestorlaw11_Act)) x (by first | assumption | omega | (unfold maxLen; omega) | (simp [maxLen, -List.getD_eq_getElem?_getD] <;> omega) | decide) (by first | assumption | omega | (unfold maxLen; omega) | (simp [maxLen, -List.getD_eq_getElem?_getD] <;> omega) | decide) (by first | assumption | omega | (unfold maxLen; omega) | (simp [maxLen, -List.getD_eq_getElem?_getD] <;> omega) | decide)) Try.func13 rfl (by decide) [0, 4, 2, 5] [] (l := [(.tmp 28, pv 0 0), (.tmp 29, pv 2 0), (.tmp 30, dv (.int .i64 x))]) [] rfl 4 4 rfl rfl rfl rfl rfl rfl rfl rfl rfl ⟨.inl ⟨rfl, rfl⟩, ⟨.inl ⟨rfl, rfl⟩, ⟨.inl ⟨rfl, rfl⟩, trivial⟩⟩⟩ rfl (fun b hb => by cases hb) (.inl rfl) (lt_of rfl) trivial)),
        hY 13 (b := false) (w := false) rfl,
        hP 14 (b := false) (w := false) rfl,
        hY 16 (b := false) (w := false) rfl,
        hY 17 (b := false) (w := false) rfl,
        hY 18 (b := false) (w := false) rfl,
        hY 19 (b := false) (w := false) rfl,
        hS 20 (oY (b := false) rfl rfl rfl rfl (lt_of rfl) rfl (q_index false false (k_quaestorlaw11_Act false) l k (k := .i64) (i := ((k : Nat) : Int)) Try.underlying22 iat_35 rfl rfl (by first | assumption | omega | (unfold maxLen; omega) | (simp [maxLen, -List.getD_eq_getElem?_getD] <;> omega) | decide) (lt_of rfl) trivial)),
        hY 21 (b := false) (w := false) rfl,
        hY 22 (b := false) (w := false) rfl,
        hS 23 (oY (b := false) rfl rfl rfl rfl (lt_of rfl) rfl (r_call (law_same (stH (runS sNew l k).h (runS sNew l k).L (l.getD k z_quaestorlaw11_Act)) (stD (runS sNew l k).h (runS sNew l k).d (runS sNew l k).L (l.getD k z_quaestorlaw11_Act)) (stL (runS sNew l k).h (runS sNew l k).d (runS sNew l k).L (l.getD k z_quaestorlaw11_Act)) (l.getD k z_quaestorlaw11_Act).f_H (by first | assumption | omega | (unfold maxLen; omega) | (simp [maxLen, -List.getD_eq_getElem?_getD] <;> omega) | decide) (by first | assumption | omega | (unfold maxLen; omega) | (simp [maxLen, -List.getD_eq_getElem?_getD] <;> omega) | decide) (by first | assumption | omega | (unfold maxLen; omega) | (simp [maxLen, -List.getD_eq_getElem?_getD] <;> omega) | decide)) Try.func13 rfl (by decide) [0, 4, 2, 5] [] (l := [(.tmp 35, pv 0 0), (.tmp 36, pv 2 0), (.tmp 41, dv (.int .i64 (l.getD k z_quaestorlaw11_Act).f_H))]) [] rfl 4 4 rfl rfl rfl rfl rfl rfl rfl rfl rfl ⟨.inl ⟨rfl, rfl⟩, ⟨.inl ⟨rfl, rfl⟩, ⟨.inl ⟨rfl, rfl⟩, trivial⟩⟩⟩ rfl (fun b hb => by cases hb) (.inl rfl) (lt_of rfl) trivial)),
        hY 24 (b := false) (w := false) rfl,
        hP 25 (b := false) (w := false) rfl] (by kernel_rfl) (by kernel_rfl) ?_
      refine nT ?_
      refine T.condF (b := (!true)) (by kernel_rfl) rfl ?_
      refine T.skip ?_
      refine nB ?_
      refine nT ?_
      refine xR [hR 1 rfl rfl (r_bin (u1 := .int .i64 ((k : Nat) : Int)) (u2 := .int .i64 1) (v := .int .i64 ((k + 1 : Nat) : Int)) (b_add (by rw [IntKind.wrap_i64]; omega)) (lt_of rfl) ⟨rfl, trivial⟩)] (by kernel_rfl) (by kernel_rfl) ?_
      refine nL (k + 1) (show (k + 1) ≤ l.length from (by omega)) (show (l.length - (k + 1) : Nat) < l.length - k from (by omega)) (fun _ _ hG => Gs.into2 (s' := ⟨[slV false false (k_quaestorlaw11_Act false) l, dv (.int .i64 x), aa, aa, dv (.bool false), pv 0 0, pv 2 0, dv (.int .i64 ((k + 1 : Nat) : Int)), aa, aa, dv (.bool (!(decide (fewA l))))], [.live (.box 74 [.d (.val (.int .i64 (runS sNew l (k + 1)).h)), .d (.val (strV (runS sNew l (k + 1)).d)), .d (.val (.bool true)), .own 1 (k_ledger_link false).sz 0 (linksB (runS sNew l (k + 1)).L).length]), .live (arrK 80 (k_ledger_link false) (linksB (runS sNew l (k + 1)).L)), .live (.box 76 [.d (.val (.bool true)), .d (.val (.int .i64 (runS sNew l (k + 1)).h)), .d (.val (strV (runS sNew l (k + 1)).d)), .own 3 (k_api_Block false).sz 0 (runS sNew l (k + 1)).L.length]), .live (arrK 33 (k_api_Block false) (runS sNew l (k + 1)).L)]⟩) [0, 4, 2, 5] (bm 11 1267) (t1 := [slV false false (k_quaestorlaw11_Act false) l, dv (.int .i64 x), aa, aa, dv (.bool false), pv 0 0, pv 2 0, dv (.int .i64 ((k + 1 : Nat) : Int)), aa, aa, dv (.bool (!(decide (fewA l))))]) (h1 := [.live (.box 74 [.d (.val (.int .i64 (runS sNew l (k + 1)).h)), .d (.val (strV (runS sNew l (k + 1)).d)), .d (.val (.bool true)), .own 4 (k_ledger_link false).sz 0 (linksB (runS sNew l (k + 1)).L).length]), .live (arrK 80 (k_ledger_link false) (linksB (runS sNew l (k + 1)).L)), .live (.box 76 [.d (.val (.bool true)), .d (.val (.int .i64 (runS sNew l (k + 1)).h)), .d (.val (strV (runS sNew l (k + 1)).d)), .own 5 (k_api_Block false).sz 0 (runS sNew l (k + 1)).L.length]), .live (arrK 33 (k_api_Block false) (runS sNew l (k + 1)).L)]) (h2 := [.live (.box 74 [.d (.val (.int .i64 (stH (runS sNew l k).h (runS sNew l k).L (l.getD k z_quaestorlaw11_Act)))), .d (.val (strV (stD (runS sNew l k).h (runS sNew l k).d (runS sNew l k).L (l.getD k z_quaestorlaw11_Act)))), .d (.val (.bool true)), .own 4 (k_ledger_link false).sz 0 (linksB (stL (runS sNew l k).h (runS sNew l k).d (runS sNew l k).L (l.getD k z_quaestorlaw11_Act))).length]), .live (arrK 80 (k_ledger_link false) (linksB (stL (runS sNew l k).h (runS sNew l k).d (runS sNew l k).L (l.getD k z_quaestorlaw11_Act)))), .live (.box 76 [.d (.val (.bool true)), .d (.val (.int .i64 (stH (runS sNew l k).h (runS sNew l k).L (l.getD k z_quaestorlaw11_Act)))), .d (.val (strV (stD (runS sNew l k).h (runS sNew l k).d (runS sNew l k).L (l.getD k z_quaestorlaw11_Act)))), .own 5 (k_api_Block false).sz 0 (stL (runS sNew l k).h (runS sNew l k).d (runS sNew l k).L (l.getD k z_quaestorlaw11_Act)).length]), .live (arrK 33 (k_api_Block false) (stL (runS sNew l k).h (runS sNew l k).d (runS sNew l k).L (l.getD k z_quaestorlaw11_Act)))]) rfl (by have e1 : ((runS sNew l (k + 1)).h : Int) = (stH (runS sNew l k).h (runS sNew l k).L (l.getD k z_quaestorlaw11_Act)) := (by rfl); have e2 : ((runS sNew l (k + 1)).d : List UInt8) = (stD (runS sNew l k).h (runS sNew l k).d (runS sNew l k).L (l.getD k z_quaestorlaw11_Act)) := (by rfl); have e3 : ((linksB (runS sNew l (k + 1)).L).length : Nat) = (linksB (stL (runS sNew l k).h (runS sNew l k).d (runS sNew l k).L (l.getD k z_quaestorlaw11_Act))).length := (by rfl); have e4 : ((linksB (runS sNew l (k + 1)).L) : List ledger_link) = (linksB (stL (runS sNew l k).h (runS sNew l k).d (runS sNew l k).L (l.getD k z_quaestorlaw11_Act))) := (by rfl); have e5 : ((runS sNew l (k + 1)).h : Int) = (stH (runS sNew l k).h (runS sNew l k).L (l.getD k z_quaestorlaw11_Act)) := (by rfl); have e6 : ((runS sNew l (k + 1)).d : List UInt8) = (stD (runS sNew l k).h (runS sNew l k).d (runS sNew l k).L (l.getD k z_quaestorlaw11_Act)) := (by rfl); have e7 : ((runS sNew l (k + 1)).L.length : Nat) = (stL (runS sNew l k).h (runS sNew l k).d (runS sNew l k).L (l.getD k z_quaestorlaw11_Act)).length := (by rfl); have e8 : ((runS sNew l (k + 1)).L : List api_Block) = (stL (runS sNew l k).h (runS sNew l k).d (runS sNew l k).L (l.getD k z_quaestorlaw11_Act)) := (by rfl); have hE := congr (congr (congr (congr (congr (congr (congr (congrArg (fun (q1 : Int) (q2 : List UInt8) (q3 : Nat) (q4 : List ledger_link) (q5 : Int) (q6 : List UInt8) (q7 : Nat) (q8 : List api_Block) => ([.live (.box 74 [.d (.val (.int .i64 q1)), .d (.val (strV q2)), .d (.val (.bool true)), .own 4 (k_ledger_link false).sz 0 q3]), .live (arrK 80 (k_ledger_link false) q4), .live (.box 76 [.d (.val (.bool true)), .d (.val (.int .i64 q5)), .d (.val (strV q6)), .own 5 (k_api_Block false).sz 0 q7]), .live (arrK 33 (k_api_Block false) q8)] : List HS)) e1) e2) e3) e4) e5) e6) e7) e8; exact hE) (by kernel_rfl) (by kernel_rfl) (by kernel_rfl) (by kernel_rfl) (by kernel_rfl) (by kernel_rfl) (by kernel_rfl) (by kernel_rfl) (by kernel_rfl) (by kernel_rfl) (by kernel_rfl) hG)
    · refine T.condF (by kernel_rfl) (decide_eq_false hq2) ?_
      refine T.exit ?_
      refine xT ?_
      refine xT ?_
      refine xH ?_
      refine nT ?_
      refine T.seq ?_
      refine xR [hR 0 rfl rfl (r_call (law_awake  ) Try.func14 rfl (by decide) [] [] (l := []) [] rfl 0 0 rfl rfl rfl rfl rfl rfl rfl rfl rfl trivial rfl (fun b hb => by cases hb) (.inl rfl) (lt_of rfl) trivial)] (by kernel_rfl) (by kernel_rfl) ?_
      refine nT ?_
      refine T.ret ?_
      exact tE (.inl rfl) [.t 4 (.one (.d (.val (.bool true))))] ⟨⟨rfl, by kernel_rfl⟩, trivial⟩ [] rfl rfl rfl rfl rfl rfl trivial
  · refine T.condT (by kernel_rfl) (congrArg Bool.not (decide_eq_false hq1)) ?_
    refine T.seq ?_
    refine xR [] (by kernel_rfl) (by kernel_rfl) ?_
    refine nT ?_
    refine T.ret ?_
    refine rT ?_
    exact tE (.inl rfl) [.t 4 (.one (.d (.val (.bool true))))] ⟨⟨rfl, by kernel_rfl⟩, trivial⟩ [] rfl rfl rfl rfl rfl rfl trivial
end Go.Proofs.Ytdclfhahcfefeaa.Q
