import Derived.Test.YtdclfhahcfefeaaM11L
namespace Go.Proofs.Ytdclfhahcfefeaa.Q
open Go Go.RowKit
set_option linter.unusedVariables false
set_option linter.unusedSimpArgs false
set_option maxRecDepth 100000
set_option maxHeartbeats 4000000
theorem iat_35 : Try.prog.info? 35 = some Try.t35 := by kernel_rfl
-- quaestor/quaestorlaw11.few
theorem law_few (l : List quaestorlaw11_Act) (hl : l.length ≤ 9223372036854775807) (hx : ∀ j, (l.getD j z_quaestorlaw11_Act).f_Block.f_Requests.length ≤ 9223372036854775807 ∧ (l.getD j z_quaestorlaw11_Act).f_Block.f_Results.length ≤ 9223372036854775807) : Holds Try.prog 9 ⟨[slV false false (k_quaestorlaw11_Act false) l], [], dv (.bool (decide (fewA l))), []⟩ := by
  refine Holds.of Try.func9 rfl (N := 20) Try.ntmps9 rfl fun w0 B0 S0 U0 => ?_
  show T _ (mkBase 20 0 w0 S0 U0 B0) ⟨[slV false false (k_quaestorlaw11_Act false) l], []⟩ _ _
  refine T.seq ?_
  refine xR [] (by kernel_rfl) (by kernel_rfl) ?_
  refine nT ?_
  refine T.seq ?_
  refine T.seq ?_
  refine xR [] (by kernel_rfl) (by kernel_rfl) ?_
  refine nT ?_
  by_cases hq1 : ((l.length : Nat) : Int) > 30
  · refine T.condT (by kernel_rfl) (decide_eq_true hq1) ?_
    refine T.seq ?_
    refine xR [] (by kernel_rfl) (by kernel_rfl) ?_
    refine nT ?_
    refine T.ret ?_
    refine rT ?_
    exact tE (.inl rfl) [.t 2 (.one (.d (.val (.bool false))))] ⟨⟨rfl, by kernel_rfl⟩, trivial⟩ [] (by have e1 : ((decide (fewA l)) : Bool) = false := (by first | exact decide_eq_false (fun h9 => by have h8 := h9.1; omega) | exact decide_eq_false (fewA_no (k := k) (by omega) (by assumption)) | exact decide_eq_true (fewA_yes (k := k) (by omega) (by omega) hb)); have hE := congrArg (fun (q1 : Bool) => (dv (.bool q1) : AV)) e1; exact hE) rfl rfl rfl rfl rfl trivial
  · refine T.condF (by kernel_rfl) (decide_eq_false hq1) ?_
    refine T.skip ?_
    refine nT ?_
    refine T.seq ?_
    refine T.seq ?_
    refine xR [] (by kernel_rfl) (by kernel_rfl) ?_
    refine nT ?_
    refine T.block ?_
    refine T.loop (ι := Nat) (fun (k : Nat) => ⟨[slV false false (k_quaestorlaw11_Act false) l, aa, dv (.bool false), dv (.int .i64 ((k : Nat) : Int)), aa, aa, dv (.bool (decide (((l.length : Nat) : Int) > 30)))], []⟩) (fun (k : Nat) => (k ≤ l.length) ∧ (∀ j, j < k → smallB (l.getD j z_quaestorlaw11_Act).f_Block)) (fun (k : Nat) => l.length - k) (0) ⟨(Nat.zero_le _), (fun j hj => absurd hj (Nat.not_lt_zero _))⟩ (fun _ _ hG => Gs.into2 (s' := ⟨[slV false false (k_quaestorlaw11_Act false) l, aa, dv (.bool false), dv (.int .i64 0), aa, aa, dv (.bool (decide (((l.length : Nat) : Int) > 30)))], []⟩) [] (bm 7 77) (t1 := [slV false false (k_quaestorlaw11_Act false) l, aa, dv (.bool false), dv (.int .i64 0), aa, aa, dv (.bool (decide (((l.length : Nat) : Int) > 30)))]) (h1 := []) rfl rfl (by kernel_rfl) (by kernel_rfl) (by kernel_rfl) (by kernel_rfl) (by kernel_rfl) (by kernel_rfl) (by kernel_rfl) (by kernel_rfl) (by kernel_rfl) (by kernel_rfl) (by kernel_rfl) hG) ?_
    rintro k ⟨hk, hb⟩
    show T _ _ ⟨[slV false false (k_quaestorlaw11_Act false) l, aa, dv (.bool false), dv (.int .i64 ((k : Nat) : Int)), aa, aa, dv (.bool (decide (((l.length : Nat) : Int) > 30)))], []⟩ _ _
    replace hk : k ≤ l.length := hk
    replace hb : ∀ j, j < k → smallB (l.getD j z_quaestorlaw11_Act).f_Block := hb
    have hxk := (hx k).1
    have hxk2 := (hx k).2
    refine T.seq ?_
    refine T.seq ?_
    refine xR [] (by kernel_rfl) (by kernel_rfl) ?_
    refine nT ?_
    by_cases hq2 : ((k : Nat) : Int) < ((l.length : Nat) : Int)
    · refine T.condT (by kernel_rfl) (decide_eq_true hq2) ?_
      refine T.skip ?_
      refine nT ?_
      refine T.seq ?_
      refine T.block ?_
      refine T.seq ?_
      refine xR [hR 2 rfl rfl (q_index false false (k_quaestorlaw11_Act false) l k (k := .i64) (i := ((k : Nat) : Int)) Try.underlying22 iat_35 rfl rfl (by first | assumption | omega | (unfold maxLen; omega) | (simp [maxLen, -List.getD_eq_getElem?_getD] <;> omega) | decide) (lt_of rfl) trivial),
        hR 5 rfl rfl (r_call (law_Few false (l.getD k z_quaestorlaw11_Act).f_Block (by first | assumption | omega | (unfold maxLen; omega) | (simp [maxLen, -List.getD_eq_getElem?_getD] <;> omega) | decide) (by first | assumption | omega | (unfold maxLen; omega) | (simp [maxLen, -List.getD_eq_getElem?_getD] <;> omega) | decide)) Try.func15 rfl (by decide) [] [] (l := [(.tmp 17, .tv (.agg [.d (.val (.int .i64 (l.getD k z_quaestorlaw11_Act).f_Block.f_Height)), .d (.val (strV (l.getD k z_quaestorlaw11_Act).f_Block.f_Prev)), .d (dsl false false (k_api_Envelope false) (l.getD k z_quaestorlaw11_Act).f_Block.f_Requests), .d (dsl false false (k_api_Result false) (l.getD k z_quaestorlaw11_Act).f_Block.f_Results)]))]) [] rfl 0 0 rfl rfl rfl rfl rfl rfl rfl rfl rfl ⟨⟨.inl ⟨rfl, rfl⟩, ⟨.inl ⟨rfl, rfl⟩, ⟨.inl ⟨rfl, rfl⟩, ⟨.inl ⟨rfl, rfl⟩, trivial⟩⟩⟩⟩, trivial⟩ rfl (fun b hb => by cases hb) (.inl rfl) (lt_of rfl) trivial)] (by kernel_rfl) (by kernel_rfl) ?_
      refine nT ?_
      by_cases hq3 : smallB (l.getD k z_quaestorlaw11_Act).f_Block
      · refine T.condF (by kernel_rfl) (congrArg Bool.not (decide_eq_true hq3)) ?_
        refine T.skip ?_
        refine nB ?_
        refine nT ?_
        refine xR [hR 1 rfl rfl (r_bin (u1 := .int .i64 ((k : Nat) : Int)) (u2 := .int .i64 1) (v := .int .i64 ((k + 1 : Nat) : Int)) (b_add (by rw [IntKind.wrap_i64]; omega)) (lt_of rfl) ⟨rfl, trivial⟩)] (by kernel_rfl) (by kernel_rfl) ?_
        refine nL (k + 1) ⟨(show (k + 1) ≤ l.length from (by omega)), (show ∀ j, j < (k + 1) → smallB (l.getD j z_quaestorlaw11_Act).f_Block from (all_succ hb (by assumption)))⟩ (show (l.length - (k + 1) : Nat) < l.length - k from (by omega)) (fun _ _ hG => Gs.into2 (s' := ⟨[slV false false (k_quaestorlaw11_Act false) l, aa, dv (.bool false), dv (.int .i64 ((k + 1 : Nat) : Int)), aa, aa, dv (.bool (decide (((l.length : Nat) : Int) > 30)))], []⟩) [] (bm 7 77) (t1 := [slV false false (k_quaestorlaw11_Act false) l, aa, dv (.bool false), dv (.int .i64 ((k + 1 : Nat) : Int)), aa, aa, dv (.bool (decide (((l.length : Nat) : Int) > 30)))]) (h1 := []) rfl rfl (by kernel_rfl) (by kernel_rfl) (by kernel_rfl) (by kernel_rfl) (by kernel_rfl) (by kernel_rfl) (by kernel_rfl) (by kernel_rfl) (by kernel_rfl) (by kernel_rfl) (by kernel_rfl) hG)
      · refine T.condT (by kernel_rfl) (congrArg Bool.not (decide_eq_false hq3)) ?_
        refine T.seq ?_
        refine xR [] (by kernel_rfl) (by kernel_rfl) ?_
        refine nT ?_
        refine T.ret ?_
        refine rB ?_
        refine rT ?_
        refine rT ?_
        refine rB ?_
        refine rT ?_
        exact tE (.inl rfl) [.t 2 (.one (.d (.val (.bool false))))] ⟨⟨rfl, by kernel_rfl⟩, trivial⟩ [] (by have e1 : ((decide (fewA l)) : Bool) = false := (by first | exact decide_eq_false (fun h9 => by have h8 := h9.1; omega) | exact decide_eq_false (fewA_no (k := k) (by omega) (by assumption)) | exact decide_eq_true (fewA_yes (k := k) (by omega) (by omega) hb)); have hE := congrArg (fun (q1 : Bool) => (dv (.bool q1) : AV)) e1; exact hE) rfl rfl rfl rfl rfl trivial
    · refine T.condF (by kernel_rfl) (decide_eq_false hq2) ?_
      refine T.exit ?_
      refine xT ?_
      refine xT ?_
      refine xH ?_
      refine nT ?_
      refine T.seq ?_
      refine xR [] (by kernel_rfl) (by kernel_rfl) ?_
      refine nT ?_
      refine T.ret ?_
      exact tE (.inl rfl) [.t 2 (.one (.d (.val (.bool true))))] ⟨⟨rfl, by kernel_rfl⟩, trivial⟩ [] (by have e1 : ((decide (fewA l)) : Bool) = true := (by first | exact decide_eq_false (fun h9 => by have h8 := h9.1; omega) | exact decide_eq_false (fewA_no (k := k) (by omega) (by assumption)) | exact decide_eq_true (fewA_yes (k := k) (by omega) (by omega) hb)); have hE := congrArg (fun (q1 : Bool) => (dv (.bool q1) : AV)) e1; exact hE) rfl rfl rfl rfl rfl trivial

-- quaestor/quaestorlaw11.same
theorem law_same (h : Int) (d : List UInt8) (L : List api_Block) (x : Int) (hh : 0 ≤ h ∧ h ≤ 1099511627776) (hl : L.length ≤ 90) (hw : fewLB L) : Holds Try.prog 13 ⟨[pv 0 0, pv 2 0, dv (.int .i64 x)], [.box 74 [.d (.val (.int .i64 h)), .d (.val (strV d)), .d (.val (.bool true)), .own 1 (k_ledger_link false).sz 0 (linksB L).length], arrK 80 (k_ledger_link false) (linksB L), .box 76 [.d (.val (.bool true)), .d (.val (.int .i64 h)), .d (.val (strV d)), .own 3 (k_api_Block false).sz 0 L.length], arrK 33 (k_api_Block false) L], dv (.bool true), [.live (.box 74 [.d (.val (.int .i64 h)), .d (.val (strV d)), .d (.val (.bool true)), .own 1 (k_ledger_link false).sz 0 (linksB L).length]), .live (arrK 80 (k_ledger_link false) (linksB L)), .live (.box 76 [.d (.val (.bool true)), .d (.val (.int .i64 h)), .d (.val (strV d)), .own 3 (k_api_Block false).sz 0 L.length]), .live (arrK 33 (k_api_Block false) L)]⟩ := by
  refine Holds.of Try.func13 rfl (N := 68) Try.ntmps13 rfl fun w0 B0 S0 U0 => ?_
  show T _ (mkBase 68 4 w0 S0 U0 B0) ⟨[pv 0 0, pv 2 0, dv (.int .i64 x)], [.live (.box 74 [.d (.val (.int .i64 h)), .d (.val (strV d)), .d (.val (.bool true)), .own 1 (k_ledger_link false).sz 0 (linksB L).length]), .live (arrK 80 (k_ledger_link false) (linksB L)), .live (.box 76 [.d (.val (.bool true)), .d (.val (.int .i64 h)), .d (.val (strV d)), .own 3 (k_api_Block false).sz 0 L.length]), .live (arrK 33 (k_api_Block false) L)]⟩ _ _
  have hll := links_len L
  have hlk := links_few hw
  have hbf := blk_few (h := h) (x := x) hw
  have hb1 := hbf.1.1
  have hb2 := hbf.2.1
  refine T.seq ?_
  refine xR [] (by kernel_rfl) (by kernel_rfl) ?_
  refine nT ?_
  refine T.seq ?_
  refine xR [hR 1 rfl rfl (r_call (ledger_Base h d (linksB L) (by first | assumption | omega | (unfold maxLen; omega) | (simp [maxLen, -List.getD_eq_getElem?_getD] <;> omega) | decide) (by first | assumption | omega | decide +kernel)) Try.func25 rfl (by decide) [0, 1] [] (l := [(.tmp 14, pv 0 0)]) [] rfl 2 2 rfl rfl rfl rfl rfl rfl rfl rfl rfl ⟨.inl ⟨rfl, rfl⟩, trivial⟩ rfl (fun b hb => by cases hb) (.inl rfl) (lt_of rfl) trivial)] (by kernel_rfl) (by kernel_rfl) ?_
  refine nT ?_
  refine T.seq ?_
  refine xR [hR 2 rfl rfl (r_call (ledger_Block h d (linksB L) x (by first | assumption | omega | (unfold maxLen; omega) | (simp [maxLen, -List.getD_eq_getElem?_getD] <;> omega) | decide) (by first | assumption | omega | decide +kernel) (by first | assumption | exact links_few (by assumption) | exact act_few (by assumption) (by assumption) | decide +kernel)) Try.func19 rfl (by decide) [0, 1] [] (l := [(.tmp 19, pv 0 0), (.tmp 20, dv (.int .i64 x))]) [] rfl 2 2 rfl rfl rfl rfl rfl rfl rfl rfl rfl ⟨.inl ⟨rfl, rfl⟩, ⟨.inl ⟨rfl, rfl⟩, trivial⟩⟩ rfl (fun b hb => by cases hb) (.inl rfl) (lt_of rfl) trivial)] (by kernel_rfl) (by kernel_rfl) ?_
  refine nT ?_
  refine T.seq ?_
  refine xR [hR 2 rfl rfl (r_call (ref11_Block h d L x (by first | assumption | omega | (unfold maxLen; omega) | (simp [maxLen, -List.getD_eq_getElem?_getD] <;> omega) | decide) (by first | assumption | omega | (unfold maxLen; omega) | (simp [maxLen, -List.getD_eq_getElem?_getD] <;> omega) | decide) (by first | assumption | omega | (unfold maxLen; omega) | (simp [maxLen, -List.getD_eq_getElem?_getD] <;> omega) | decide)) Try.func39 rfl (by decide) [2, 3] [] (l := [(.tmp 25, pv 2 0), (.tmp 26, dv (.int .i64 x))]) [] rfl 2 2 rfl rfl rfl rfl rfl rfl rfl rfl rfl ⟨.inl ⟨rfl, rfl⟩, ⟨.inl ⟨rfl, rfl⟩, trivial⟩⟩ rfl (fun b hb => by cases hb) (.inl rfl) (lt_of rfl) trivial)] (by kernel_rfl) (by kernel_rfl) ?_
  refine nT ?_
  refine T.seq ?_
  by_cases hq1 : (h + (((linksB L).length : Nat) : Int)) = (h + ((L.length : Nat) : Int))
  · by_cases hq2 : (hdL d (linksB L)) = (atB d L L.length)
    · by_cases hq3 : (blkB h (linksB L) x) = (rblk h L x)
      · refine xR [hY 7 (show decide (h = h) = true from decide_eq_true (Eq.refl _)),
          hY 8 (show decide (h = h) = true from decide_eq_true (Eq.refl _)),
          hY 9 (show decide (h = h) = true from decide_eq_true (Eq.refl _)),
          hY 10 (show decide (h = h) = true from decide_eq_true (Eq.refl _)),
          hY 11 (show decide (h = h) = true from decide_eq_true (Eq.refl _)),
          hY 12 (show decide (h = h) = true from decide_eq_true (Eq.refl _)),
          hP 13 (show decide (h = h) = true from decide_eq_true (Eq.refl _)),
          hY 15 (show decide (d = d) = true from decide_eq_true (Eq.refl _)),
          hS 16 (oY rfl rfl rfl rfl (lt_of rfl) (show decide (d = d) = true from decide_eq_true (Eq.refl _)) (r_call (ledger_Height h d (linksB L) (by first | assumption | omega | (unfold maxLen; omega) | (simp [maxLen, -List.getD_eq_getElem?_getD] <;> omega) | decide) (by first | assumption | omega | decide +kernel)) Try.func16 rfl (by decide) [0, 1] [] (l := [(.tmp 45, pv 0 0)]) [] rfl 2 2 rfl rfl rfl rfl rfl rfl rfl rfl rfl ⟨.inl ⟨rfl, rfl⟩, trivial⟩ rfl (fun b hb => by cases hb) (.inl rfl) (lt_of rfl) trivial)),
          hY 17 (show decide (d = d) = true from decide_eq_true (Eq.refl _)),
          hS 18 (oY rfl rfl rfl rfl (lt_of rfl) (show decide (d = d) = true from decide_eq_true (Eq.refl _)) (r_call (ref11_Height h d L (by first | assumption | omega | (unfold maxLen; omega) | (simp [maxLen, -List.getD_eq_getElem?_getD] <;> omega) | decide) (by first | assumption | omega | (unfold maxLen; omega) | (simp [maxLen, -List.getD_eq_getElem?_getD] <;> omega) | decide)) Try.func36 rfl (by decide) [2, 3] [] (l := [(.tmp 47, pv 2 0)]) [] rfl 2 2 rfl rfl rfl rfl rfl rfl rfl rfl rfl ⟨.inl ⟨rfl, rfl⟩, trivial⟩ rfl (fun b hb => by cases hb) (.inl rfl) (lt_of rfl) trivial)),
          hY 19 (show decide (d = d) = true from decide_eq_true (Eq.refl _)),
          hP 20 (show decide (d = d) = true from decide_eq_true (Eq.refl _)),
          hY 22 (decide_eq_true hq1),
          hS 23 (oY rfl rfl rfl rfl (lt_of rfl) (decide_eq_true hq1) (r_call (ledger_Head h d (linksB L) (by first | assumption | omega | (unfold maxLen; omega) | (simp [maxLen, -List.getD_eq_getElem?_getD] <;> omega) | decide) (by first | assumption | omega | decide +kernel)) Try.func17 rfl (by decide) [0, 1] [] (l := [(.tmp 52, pv 0 0)]) [] rfl 2 2 rfl rfl rfl rfl rfl rfl rfl rfl rfl ⟨.inl ⟨rfl, rfl⟩, trivial⟩ rfl (fun b hb => by cases hb) (.inl rfl) (lt_of rfl) trivial)),
          hY 24 (decide_eq_true hq1),
          hS 25 (oY rfl rfl rfl rfl (lt_of rfl) (decide_eq_true hq1) (r_call (ref11_Head h d L (by first | assumption | omega | (unfold maxLen; omega) | (simp [maxLen, -List.getD_eq_getElem?_getD] <;> omega) | decide) (by first | assumption | omega | (unfold maxLen; omega) | (simp [maxLen, -List.getD_eq_getElem?_getD] <;> omega) | decide) (by first | assumption | omega | (unfold maxLen; omega) | (simp [maxLen, -List.getD_eq_getElem?_getD] <;> omega) | decide)) Try.func37 rfl (by decide) [2, 3] [] (l := [(.tmp 54, pv 2 0)]) [] rfl 2 2 rfl rfl rfl rfl rfl rfl rfl rfl rfl ⟨.inl ⟨rfl, rfl⟩, trivial⟩ rfl (fun b hb => by cases hb) (.inl rfl) (lt_of rfl) trivial)),
          hY 26 (decide_eq_true hq1),
          hP 27 (decide_eq_true hq1),
          hY 29 (decide_eq_true hq2),
          hY 30 (decide_eq_true hq2),
          hS 31 (oY rfl rfl rfl rfl (lt_of rfl) (decide_eq_true hq2) (r_call (ref10_Same false false (blkB h (linksB L) x) (rblk h L x) (by first | assumption | omega | (unfold maxLen; omega) | (simp [maxLen, -List.getD_eq_getElem?_getD] <;> omega) | decide) (by first | assumption | omega | (unfold maxLen; omega) | (simp [maxLen, -List.getD_eq_getElem?_getD] <;> omega) | decide)) Try.func20 rfl (by decide) [] [] (l := [(.tmp 59, .tv (.agg [.d (.val (.int .i64 (blkB h (linksB L) x).f_Height)), .d (.val (strV (blkB h (linksB L) x).f_Prev)), .d (dsl false false (k_api_Envelope false) (blkB h (linksB L) x).f_Requests), .d (dsl false false (k_api_Result false) (blkB h (linksB L) x).f_Results)])), (.tmp 60, .tv (.agg [.d (.val (.int .i64 (rblk h L x).f_Height)), .d (.val (strV (rblk h L x).f_Prev)), .d (dsl false false (k_api_Envelope false) (rblk h L x).f_Requests), .d (dsl false false (k_api_Result false) (rblk h L x).f_Results)]))]) [] rfl 0 0 rfl rfl rfl rfl rfl rfl rfl rfl rfl ⟨⟨.inl ⟨rfl, rfl⟩, ⟨.inl ⟨rfl, rfl⟩, ⟨.inl ⟨rfl, rfl⟩, ⟨.inl ⟨rfl, rfl⟩, trivial⟩⟩⟩⟩, ⟨⟨.inl ⟨rfl, rfl⟩, ⟨.inl ⟨rfl, rfl⟩, ⟨.inl ⟨rfl, rfl⟩, ⟨.inl ⟨rfl, rfl⟩, trivial⟩⟩⟩⟩, trivial⟩⟩ rfl (fun b hb => by cases hb) (.inl rfl) (lt_of rfl) trivial)),
          hP 32 (decide_eq_true hq2),
          hY 34 (decide_eq_true hq3),
          hY 35 (decide_eq_true hq3),
          hY 36 (decide_eq_true hq3),
          hP 37 (decide_eq_true hq3)] (by kernel_rfl) (by kernel_rfl) ?_
        refine nT ?_
        refine T.ret ?_
        exact tE (.inl rfl) [.t 6 (.one (.d (.val (.bool (decide ((blkE h (linksB L).length x) = (blkE h L.length x)))))))] ⟨⟨rfl, by kernel_rfl⟩, trivial⟩ [0, 1, 2, 3] (by have e1 : (true : Bool) = (decide ((blkE h (linksB L).length x) = (blkE h L.length x))) := (by first | rfl | exact (decide_eq_true (by rw [links_len])).symm); have hE := congrArg (fun (q1 : Bool) => (dv (.bool q1) : AV)) e1; exact hE) rfl rfl rfl rfl rfl ⟨⟨rfl, (by kernel_rfl)⟩, ⟨⟨rfl, (by kernel_rfl)⟩, ⟨⟨rfl, (by kernel_rfl)⟩, ⟨⟨rfl, (by kernel_rfl)⟩, trivial⟩⟩⟩⟩
      · exact absurd (by first | rfl | (rw [links_len]; done) | exact hd_links .. | exact blk_links .. | (rw [links_len])) hq3
    · exact absurd (by first | rfl | (rw [links_len]; done) | exact hd_links .. | exact blk_links .. | (rw [links_len])) hq2
  · exact absurd (by first | rfl | (rw [links_len]; done) | exact hd_links .. | exact blk_links .. | (rw [links_len])) hq1
end Go.Proofs.Ytdclfhahcfefeaa.Q
