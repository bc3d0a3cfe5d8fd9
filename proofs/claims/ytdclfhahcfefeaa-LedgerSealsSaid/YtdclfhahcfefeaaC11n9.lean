import Derived.Test.YtdclfhahcfefeaaC11n8
namespace Go.Proofs.Ytdclfhahcfefeaa.Q
open Go Go.RowKit
set_option linter.unusedVariables false
set_option linter.unusedSimpArgs false
set_option maxRecDepth 100000
set_option maxHeartbeats 4000000
-- quaestor/quaestorlaw11.awake
theorem law_awake : Holds Try.prog 14 ⟨[], [], dv (.bool true), []⟩ := by
  refine Holds.of Try.func14 rfl (N := 62) Try.ntmps14 rfl fun w0 B0 S0 U0 => ?_
  show T _ (mkBase 62 0 w0 S0 U0 B0) ⟨[], []⟩ _ _
  refine T.seq ?_
  refine xR [] (by kernel_rfl) (by kernel_rfl) ?_
  refine nT ?_
  refine T.seq ?_
  refine xR [hR 0 rfl rfl (r_call (ledger_New  ) Try.func10 rfl (by decide) [0, 1] [] (l := []) [] rfl 0 2 rfl rfl rfl rfl rfl rfl rfl rfl rfl trivial rfl (fun b hb => by cases hb) (.inl rfl) (lt_of rfl) trivial)] (by kernel_rfl) (by kernel_rfl) ?_
  refine nT ?_
  refine T.seq ?_
  refine xR [hR 0 rfl rfl (r_call (ref11_First  ) Try.func34 rfl (by decide) [] [] (l := []) [] rfl 0 0 rfl rfl rfl rfl rfl rfl rfl rfl rfl trivial rfl (fun b hb => by cases hb) (.inl rfl) (lt_of rfl) trivial)] (by kernel_rfl) (by kernel_rfl) ?_
  refine nT ?_
  refine T.seq ?_
  refine xD [[], [], [0, 1], [], [], [0, 1, 2, 3, 4], [0, 1, 2, 3, 4, 5], [0, 1, 2, 3, 4, 5, 6]] [hR 2 rfl rfl (r_call (ledger_Append 0 (ofB 6 ([] : List (List UInt8))) ([] : List ledger_link) (api_Block.mk 1 (ofB 6 ([] : List (List UInt8))) ([] : List api_Envelope) ([] : List api_Result)) (by omega) (by decide +kernel) (by decide +kernel)) Try.func18 rfl (by decide) [0, 1, 3] [] (l := [(.tmp 14, pv 0 0), (.tmp 15, .tv (.agg [.d (.val (.int .i64 1)), .d (.val (strV (ofB 6 ([] : List (List UInt8))))), .d (.val (.slice none 0 0)), .d (.val (.slice none 0 0))]))]) [] rfl 2 3 rfl rfl rfl rfl rfl rfl rfl rfl rfl ⟨.inl ⟨rfl, rfl⟩, ⟨⟨.inl ⟨rfl, rfl⟩, ⟨.inl ⟨rfl, rfl⟩, ⟨.inr (.inr ⟨rfl, rfl, rfl⟩), ⟨.inr (.inr ⟨rfl, rfl, rfl⟩), trivial⟩⟩⟩⟩, trivial⟩⟩ rfl (fun b hb => by cases hb) (.inl rfl) (lt_of rfl) trivial),
    hR 5 rfl rfl (r_call (ledger_Append 0 (ofB 6 ([] : List (List UInt8))) (appL 0 (ofB 6 ([] : List (List UInt8))) ([] : List ledger_link) (api_Block.mk 1 (ofB 6 ([] : List (List UInt8))) ([] : List api_Envelope) ([] : List api_Result))) (api_Block.mk 1 (ofB 6 ([] : List (List UInt8))) ([] : List api_Envelope) ([] : List api_Result)) (by omega) (by decide +kernel) (by decide +kernel)) Try.func18 rfl (by decide) [0, 3, 4] [] (l := [(.tmp 17, pv 0 0), (.tmp 18, .tv (.agg [.d (.val (.int .i64 1)), .d (.val (strV (ofB 6 ([] : List (List UInt8))))), .d (.val (.slice none 0 0)), .d (.val (.slice none 0 0))]))]) [] rfl 2 3 rfl rfl rfl rfl rfl rfl rfl rfl rfl ⟨.inl ⟨rfl, rfl⟩, ⟨⟨.inl ⟨rfl, rfl⟩, ⟨.inl ⟨rfl, rfl⟩, ⟨.inr (.inr ⟨rfl, rfl, rfl⟩), ⟨.inr (.inr ⟨rfl, rfl, rfl⟩), trivial⟩⟩⟩⟩, trivial⟩⟩ rfl (fun b hb => by cases hb) (.inl rfl) (lt_of rfl) trivial)] (by kernel_rfl) (by kernel_rfl) (by kernel_rfl) (by kernel_rfl) (by kernel_rfl) (by kernel_rfl) ?_
  refine nT ?_
  refine T.seq ?_
  refine xR [hR 1 rfl rfl (r_call (ledger_Height 0 (ofB 6 ([] : List (List UInt8))) (appL 0 (ofB 6 ([] : List (List UInt8))) (appL 0 (ofB 6 ([] : List (List UInt8))) ([] : List ledger_link) (api_Block.mk 1 (ofB 6 ([] : List (List UInt8))) ([] : List api_Envelope) ([] : List api_Result))) (api_Block.mk 1 (ofB 6 ([] : List (List UInt8))) ([] : List api_Envelope) ([] : List api_Result))) (by omega) (by decide +kernel)) Try.func16 rfl (by decide) [0, 4] [] (l := [(.tmp 20, pv 0 0)]) [] rfl 2 2 rfl rfl rfl rfl rfl rfl rfl rfl rfl ⟨.inl ⟨rfl, rfl⟩, trivial⟩ rfl (fun b hb => by cases hb) (.inl rfl) (lt_of rfl) trivial),
    hR 3 rfl rfl (r_call (ledger_Cut 0 (ofB 6 ([] : List (List UInt8))) (appL 0 (ofB 6 ([] : List (List UInt8))) (appL 0 (ofB 6 ([] : List (List UInt8))) ([] : List ledger_link) (api_Block.mk 1 (ofB 6 ([] : List (List UInt8))) ([] : List api_Envelope) ([] : List api_Result))) (api_Block.mk 1 (ofB 6 ([] : List (List UInt8))) ([] : List api_Envelope) ([] : List api_Result))) 1 (by omega) (by decide +kernel)) Try.func24 rfl (by decide) [0, 4, 5] [] (l := [(.tmp 22, pv 0 0), (.const (.int .i64 1), dv (.int .i64 1))]) [] rfl 2 3 rfl rfl rfl rfl rfl rfl rfl rfl rfl ⟨.inl ⟨rfl, rfl⟩, ⟨.inl ⟨rfl, rfl⟩, trivial⟩⟩ rfl (fun b hb => by cases hb) (.inl rfl) (lt_of rfl) ⟨rfl, trivial⟩)] (by kernel_rfl) (by kernel_rfl) ?_
  refine nT ?_
  refine T.seq ?_
  refine xR [hR 1 rfl rfl (r_call (ledger_Base (cutH 0 (appL 0 (ofB 6 ([] : List (List UInt8))) (appL 0 (ofB 6 ([] : List (List UInt8))) ([] : List ledger_link) (api_Block.mk 1 (ofB 6 ([] : List (List UInt8))) ([] : List api_Envelope) ([] : List api_Result))) (api_Block.mk 1 (ofB 6 ([] : List (List UInt8))) ([] : List api_Envelope) ([] : List api_Result))) 1) (cutD 0 (ofB 6 ([] : List (List UInt8))) (appL 0 (ofB 6 ([] : List (List UInt8))) (appL 0 (ofB 6 ([] : List (List UInt8))) ([] : List ledger_link) (api_Block.mk 1 (ofB 6 ([] : List (List UInt8))) ([] : List api_Envelope) ([] : List api_Result))) (api_Block.mk 1 (ofB 6 ([] : List (List UInt8))) ([] : List api_Envelope) ([] : List api_Result))) 1) (cutL 0 (appL 0 (ofB 6 ([] : List (List UInt8))) (appL 0 (ofB 6 ([] : List (List UInt8))) ([] : List ledger_link) (api_Block.mk 1 (ofB 6 ([] : List (List UInt8))) ([] : List api_Envelope) ([] : List api_Result))) (api_Block.mk 1 (ofB 6 ([] : List (List UInt8))) ([] : List api_Envelope) ([] : List api_Result))) 1) (by decide) (by decide +kernel)) Try.func25 rfl (by decide) [0, 5] [] (l := [(.tmp 25, pv 0 0)]) [] rfl 2 2 rfl rfl rfl rfl rfl rfl rfl rfl rfl ⟨.inl ⟨rfl, rfl⟩, trivial⟩ rfl (fun b hb => by cases hb) (.inl rfl) (lt_of rfl) trivial)] (by kernel_rfl) (by kernel_rfl) ?_
  refine nT ?_
  refine T.seq ?_
  refine xR [hR 1 rfl rfl (r_call (ledger_Block (cutH 0 (appL 0 (ofB 6 ([] : List (List UInt8))) (appL 0 (ofB 6 ([] : List (List UInt8))) ([] : List ledger_link) (api_Block.mk 1 (ofB 6 ([] : List (List UInt8))) ([] : List api_Envelope) ([] : List api_Result))) (api_Block.mk 1 (ofB 6 ([] : List (List UInt8))) ([] : List api_Envelope) ([] : List api_Result))) 1) (cutD 0 (ofB 6 ([] : List (List UInt8))) (appL 0 (ofB 6 ([] : List (List UInt8))) (appL 0 (ofB 6 ([] : List (List UInt8))) ([] : List ledger_link) (api_Block.mk 1 (ofB 6 ([] : List (List UInt8))) ([] : List api_Envelope) ([] : List api_Result))) (api_Block.mk 1 (ofB 6 ([] : List (List UInt8))) ([] : List api_Envelope) ([] : List api_Result))) 1) (cutL 0 (appL 0 (ofB 6 ([] : List (List UInt8))) (appL 0 (ofB 6 ([] : List (List UInt8))) ([] : List ledger_link) (api_Block.mk 1 (ofB 6 ([] : List (List UInt8))) ([] : List api_Envelope) ([] : List api_Result))) (api_Block.mk 1 (ofB 6 ([] : List (List UInt8))) ([] : List api_Envelope) ([] : List api_Result))) 1) 1 (by decide) (by decide +kernel) (by decide +kernel)) Try.func19 rfl (by decide) [0, 5] [] (l := [(.tmp 30, pv 0 0), (.const (.int .i64 1), dv (.int .i64 1))]) [] rfl 2 2 rfl rfl rfl rfl rfl rfl rfl rfl rfl ⟨.inl ⟨rfl, rfl⟩, ⟨.inl ⟨rfl, rfl⟩, trivial⟩⟩ rfl (fun b hb => by cases hb) (.inl rfl) (lt_of rfl) ⟨rfl, trivial⟩)] (by kernel_rfl) (by kernel_rfl) ?_
  refine nT ?_
  refine T.seq ?_
  by_cases hq1 : (appE 0 (ofB 6 ([] : List (List UInt8))) ([] : List ledger_link) (api_Block.mk 1 (ofB 6 ([] : List (List UInt8))) ([] : List api_Envelope) ([] : List api_Result))) = 0
  · by_cases hq2 : (appE 0 (ofB 6 ([] : List (List UInt8))) (appL 0 (ofB 6 ([] : List (List UInt8))) ([] : List ledger_link) (api_Block.mk 1 (ofB 6 ([] : List (List UInt8))) ([] : List api_Envelope) ([] : List api_Result))) (api_Block.mk 1 (ofB 6 ([] : List (List UInt8))) ([] : List api_Envelope) ([] : List api_Result))) = 100
    · by_cases hq3 : (0 + (((appL 0 (ofB 6 ([] : List (List UInt8))) (appL 0 (ofB 6 ([] : List (List UInt8))) ([] : List ledger_link) (api_Block.mk 1 (ofB 6 ([] : List (List UInt8))) ([] : List api_Envelope) ([] : List api_Result))) (api_Block.mk 1 (ofB 6 ([] : List (List UInt8))) ([] : List api_Envelope) ([] : List api_Result))).length : Nat) : Int)) = 1
      · by_cases hq4 : (cutE 0 (appL 0 (ofB 6 ([] : List (List UInt8))) (appL 0 (ofB 6 ([] : List (List UInt8))) ([] : List ledger_link) (api_Block.mk 1 (ofB 6 ([] : List (List UInt8))) ([] : List api_Envelope) ([] : List api_Result))) (api_Block.mk 1 (ofB 6 ([] : List (List UInt8))) ([] : List api_Envelope) ([] : List api_Result))).length 1) = 0
        · by_cases hq5 : (cutH 0 (appL 0 (ofB 6 ([] : List (List UInt8))) (appL 0 (ofB 6 ([] : List (List UInt8))) ([] : List ledger_link) (api_Block.mk 1 (ofB 6 ([] : List (List UInt8))) ([] : List api_Envelope) ([] : List api_Result))) (api_Block.mk 1 (ofB 6 ([] : List (List UInt8))) ([] : List api_Envelope) ([] : List api_Result))) 1) = 1
          · by_cases hq6 : (cutD 0 (ofB 6 ([] : List (List UInt8))) (appL 0 (ofB 6 ([] : List (List UInt8))) (appL 0 (ofB 6 ([] : List (List UInt8))) ([] : List ledger_link) (api_Block.mk 1 (ofB 6 ([] : List (List UInt8))) ([] : List api_Envelope) ([] : List api_Result))) (api_Block.mk 1 (ofB 6 ([] : List (List UInt8))) ([] : List api_Envelope) ([] : List api_Result))) 1) = (hdL (cutD 0 (ofB 6 ([] : List (List UInt8))) (appL 0 (ofB 6 ([] : List (List UInt8))) (appL 0 (ofB 6 ([] : List (List UInt8))) ([] : List ledger_link) (api_Block.mk 1 (ofB 6 ([] : List (List UInt8))) ([] : List api_Envelope) ([] : List api_Result))) (api_Block.mk 1 (ofB 6 ([] : List (List UInt8))) ([] : List api_Envelope) ([] : List api_Result))) 1) (cutL 0 (appL 0 (ofB 6 ([] : List (List UInt8))) (appL 0 (ofB 6 ([] : List (List UInt8))) ([] : List ledger_link) (api_Block.mk 1 (ofB 6 ([] : List (List UInt8))) ([] : List api_Envelope) ([] : List api_Result))) (api_Block.mk 1 (ofB 6 ([] : List (List UInt8))) ([] : List api_Envelope) ([] : List api_Result))) 1))
            · refine xR [hY 3 (decide_eq_true hq1),
                hY 4 (decide_eq_true hq1),
                hP 5 (decide_eq_true hq1),
                hY 7 (decide_eq_true hq2),
                hY 8 (decide_eq_true hq2),
                hP 9 (decide_eq_true hq2),
                hY 11 (decide_eq_true hq3),
                hY 12 (decide_eq_true hq3),
                hP 13 (decide_eq_true hq3),
                hY 15 (decide_eq_true hq4),
                hY 16 (decide_eq_true hq4),
                hP 17 (decide_eq_true hq4),
                hY 19 (decide_eq_true hq5),
                hY 20 (decide_eq_true hq5),
                hS 21 (oY rfl rfl rfl rfl (lt_of rfl) (decide_eq_true hq5) (r_call (ledger_Head (cutH 0 (appL 0 (ofB 6 ([] : List (List UInt8))) (appL 0 (ofB 6 ([] : List (List UInt8))) ([] : List ledger_link) (api_Block.mk 1 (ofB 6 ([] : List (List UInt8))) ([] : List api_Envelope) ([] : List api_Result))) (api_Block.mk 1 (ofB 6 ([] : List (List UInt8))) ([] : List api_Envelope) ([] : List api_Result))) 1) (cutD 0 (ofB 6 ([] : List (List UInt8))) (appL 0 (ofB 6 ([] : List (List UInt8))) (appL 0 (ofB 6 ([] : List (List UInt8))) ([] : List ledger_link) (api_Block.mk 1 (ofB 6 ([] : List (List UInt8))) ([] : List api_Envelope) ([] : List api_Result))) (api_Block.mk 1 (ofB 6 ([] : List (List UInt8))) ([] : List api_Envelope) ([] : List api_Result))) 1) (cutL 0 (appL 0 (ofB 6 ([] : List (List UInt8))) (appL 0 (ofB 6 ([] : List (List UInt8))) ([] : List ledger_link) (api_Block.mk 1 (ofB 6 ([] : List (List UInt8))) ([] : List api_Envelope) ([] : List api_Result))) (api_Block.mk 1 (ofB 6 ([] : List (List UInt8))) ([] : List api_Envelope) ([] : List api_Result))) 1) (by omega) (by decide +kernel)) Try.func17 rfl (by decide) [0, 5] [] (l := [(.tmp 54, pv 0 0)]) [] rfl 2 2 rfl rfl rfl rfl rfl rfl rfl rfl rfl ⟨.inl ⟨rfl, rfl⟩, trivial⟩ rfl (fun b hb => by cases hb) (.inl rfl) (lt_of rfl) trivial)),
                hY 22 (decide_eq_true hq5),
                hP 23 (decide_eq_true hq5),
                hY 25 (decide_eq_true hq6),
                hY 26 (decide_eq_true hq6),
                hP 27 (decide_eq_true hq6)] (by kernel_rfl) (by kernel_rfl) ?_
              refine nT ?_
              refine T.ret ?_
              exact tE (.inl rfl) [.t 0 (.one (.d (.val (.bool (decide ((blkE (cutH 0 (appL 0 (ofB 6 ([] : List (List UInt8))) (appL 0 (ofB 6 ([] : List (List UInt8))) ([] : List ledger_link) (api_Block.mk 1 (ofB 6 ([] : List (List UInt8))) ([] : List api_Envelope) ([] : List api_Result))) (api_Block.mk 1 (ofB 6 ([] : List (List UInt8))) ([] : List api_Envelope) ([] : List api_Result))) 1) (cutL 0 (appL 0 (ofB 6 ([] : List (List UInt8))) (appL 0 (ofB 6 ([] : List (List UInt8))) ([] : List ledger_link) (api_Block.mk 1 (ofB 6 ([] : List (List UInt8))) ([] : List api_Envelope) ([] : List api_Result))) (api_Block.mk 1 (ofB 6 ([] : List (List UInt8))) ([] : List api_Envelope) ([] : List api_Result))) 1).length 1) = 4))))))] ⟨⟨rfl, by kernel_rfl⟩, trivial⟩ [] (by have e1 : (true : Bool) = (decide ((blkE (cutH 0 (appL 0 (ofB 6 ([] : List (List UInt8))) (appL 0 (ofB 6 ([] : List (List UInt8))) ([] : List ledger_link) (api_Block.mk 1 (ofB 6 ([] : List (List UInt8))) ([] : List api_Envelope) ([] : List api_Result))) (api_Block.mk 1 (ofB 6 ([] : List (List UInt8))) ([] : List api_Envelope) ([] : List api_Result))) 1) (cutL 0 (appL 0 (ofB 6 ([] : List (List UInt8))) (appL 0 (ofB 6 ([] : List (List UInt8))) ([] : List ledger_link) (api_Block.mk 1 (ofB 6 ([] : List (List UInt8))) ([] : List api_Envelope) ([] : List api_Result))) (api_Block.mk 1 (ofB 6 ([] : List (List UInt8))) ([] : List api_Envelope) ([] : List api_Result))) 1).length 1) = 4)) := (by rfl); have hE := congrArg (fun (q1 : Bool) => (dv (.bool q1) : AV)) e1; exact hE) rfl rfl rfl rfl rfl trivial
            · exact absurd (by decide +kernel) hq6
          · exact absurd (by decide +kernel) hq5
        · exact absurd (by decide +kernel) hq4
      · exact absurd (by decide +kernel) hq3
    · exact absurd (by decide +kernel) hq2
  · exact absurd (by decide +kernel) hq1
end Go.Proofs.Ytdclfhahcfefeaa.Q
namespace Go.Proofs.Ytdclfhahcfefeaa.Q
open Go Go.RowKit
set_option linter.unusedVariables false
set_option linter.unusedSimpArgs false
set_option maxRecDepth 100000
set_option maxHeartbeats 4000000
theorem fld_35_0 : FieldAt Try.prog 35 0 0 := ⟨_, _, _, Try.underlying35, rfl, iat_4, by decide, rfl⟩
theorem fld_35_2 : FieldAt Try.prog 35 2 2 := ⟨_, _, _, Try.underlying35, rfl, iat_3, by decide, rfl⟩
theorem fld_35_3 : FieldAt Try.prog 35 3 3 := ⟨_, _, _, Try.underlying35, rfl, iat_33, by decide, rfl⟩
theorem fld_35_1 : FieldAt Try.prog 35 1 1 := ⟨_, _, _, Try.underlying35, rfl, iat_4, by decide, rfl⟩
-- quaestor/quaestorlaw11.step
theorem law_step (h : Int) (d : List UInt8) (L : List api_Block) (x : quaestorlaw11_Act) (hh : 0 ≤ h ∧ h ≤ 1099511627776) (hl : L.length ≤ 99) (hw : fewLB L) (hfx : fewB x.f_Block) (hat : (atB d L L.length).length ≤ 10000000) : Holds Try.prog 12 ⟨[pv 0 0, pv 2 0, .tv (.agg [.d (.val (.bool x.f_Cut)), .d (.val (.bool x.f_Right)), .d (.val (.int .i64 x.f_H)), .d (.val (.int .i64 x.f_Block.f_Height)), .d (.val (strV x.f_Block.f_Prev)), .d (dsl false false (k_api_Envelope false) x.f_Block.f_Requests), .d (dsl false false (k_api_Result false) x.f_Block.f_Results)])], [.box 74 [.d (.val (.int .i64 h)), .d (.val (strV d)), .d (.val (.bool true)), .own 1 (k_ledger_link false).sz 0 (linksB L).length], arrK 80 (k_ledger_link false) (linksB L), .box 76 [.d (.val (.bool true)), .d (.val (.int .i64 h)), .d (.val (strV d)), .own 3 (k_api_Block false).sz 0 L.length], arrK 33 (k_api_Block false) L], dv (.bool true), [.live (.box 74 [.d (.val (.int .i64 (stH h L x))), .d (.val (strV (stD h d L x))), .d (.val (.bool true)), .own 4 (k_ledger_link false).sz 0 (linksB (stL h d L x)).length]), .dead, .live (.box 76 [.d (.val (.bool true)), .d (.val (.int .i64 (stH h L x))), .d (.val (strV (stD h d L x))), .own 5 (k_api_Block false).sz 0 (stL h d L x).length]), .dead, .live (arrK 80 (k_ledger_link false) (linksB (stL h d L x))), .live (arrK 33 (k_api_Block false) (stL h d L x))]⟩ := by
  refine Holds.of Try.func12 rfl (N := 37) Try.ntmps12 rfl fun w0 B0 S0 U0 => ?_
  show T _ (mkBase 37 4 w0 S0 U0 B0) ⟨[pv 0 0, pv 2 0, .tv (.agg [.d (.val (.bool x.f_Cut)), .d (.val (.bool x.f_Right)), .d (.val (.int .i64 x.f_H)), .d (.val (.int .i64 x.f_Block.f_Height)), .d (.val (strV x.f_Block.f_Prev)), .d (dsl false false (k_api_Envelope false) x.f_Block.f_Requests), .d (dsl false false (k_api_Result false) x.f_Block.f_Results)])], [.live (.box 74 [.d (.val (.int .i64 h)), .d (.val (strV d)), .d (.val (.bool true)), .own 1 (k_ledger_link false).sz 0 (linksB L).length]), .live (arrK 80 (k_ledger_link false) (linksB L)), .live (.box 76 [.d (.val (.bool true)), .d (.val (.int .i64 h)), .d (.val (strV d)), .own 3 (k_api_Block false).sz 0 L.length]), .live (arrK 33 (k_api_Block false) L)]⟩ _ _
  have hll := links_len L
  have hlk := links_few hw
  have hfa := act_few (h := h) hfx hat
  refine T.seq ?_
  refine xR [] (by kernel_rfl) (by kernel_rfl) ?_
  refine nT ?_
  refine T.seq ?_
  refine T.seq ?_
  refine xR [] (by kernel_rfl) (by kernel_rfl) ?_
  refine nT ?_
  by_cases hq1 : x.f_Cut = true
  · refine T.condT (by kernel_rfl) hq1 ?_
    refine T.seq ?_
    refine xD [[], [], [1], [0, 1, 2], [], [], [5], [0, 1, 2, 3, 4, 5, 6], [0, 1, 2, 3, 4, 5, 6, 7], [0, 1, 2, 3, 4, 5, 6, 7, 8]] [hR 3 rfl rfl (r_call (ledger_Cut h d (linksB L) x.f_H (by assumption) (by omega)) Try.func24 rfl (by decide) [0, 1, 5] [] (l := [(.tmp 10, pv 0 0), (.tmp 12, dv (.int .i64 x.f_H))]) [] rfl 2 3 rfl rfl rfl rfl rfl rfl rfl rfl rfl ⟨.inl ⟨rfl, rfl⟩, ⟨.inl ⟨rfl, rfl⟩, trivial⟩⟩ rfl (fun b hb => by cases hb) (.inl rfl) (lt_of rfl) trivial),
      hR 7 rfl rfl (r_call (ref11_Cut h d L x.f_H (by assumption) (by omega) (by assumption)) Try.func35 rfl (by decide) [2, 3, 6] [] (l := [(.tmp 14, pv 2 0), (.tmp 16, dv (.int .i64 x.f_H))]) [] rfl 2 3 rfl rfl rfl rfl rfl rfl rfl rfl rfl ⟨.inl ⟨rfl, rfl⟩, ⟨.inl ⟨rfl, rfl⟩, trivial⟩⟩ rfl (fun b hb => by cases hb) (.inl rfl) (lt_of rfl) trivial)] (by kernel_rfl) (by kernel_rfl) (by kernel_rfl) (by kernel_rfl) (by kernel_rfl) (by kernel_rfl) ?_
    refine nT ?_
    refine T.ret ?_
    refine rT ?_
    exact tE (.inl rfl) [.t 6 (.one (.d (.val (.bool (decide ((cutE h (linksB L).length x.f_H) = (cutE h L.length x.f_H)))))))] ⟨⟨rfl, by kernel_rfl⟩, trivial⟩ [0, 1, 2, 3, 5, 6] (by have e1 : (true : Bool) = (decide ((cutE h (linksB L).length x.f_H) = (cutE h L.length x.f_H))) := (by (rw [links_len]; exact (decide_eq_true rfl).symm)); have hE := congrArg (fun (q1 : Bool) => (dv (.bool q1) : AV)) e1; exact hE) rfl rfl rfl rfl rfl ⟨⟨rfl, (by have e1 : ((cutH h (linksB L) x.f_H) : Int) = (stH h L x) := (by (have hx := st_cut (h := h) (d := d) (L := L) hq1; exact hx.1.symm)); have e2 : ((cutD h d (linksB L) x.f_H) : List UInt8) = (stD h d L x) := (by (have hx := st_cut (h := h) (d := d) (L := L) hq1; exact hx.2.1.symm)); have e3 : ((cutL h (linksB L) x.f_H).length : Nat) = (linksB (stL h d L x)).length := (by (have hx := st_cut (h := h) (d := d) (L := L) hq1; (rw [hx.2.2.1]; done))); have hE := congr (congr (congrArg (fun (q1 : Int) (q2 : List UInt8) (q3 : Nat) => (.live (.box 74 [.d (.val (.int .i64 q1)), .d (.val (strV q2)), .d (.val (.bool true)), .own 5 (k_ledger_link false).sz 0 q3]) : HS)) e1) e2) e3; exact Eq.trans (by kernel_rfl) hE)⟩, ⟨⟨rfl, (by have e1 : ((rcutH h L x.f_H) : Int) = (stH h L x) := (by (have hx := st_cut (h := h) (d := d) (L := L) hq1; exact hx.2.2.2.1.symm)); have e2 : ((rcutD h d L x.f_H) : List UInt8) = (stD h d L x) := (by (have hx := st_cut (h := h) (d := d) (L := L) hq1; exact hx.2.2.2.2.1.symm)); have e3 : ((rcutL h L x.f_H).length : Nat) = (stL h d L x).length := (by (have hx := st_cut (h := h) (d := d) (L := L) hq1; (rw [hx.2.2.2.2.2]; done))); have hE := congr (congr (congrArg (fun (q1 : Int) (q2 : List UInt8) (q3 : Nat) => (.live (.box 76 [.d (.val (.bool true)), .d (.val (.int .i64 q1)), .d (.val (strV q2)), .own 6 (k_api_Block false).sz 0 q3]) : HS)) e1) e2) e3; exact Eq.trans (by kernel_rfl) hE)⟩, ⟨⟨rfl, (by have e1 : ((cutL h (linksB L) x.f_H) : List ledger_link) = (linksB (stL h d L x)) := (by (have hx := st_cut (h := h) (d := d) (L := L) hq1; exact hx.2.2.1.symm)); have hE := congrArg (fun (q1 : List ledger_link) => (.live (arrK 80 (k_ledger_link false) q1) : HS)) e1; exact Eq.trans (by kernel_rfl) hE)⟩, ⟨⟨rfl, (by have e1 : ((rcutL h L x.f_H) : List api_Block) = (stL h d L x) := (by (have hx := st_cut (h := h) (d := d) (L := L) hq1; exact hx.2.2.2.2.2.symm)); have hE := congrArg (fun (q1 : List api_Block) => (.live (arrK 33 (k_api_Block false) q1) : HS)) e1; exact Eq.trans (by kernel_rfl) hE)⟩, trivial⟩⟩⟩⟩
  · replace hq1 := Bool.eq_false_iff.2 hq1
    refine T.condF (by kernel_rfl) hq1 ?_
    refine T.skip ?_
    refine nT ?_
    refine T.seq ?_
    refine xR [] (by kernel_rfl) (by kernel_rfl) ?_
    refine nT ?_
    refine T.seq ?_
    refine T.seq ?_
    refine xR [] (by kernel_rfl) (by kernel_rfl) ?_
    refine nT ?_
    by_cases hq2 : x.f_Right = true
    · refine T.condT (by kernel_rfl) hq2 ?_
      refine T.seq ?_
      refine xR [hR 1 rfl rfl (r_call (ref11_Height h d L (by assumption) (by omega)) Try.func36 rfl (by decide) [2, 3] [] (l := [(.tmp 23, pv 2 0)]) [] rfl 2 2 rfl rfl rfl rfl rfl rfl rfl rfl rfl ⟨.inl ⟨rfl, rfl⟩, trivial⟩ rfl (fun b hb => by cases hb) (.inl rfl) (lt_of rfl) trivial),
        hR 2 rfl rfl (r_bin (u1 := .int .i64 (h + ((L.length : Nat) : Int))) (u2 := .int .i64 1) (v := .int .i64 ((h + ((L.length : Nat) : Int)) + 1)) (b_add (by rw [IntKind.wrap_i64]; omega)) (lt_of rfl) ⟨rfl, trivial⟩)] (by kernel_rfl) (by kernel_rfl) ?_
      refine nT ?_
      refine xR [hR 1 rfl rfl (r_call (ref11_Head h d L (by assumption) (by omega) (by assumption)) Try.func37 rfl (by decide) [2, 3] [] (l := [(.tmp 27, pv 2 0)]) [] rfl 2 2 rfl rfl rfl rfl rfl rfl rfl rfl rfl ⟨.inl ⟨rfl, rfl⟩, trivial⟩ rfl (fun b hb => by cases hb) (.inl rfl) (lt_of rfl) trivial)] (by kernel_rfl) (by kernel_rfl) ?_
      refine nT ?_
      refine T.seq ?_
      refine xD [[], [], [0, 1], [], [], [0, 1, 2, 3, 4], [0, 1, 2, 3, 4, 5], [0, 1, 2, 3, 4, 5, 6]] [hR 2 rfl rfl (r_call (ledger_Append h d (linksB L) (api_Block.mk ((h + ((L.length : Nat) : Int)) + 1) (atB d L L.length) x.f_Block.f_Requests x.f_Block.f_Results) (by assumption) (by omega) (by assumption)) Try.func18 rfl (by decide) [0, 1, 6] [] (l := [(.tmp 30, pv 0 0), (.tmp 31, .tv (.agg [.d (.val (.int .i64 ((h + ((L.length : Nat) : Int)) + 1))), .d (.val (strV (atB d L L.length))), .d (dsl false false (k_api_Envelope false) x.f_Block.f_Requests), .d (dsl false false (k_api_Result false) x.f_Block.f_Results)]))]) [] rfl 2 3 rfl rfl rfl rfl rfl rfl rfl rfl rfl ⟨.inl ⟨rfl, rfl⟩, ⟨⟨.inl ⟨rfl, rfl⟩, ⟨.inl ⟨rfl, rfl⟩, ⟨.inl ⟨rfl, rfl⟩, ⟨.inl ⟨rfl, rfl⟩, trivial⟩⟩⟩⟩, trivial⟩⟩ rfl (fun b hb => by cases hb) (.inl rfl) (lt_of rfl) trivial),
        hR 5 rfl rfl (r_call (ref11_Append h d L (api_Block.mk ((h + ((L.length : Nat) : Int)) + 1) (atB d L L.length) x.f_Block.f_Requests x.f_Block.f_Results) (by assumption) (by omega) (by assumption) (by assumption)) Try.func38 rfl (by decide) [2, 3, 7] [] (l := [(.tmp 33, pv 2 0), (.tmp 34, .tv (.agg [.d (.val (.int .i64 ((h + ((L.length : Nat) : Int)) + 1))), .d (.val (strV (atB d L L.length))), .d (dsl false false (k_api_Envelope false) x.f_Block.f_Requests), .d (dsl false false (k_api_Result false) x.f_Block.f_Results)]))]) [] rfl 2 3 rfl rfl rfl rfl rfl rfl rfl rfl rfl ⟨.inl ⟨rfl, rfl⟩, ⟨⟨.inl ⟨rfl, rfl⟩, ⟨.inl ⟨rfl, rfl⟩, ⟨.inl ⟨rfl, rfl⟩, ⟨.inl ⟨rfl, rfl⟩, trivial⟩⟩⟩⟩, trivial⟩⟩ rfl (fun b hb => by cases hb) (.inl rfl) (lt_of rfl) trivial)] (by kernel_rfl) (by kernel_rfl) (by kernel_rfl) (by kernel_rfl) (by kernel_rfl) (by kernel_rfl) ?_
      refine nT ?_
      refine T.ret ?_
      exact tE (.inl rfl) [.t 6 (.one (.d (.val (.bool (decide ((appE h d (linksB L) (api_Block.mk ((h + ((L.length : Nat) : Int)) + 1) (atB d L L.length) x.f_Block.f_Requests x.f_Block.f_Results)) = (rappE h d L (api_Block.mk ((h + ((L.length : Nat) : Int)) + 1) (atB d L L.length) x.f_Block.f_Requests x.f_Block.f_Results))))))))] ⟨⟨rfl, by kernel_rfl⟩, trivial⟩ [0, 1, 2, 3, 6, 7] (by have e1 : (true : Bool) = (decide ((appE h d (linksB L) (api_Block.mk ((h + ((L.length : Nat) : Int)) + 1) (atB d L L.length) x.f_Block.f_Requests x.f_Block.f_Results)) = (rappE h d L (api_Block.mk ((h + ((L.length : Nat) : Int)) + 1) (atB d L L.length) x.f_Block.f_Requests x.f_Block.f_Results)))) := (by exact (decide_eq_true rfl).symm); have hE := congrArg (fun (q1 : Bool) => (dv (.bool q1) : AV)) e1; exact hE) rfl rfl rfl rfl rfl ⟨⟨rfl, (by have e1 : (h : Int) = (stH h L x) := (by (have hx := st_app (h := h) (d := d) (L := L) hq1 (act_r hq2); exact hx.1.symm)); have e2 : (d : List UInt8) = (stD h d L x) := (by (have hx := st_app (h := h) (d := d) (L := L) hq1 (act_r hq2); exact hx.2.1.symm)); have e3 : ((appL h d (linksB L) (api_Block.mk ((h + ((L.length : Nat) : Int)) + 1) (atB d L L.length) x.f_Block.f_Requests x.f_Block.f_Results)).length : Nat) = (linksB (stL h d L x)).length := (by (have hx := st_app (h := h) (d := d) (L := L) hq1 (act_r hq2); (rw [hx.2.2.1]; done))); have hE := congr (congr (congrArg (fun (q1 : Int) (q2 : List UInt8) (q3 : Nat) => (.live (.box 74 [.d (.val (.int .i64 q1)), .d (.val (strV q2)), .d (.val (.bool true)), .own 6 (k_ledger_link false).sz 0 q3]) : HS)) e1) e2) e3; exact Eq.trans (by kernel_rfl) hE)⟩, ⟨⟨rfl, (by have e1 : (h : Int) = (stH h L x) := (by (have hx := st_app (h := h) (d := d) (L := L) hq1 (act_r hq2); exact hx.1.symm)); have e2 : (d : List UInt8) = (stD h d L x) := (by (have hx := st_app (h := h) (d := d) (L := L) hq1 (act_r hq2); exact hx.2.1.symm)); have e3 : ((rappL h d L (api_Block.mk ((h + ((L.length : Nat) : Int)) + 1) (atB d L L.length) x.f_Block.f_Requests x.f_Block.f_Results)).length : Nat) = (stL h d L x).length := (by (have hx := st_app (h := h) (d := d) (L := L) hq1 (act_r hq2); (rw [hx.2.2.2]; done))); have hE := congr (congr (congrArg (fun (q1 : Int) (q2 : List UInt8) (q3 : Nat) => (.live (.box 76 [.d (.val (.bool true)), .d (.val (.int .i64 q1)), .d (.val (strV q2)), .own 7 (k_api_Block false).sz 0 q3]) : HS)) e1) e2) e3; exact Eq.trans (by kernel_rfl) hE)⟩, ⟨⟨rfl, (by have e1 : ((appL h d (linksB L) (api_Block.mk ((h + ((L.length : Nat) : Int)) + 1) (atB d L L.length) x.f_Block.f_Requests x.f_Block.f_Results)) : List ledger_link) = (linksB (stL h d L x)) := (by (have hx := st_app (h := h) (d := d) (L := L) hq1 (act_r hq2); exact hx.2.2.1.symm)); have hE := congrArg (fun (q1 : List ledger_link) => (.live (arrK 80 (k_ledger_link false) q1) : HS)) e1; exact Eq.trans (by kernel_rfl) hE)⟩, ⟨⟨rfl, (by have e1 : ((rappL h d L (api_Block.mk ((h + ((L.length : Nat) : Int)) + 1) (atB d L L.length) x.f_Block.f_Requests x.f_Block.f_Results)) : List api_Block) = (stL h d L x) := (by (have hx := st_app (h := h) (d := d) (L := L) hq1 (act_r hq2); exact hx.2.2.2.symm)); have hE := congrArg (fun (q1 : List api_Block) => (.live (arrK 33 (k_api_Block false) q1) : HS)) e1; exact Eq.trans (by kernel_rfl) hE)⟩, trivial⟩⟩⟩⟩
    · replace hq2 := Bool.eq_false_iff.2 hq2
      refine T.condF (by kernel_rfl) hq2 ?_
      refine T.skip ?_
      refine nT ?_
      refine T.seq ?_
      refine xD [[], [], [0, 1], [], [], [0, 1, 2, 3, 4], [0, 1, 2, 3, 4, 5], [0, 1, 2, 3, 4, 5, 6]] [hR 2 rfl rfl (r_call (ledger_Append h d (linksB L) x.f_Block (by assumption) (by omega) (by assumption)) Try.func18 rfl (by decide) [0, 1, 6] [] (l := [(.tmp 30, pv 0 0), (.tmp 31, .tv (.agg [.d (.val (.int .i64 x.f_Block.f_Height)), .d (.val (strV x.f_Block.f_Prev)), .d (dsl false false (k_api_Envelope false) x.f_Block.f_Requests), .d (dsl false false (k_api_Result false) x.f_Block.f_Results)]))]) [] rfl 2 3 rfl rfl rfl rfl rfl rfl rfl rfl rfl ⟨.inl ⟨rfl, rfl⟩, ⟨⟨.inl ⟨rfl, rfl⟩, ⟨.inl ⟨rfl, rfl⟩, ⟨.inl ⟨rfl, rfl⟩, ⟨.inl ⟨rfl, rfl⟩, trivial⟩⟩⟩⟩, trivial⟩⟩ rfl (fun b hb => by cases hb) (.inl rfl) (lt_of rfl) trivial),
        hR 5 rfl rfl (r_call (ref11_Append h d L x.f_Block (by assumption) (by omega) (by assumption) (by assumption)) Try.func38 rfl (by decide) [2, 3, 7] [] (l := [(.tmp 33, pv 2 0), (.tmp 34, .tv (.agg [.d (.val (.int .i64 x.f_Block.f_Height)), .d (.val (strV x.f_Block.f_Prev)), .d (dsl false false (k_api_Envelope false) x.f_Block.f_Requests), .d (dsl false false (k_api_Result false) x.f_Block.f_Results)]))]) [] rfl 2 3 rfl rfl rfl rfl rfl rfl rfl rfl rfl ⟨.inl ⟨rfl, rfl⟩, ⟨⟨.inl ⟨rfl, rfl⟩, ⟨.inl ⟨rfl, rfl⟩, ⟨.inl ⟨rfl, rfl⟩, ⟨.inl ⟨rfl, rfl⟩, trivial⟩⟩⟩⟩, trivial⟩⟩ rfl (fun b hb => by cases hb) (.inl rfl) (lt_of rfl) trivial)] (by kernel_rfl) (by kernel_rfl) (by kernel_rfl) (by kernel_rfl) (by kernel_rfl) (by kernel_rfl) ?_
      refine nT ?_
      refine T.ret ?_
      exact tE (.inl rfl) [.t 6 (.one (.d (.val (.bool (decide ((appE h d (linksB L) x.f_Block) = (rappE h d L x.f_Block)))))))] ⟨⟨rfl, by kernel_rfl⟩, trivial⟩ [0, 1, 2, 3, 6, 7] (by have e1 : (true : Bool) = (decide ((appE h d (linksB L) x.f_Block) = (rappE h d L x.f_Block))) := (by exact (decide_eq_true rfl).symm); have hE := congrArg (fun (q1 : Bool) => (dv (.bool q1) : AV)) e1; exact hE) rfl rfl rfl rfl rfl ⟨⟨rfl, (by have e1 : (h : Int) = (stH h L x) := (by (have hx := st_app (h := h) (d := d) (L := L) hq1 (act_n hq2); exact hx.1.symm)); have e2 : (d : List UInt8) = (stD h d L x) := (by (have hx := st_app (h := h) (d := d) (L := L) hq1 (act_n hq2); exact hx.2.1.symm)); have e3 : ((appL h d (linksB L) x.f_Block).length : Nat) = (linksB (stL h d L x)).length := (by (have hx := st_app (h := h) (d := d) (L := L) hq1 (act_n hq2); (rw [hx.2.2.1]; done))); have hE := congr (congr (congrArg (fun (q1 : Int) (q2 : List UInt8) (q3 : Nat) => (.live (.box 74 [.d (.val (.int .i64 q1)), .d (.val (strV q2)), .d (.val (.bool true)), .own 6 (k_ledger_link false).sz 0 q3]) : HS)) e1) e2) e3; exact Eq.trans (by kernel_rfl) hE)⟩, ⟨⟨rfl, (by have e1 : (h : Int) = (stH h L x) := (by (have hx := st_app (h := h) (d := d) (L := L) hq1 (act_n hq2); exact hx.1.symm)); have e2 : (d : List UInt8) = (stD h d L x) := (by (have hx := st_app (h := h) (d := d) (L := L) hq1 (act_n hq2); exact hx.2.1.symm)); have e3 : ((rappL h d L x.f_Block).length : Nat) = (stL h d L x).length := (by (have hx := st_app (h := h) (d := d) (L := L) hq1 (act_n hq2); (rw [hx.2.2.2]; done))); have hE := congr (congr (congrArg (fun (q1 : Int) (q2 : List UInt8) (q3 : Nat) => (.live (.box 76 [.d (.val (.bool true)), .d (.val (.int .i64 q1)), .d (.val (strV q2)), .own 7 (k_api_Block false).sz 0 q3]) : HS)) e1) e2) e3; exact Eq.trans (by kernel_rfl) hE)⟩, ⟨⟨rfl, (by have e1 : ((appL h d (linksB L) x.f_Block) : List ledger_link) = (linksB (stL h d L x)) := (by (have hx := st_app (h := h) (d := d) (L := L) hq1 (act_n hq2); exact hx.2.2.1.symm)); have hE := congrArg (fun (q1 : List ledger_link) => (.live (arrK 80 (k_ledger_link false) q1) : HS)) e1; exact Eq.trans (by kernel_rfl) hE)⟩, ⟨⟨rfl, (by have e1 : ((rappL h d L x.f_Block) : List api_Block) = (stL h d L x) := (by (have hx := st_app (h := h) (d := d) (L := L) hq1 (act_n hq2); exact hx.2.2.2.symm)); have hE := congrArg (fun (q1 : List api_Block) => (.live (arrK 33 (k_api_Block false) q1) : HS)) e1; exact Eq.trans (by kernel_rfl) hE)⟩, trivial⟩⟩⟩⟩
end Go.Proofs.Ytdclfhahcfefeaa.Q
namespace Go.Proofs.Ytdclfhahcfefeaa.Q
set_option linter.unusedVariables false
set_option linter.unusedSimpArgs false
set_option maxRecDepth 100000

/-! ### Acts, one behind the other -/

structure LSt where
  h : Int
  d : List UInt8
  L : List api_Block
def stepS (s : LSt) (x : Act') : LSt := ⟨stH s.h s.L x, stD s.h s.d s.L x, stL s.h s.d s.L x⟩
def runS (s : LSt) (l : List Act') : Nat → LSt
  | 0 => s
  | k + 1 => stepS (runS s l k) (l.getD k z_quaestorlaw11_Act)
def sNew : LSt := ⟨0, ofB 6 ([] : List (List UInt8)), ([] : List api_Block)⟩
def sFrom (h : Int) (d : List UInt8) : LSt := ⟨h, d, ([] : List api_Block)⟩
def fewA (l : List Act') : Prop := l.length ≤ 30 ∧ ∀ x, x ∈ l → smallB x.f_Block
instance (l : List Act') : Decidable (fewA l) := inferInstanceAs (Decidable (_ ∧ ∀ x, x ∈ l → smallB x.f_Block))
theorem fewA_get {l : List Act'} (h : fewA l) (k : Nat) : smallB (l.getD k z_quaestorlaw11_Act).f_Block := all_getD (p := fun (x : Act') => smallB x.f_Block) h.2 (by decide) k
theorem fewA_no {l : List Act'} {k : Nat} (hk : k < l.length) (h : ¬ smallB (l.getD k z_quaestorlaw11_Act).f_Block) : ¬ fewA l := fun h1 => h (fewA_get h1 k)
theorem fewA_yes {l : List Act'} {k : Nat} (h0 : l.length ≤ 30) (hk : l.length ≤ k) (h : ∀ j, j < k → smallB (l.getD j z_quaestorlaw11_Act).f_Block) : fewA l := ⟨h0, fun x hx => by
  obtain ⟨j, hj, rfl⟩ := List.getElem_of_mem hx
  have := h j (by omega)
  rwa [List.getD_eq_getElem?_getD, List.getElem?_eq_getElem hj] at this⟩

def okBk (m : Nat) (b : api_Block) : Prop := fewG szE 20 500 b.f_Requests ∧ b.f_Results.length ≤ 20 ∧ b.f_Prev.length + 26000 ≤ m
structure okS (k : Nat) (s : LSt) : Prop where
  h0 : 0 ≤ s.h
  h1 : s.h + ((s.L.length : Nat) : Int) ≤ 1099511627776
  len : s.L.length ≤ k
  dl : s.d.length ≤ 5000 + 26000 * k
  bl : ∀ b, b ∈ s.L → okBk (5000 + 26000 * k) b
theorem okBk_few {m : Nat} {b : api_Block} (hm : m ≤ 10000000) (h : okBk m b) : fewB b := ⟨h.1, h.2.1, by have := h.2.2; omega⟩
theorem dig_len {b : api_Block} (h : fewB b) : (digB (headB b)).length ≤ b.f_Prev.length + 26000 := by
  have h2 := few_root (few_leaves h)
  have h3 : (headB b).f_Root.length ≤ 25400 := h2
  have h4 : (headB b).f_Prev = b.f_Prev := rfl
  unfold digB
  rw [ofB_len, sz4, int_len, int_len, h4]
  omega
theorem at_len {k n : Nat} {s : LSt} (hs : okS k s) (hk : k ≤ 90) (hn : n ≤ s.L.length) : (atB s.d s.L n).length ≤ 5000 + 26000 * k := by
  unfold atB
  split
  · exact hs.dl
  · have hb := hs.bl _ (getD_mem (z := z_api_Block) (show n - 1 < s.L.length by omega))
    have h1 := dig_len (okBk_few (by omega) hb)
    have h2 := hb.2.2
    omega
theorem okS_fact {k : Nat} {s : LSt} (hs : okS k s) (hk : k ≤ 90) : (0 ≤ s.h ∧ s.h ≤ 1099511627776) ∧ s.L.length ≤ 90 ∧ fewLB s.L ∧ (atB s.d s.L s.L.length).length ≤ 10000000 := by
  have h0 := hs.h0
  have h1 := hs.h1
  have h2 := hs.len
  refine ⟨⟨h0, by omega⟩, by omega, fun b hb => okBk_few (by omega) (hs.bl b hb), ?_⟩
  have := at_len hs hk (Nat.le_refl _)
  omega
theorem okBk_mono {m n : Nat} {b : api_Block} (h : m ≤ n) (hb : okBk m b) : okBk n b := ⟨hb.1, hb.2.1, by have := hb.2.2; omega⟩
theorem okS_step {k : Nat} {s : LSt} {x : Act'} (hs : okS k s) (hk : k ≤ 90) (hx : fewB x.f_Block) : okS (k + 1) (stepS s x) := by
  have h0 := hs.h0
  have h1 := hs.h1
  have h2 := hs.len
  have h3 := hs.dl
  have hm : ∀ b, b ∈ s.L → okBk (5000 + 26000 * (k + 1)) b := fun b hb => okBk_mono (by omega) (hs.bl b hb)
  by_cases hc : x.f_Cut = true
  · obtain ⟨_, _, _, e1, e2, e3⟩ := st_cut (h := s.h) (d := s.d) (L := s.L) hc
    by_cases hr : x.f_H < s.h ∨ x.f_H > s.h + ((s.L.length : Nat) : Int)
    · obtain ⟨_, r1, r2, r3⟩ := rcut_no (h := s.h) (d := s.d) (L := s.L) hr
      have f1 : (stepS s x).h = s.h := e1.trans r1
      have f2 : (stepS s x).d = s.d := e2.trans r2
      have f3 : (stepS s x).L = s.L := e3.trans r3
      exact ⟨by rw [f1]; exact h0, by rw [f1, f3]; exact h1, by rw [f3]; omega, by rw [f2]; omega, by rw [f3]; exact hm⟩
    · obtain ⟨_, r1, r2, r3⟩ := rcut_yes (h := s.h) (d := s.d) (L := s.L) hr
      have f1 : (stepS s x).h = x.f_H := e1.trans r1
      have f2 : (stepS s x).d = atB s.d s.L (x.f_H - s.h).toNat := e2.trans r2
      have f3 : (stepS s x).L = s.L.drop (x.f_H - s.h).toNat := e3.trans r3
      have hat := at_len hs hk (show (x.f_H - s.h).toNat ≤ s.L.length by omega)
      exact ⟨by rw [f1]; omega, by rw [f1, f3, List.length_drop]; omega, by rw [f3, List.length_drop]; omega, by rw [f2]; omega, by rw [f3]; exact fun b hb => hm b (List.mem_of_mem_drop hb)⟩
  · obtain ⟨e1, e2, _, e3⟩ := st_app (h := s.h) (d := s.d) (L := s.L) (x := x) (Bool.eq_false_iff.2 hc) rfl
    have f1 : (stepS s x).h = s.h := e1
    have f2 : (stepS s x).d = s.d := e2
    have f3 : (stepS s x).L = rappL s.h s.d s.L (actB s.h s.d s.L x) := e3
    by_cases ha : rappE s.h s.d s.L (actB s.h s.d s.L x) = 0
    · have f4 : (stepS s x).L = s.L ++ [actB s.h s.d s.L x] := f3.trans (if_pos ha)
      have ha' := ha
      unfold rappE appE at ha'
      split at ha'
      · rename_i hk0
        split at ha'
        · rename_i hh
          split at ha'
          · rename_i hp
            rw [links_len] at hh
            rw [hd_links] at hp
            have hc4 := (chk_all hk0).2.2
            have hq : (actB s.h s.d s.L x).f_Requests = x.f_Block.f_Requests := by unfold actB; split <;> rfl
            have hq2 : (actB s.h s.d s.L x).f_Results = x.f_Block.f_Results := by unfold actB; split <;> rfl
            have hat := at_len hs hk (Nat.le_refl _)
            refine ⟨by rw [f1]; exact h0, ?_, ?_, by rw [f2]; omega, ?_⟩
            · rw [f1, f4, List.length_append, List.length_singleton]; omega
            · rw [f4, List.length_append, List.length_singleton]; omega
            · rw [f4]
              intro b hb
              rcases List.mem_append.1 hb with hb | hb
              · exact hm b hb
              · obtain rfl := List.mem_singleton.1 hb
                exact ⟨by rw [hq]; exact hx.1, by rw [hq2]; exact hx.2.1, by rw [hp]; omega⟩
          · cases ha'
        · cases ha'
      · rename_i hk0
        exact absurd ha' hk0
    · have f4 : (stepS s x).L = s.L := f3.trans (if_neg ha)
      exact ⟨by rw [f1]; exact h0, by rw [f1, f4]; exact h1, by rw [f4]; omega, by rw [f2]; omega, by rw [f4]; exact hm⟩
theorem okS_new : okS 0 sNew := ⟨by decide, by decide, by decide, by decide, fun b hb => by cases hb⟩
theorem okS_from {h : Int} {d : List UInt8} (h0 : 0 ≤ h ∧ h ≤ 1099511627776) (hd : d.length ≤ 5000) : okS 0 (sFrom h d) := ⟨h0.1, by show h + ((([] : List api_Block).length : Nat) : Int) ≤ _; simp; omega, Nat.le_refl _, by show d.length ≤ _; omega, fun b hb => by cases hb⟩
theorem okS_run {s : LSt} {j : Nat} {l : List Act'} (hs : okS j s) (hf : fewA l) : ∀ k, k + j ≤ 90 → okS (k + j) (runS s l k)
  | 0, _ => by rw [Nat.zero_add]; exact hs
  | k + 1, hk => by
    rw [show k + 1 + j = (k + j) + 1 by omega]
    exact okS_step (okS_run hs hf k (by omega)) (by omega) (fewA_get hf k).1
/-- What a loop's body leans on. -/
theorem run_fact {s : LSt} {l : List Act'} (hs : okS 0 s) (hf : fewA l) {k : Nat} (hk : k ≤ 60) : (0 ≤ (runS s l k).h ∧ (runS s l k).h ≤ 1099511627776) ∧ (runS s l k).L.length ≤ 90 ∧ fewLB (runS s l k).L ∧ (atB (runS s l k).d (runS s l k).L (runS s l k).L.length).length ≤ 10000000 :=
  okS_fact (okS_run hs hf k (by omega)) (by omega)
theorem blk_few {h : Int} {L : List api_Block} {x : Int} (hw : fewLB L) : fewB (blkB h (linksB L) x) := by
  rw [blk_links]
  unfold rblk
  split
  · exact fewLB_get hw _
  · decide
end Go.Proofs.Ytdclfhahcfefeaa.Q
namespace Go.Proofs.Ytdclfhahcfefeaa.Q
open Go Go.RowKit
set_option linter.unusedVariables false
set_option linter.unusedSimpArgs false
set_option maxRecDepth 100000
set_option maxHeartbeats 4000000
theorem iat_35 : Try.prog.info? 35 = some Try.t35 := by kernel_rfl
-- quaestor/quaestorlaw11.few
theorem law_few (l : List quaestorlaw11_Act) (hl : l.length ≤ 9223372036854775807) (hx : ∀ j, (l.getD j z_quaestorlaw11_Act).f_Block.f_Requests.length ≤ 9223372036854775807 ∧ (l.getD j z_quaestorlaw11_Act).f_Block.f_Results.length ≤ 9223372036854775807) : Holds Try.prog 9 ⟨[slV false false (k_quaestorlaw11_Act false) l], [], dv (.bool (decide (fewA l))), []⟩ := by
  refine Holds.of Try.func9 rfl (N := 20) Try.ntmps9 rfl fun w0 B0 S0 U0 => ?_
  show T _ (mkBase 20 0 w0 S0 U0 B0) ⟨[slV false false (k_quaestorlaw11_Act false) l], []⟩ _ _
  refine T.seq ?_
  refine xR [] (by kernel_rfl) (by kernel_rfl) ?_
  refine nT ?_
  refine T.seq ?_
  refine T.seq ?_
  refine xR [] (by kernel_rfl) (by kernel_rfl) ?_
  refine nT ?_
  by_cases hq1 : ((l.length : Nat) : Int) > 30
  · refine T.condT (by kernel_rfl) (decide_eq_true hq1) ?_
    refine T.seq ?_
    refine xR [] (by kernel_rfl) (by kernel_rfl) ?_
    refine nT ?_
    refine T.ret ?_
    refine rT ?_
    exact tE (.inl rfl) [.t 2 (.one (.d (.val (.bool false))))] ⟨⟨rfl, by kernel_rfl⟩, trivial⟩ [] (by have e1 : ((decide (fewA l)) : Bool) = false := (by exact decide_eq_false (fun h9 => by have h8 := h9.1; omega)); have hE := congrArg (fun (q1 : Bool) => (dv (.bool q1) : AV)) e1; exact hE) rfl rfl rfl rfl rfl trivial
  · refine T.condF (by kernel_rfl) (decide_eq_false hq1) ?_
    refine T.skip ?_
    refine nT ?_
    refine T.seq ?_
    refine T.seq ?_
    refine xR [] (by kernel_rfl) (by kernel_rfl) ?_
    refine nT ?_
    refine T.block ?_
    refine T.loop (ι := Nat) (fun (k : Nat) => ⟨[slV false false (k_quaestorlaw11_Act false) l, aa, dv (.bool false), dv (.int .i64 ((k : Nat) : Int)), aa, aa, dv (.bool (decide (((l.length : Nat) : Int) > 30)))], []⟩) (fun (k : Nat) => (k ≤ l.length) ∧ (∀ j, j < k → smallB (l.getD j z_quaestorlaw11_Act).f_Block)) (fun (k : Nat) => l.length - k) (0) ⟨(Nat.zero_le _), (fun j hj => absurd hj (Nat.not_lt_zero _))⟩ (fun _ _ hG => Gs.into2 (s' := ⟨[slV false false (k_quaestorlaw11_Act false) l, aa, dv (.bool false), dv (.int .i64 0), aa, aa, dv (.bool (decide (((l.length : Nat) : Int) > 30)))], []⟩) [] (bm 7 77) (t1 := [slV false false (k_quaestorlaw11_Act false) l, aa, dv (.bool false), dv (.int .i64 0), aa, aa, dv (.bool (decide (((l.length : Nat) : Int) > 30)))]) (h1 := []) rfl rfl (by kernel_rfl) (by kernel_rfl) (by kernel_rfl) (by kernel_rfl) (by kernel_rfl) (by kernel_rfl) (by kernel_rfl) (by kernel_rfl) (by kernel_rfl) (by kernel_rfl) (by kernel_rfl) hG) ?_
    rintro k ⟨hk, hb⟩
    show T _ _ ⟨[slV false false (k_quaestorlaw11_Act false) l, aa, dv (.bool false), dv (.int .i64 ((k : Nat) : Int)), aa, aa, dv (.bool (decide (((l.length : Nat) : Int) > 30)))], []⟩ _ _
    replace hk : k ≤ l.length := hk
    replace hb : ∀ j, j < k → smallB (l.getD j z_quaestorlaw11_Act).f_Block := hb
    have hxk := (hx k).1
    have hxk2 := (hx k).2
    refine T.seq ?_
    refine T.seq ?_
    refine xR [] (by kernel_rfl) (by kernel_rfl) ?_
    refine nT ?_
    by_cases hq2 : ((k : Nat) : Int) < ((l.length : Nat) : Int)
    · refine T.condT (by kernel_rfl) (decide_eq_true hq2) ?_
      refine T.skip ?_
      refine nT ?_
      refine T.seq ?_
      refine T.block ?_
      refine T.seq ?_
      refine xR [hR 2 rfl rfl (q_index false false (k_quaestorlaw11_Act false) l k (k := .i64) (i := ((k : Nat) : Int)) Try.underlying22 iat_35 rfl rfl (by omega) (lt_of rfl) trivial),
        hR 5 rfl rfl (r_call (law_Few false (l.getD k z_quaestorlaw11_Act).f_Block (by assumption) (by assumption)) Try.func15 rfl (by decide) [] [] (l := [(.tmp 17, .tv (.agg [.d (.val (.int .i64 (l.getD k z_quaestorlaw11_Act).f_Block.f_Height)), .d (.val (strV (l.getD k z_quaestorlaw11_Act).f_Block.f_Prev)), .d (dsl false false (k_api_Envelope false) (l.getD k z_quaestorlaw11_Act).f_Block.f_Requests), .d (dsl false false (k_api_Result false) (l.getD k z_quaestorlaw11_Act).f_Block.f_Results)]))]) [] rfl 0 0 rfl rfl rfl rfl rfl rfl rfl rfl rfl ⟨⟨.inl ⟨rfl, rfl⟩, ⟨.inl ⟨rfl, rfl⟩, ⟨.inl ⟨rfl, rfl⟩, ⟨.inl ⟨rfl, rfl⟩, trivial⟩⟩⟩⟩, trivial⟩ rfl (fun b hb => by cases hb) (.inl rfl) (lt_of rfl) trivial)] (by kernel_rfl) (by kernel_rfl) ?_
      refine nT ?_
      by_cases hq3 : smallB (l.getD k z_quaestorlaw11_Act).f_Block
      · refine T.condF (by kernel_rfl) (congrArg Bool.not (decide_eq_true hq3)) ?_
        refine T.skip ?_
        refine nB ?_
        refine nT ?_
        refine xR [hR 1 rfl rfl (r_bin (u1 := .int .i64 ((k : Nat) : Int)) (u2 := .int .i64 1) (v := .int .i64 ((k + 1 : Nat) : Int)) (b_add (by rw [IntKind.wrap_i64]; omega)) (lt_of rfl) ⟨rfl, trivial⟩)] (by kernel_rfl) (by kernel_rfl) ?_
        refine nL (k + 1) ⟨(show (k + 1) ≤ l.length from (by omega)), (show ∀ j, j < (k + 1) → smallB (l.getD j z_quaestorlaw11_Act).f_Block from (all_succ hb (by assumption)))⟩ (show (l.length - (k + 1) : Nat) < l.length - k from (by omega)) (fun _ _ hG => Gs.into2 (s' := ⟨[slV false false (k_quaestorlaw11_Act false) l, aa, dv (.bool false), dv (.int .i64 ((k + 1 : Nat) : Int)), aa, aa, dv (.bool (decide (((l.length : Nat) : Int) > 30)))], []⟩) [] (bm 7 77) (t1 := [slV false false (k_quaestorlaw11_Act false) l, aa, dv (.bool false), dv (.int .i64 ((k + 1 : Nat) : Int)), aa, aa, dv (.bool (decide (((l.length : Nat) : Int) > 30)))]) (h1 := []) rfl rfl (by kernel_rfl) (by kernel_rfl) (by kernel_rfl) (by kernel_rfl) (by kernel_rfl) (by kernel_rfl) (by kernel_rfl) (by kernel_rfl) (by kernel_rfl) (by kernel_rfl) (by kernel_rfl) hG)
      · refine T.condT (by kernel_rfl) (congrArg Bool.not (decide_eq_false hq3)) ?_
        refine T.seq ?_
        refine xR [] (by kernel_rfl) (by kernel_rfl) ?_
        refine nT ?_
        refine T.ret ?_
        refine rB ?_
        refine rT ?_
        refine rT ?_
        refine rB ?_
        refine rT ?_
        exact tE (.inl rfl) [.t 2 (.one (.d (.val (.bool false))))] ⟨⟨rfl, by kernel_rfl⟩, trivial⟩ [] (by have e1 : ((decide (fewA l)) : Bool) = false := (by exact decide_eq_false (fewA_no (k := k) (by omega) (by assumption))); have hE := congrArg (fun (q1 : Bool) => (dv (.bool q1) : AV)) e1; exact hE) rfl rfl rfl rfl rfl trivial
    · refine T.condF (by kernel_rfl) (decide_eq_false hq2) ?_
      refine T.exit ?_
      refine xT ?_
      refine xT ?_
      refine xH ?_
      refine nT ?_
      refine T.seq ?_
      refine xR [] (by kernel_rfl) (by kernel_rfl) ?_
      refine nT ?_
      refine T.ret ?_
      exact tE (.inl rfl) [.t 2 (.one (.d (.val (.bool true))))] ⟨⟨rfl, by kernel_rfl⟩, trivial⟩ [] (by have e1 : ((decide (fewA l)) : Bool) = true := (by exact decide_eq_true (fewA_yes (k := k) (by omega) (by omega) hb)); have hE := congrArg (fun (q1 : Bool) => (dv (.bool q1) : AV)) e1; exact hE) rfl rfl rfl rfl rfl trivial
end Go.Proofs.Ytdclfhahcfefeaa.Q
namespace Go.Proofs.Ytdclfhahcfefeaa.Q
open Go Go.RowKit
set_option linter.unusedVariables false
set_option linter.unusedSimpArgs false
set_option maxRecDepth 100000
set_option maxHeartbeats 4000000
-- quaestor/quaestorlaw11.same
theorem law_same (h : Int) (d : List UInt8) (L : List api_Block) (x : Int) (hh : 0 ≤ h ∧ h ≤ 1099511627776) (hl : L.length ≤ 90) (hw : fewLB L) : Holds Try.prog 13 ⟨[pv 0 0, pv 2 0, dv (.int .i64 x)], [.box 74 [.d (.val (.int .i64 h)), .d (.val (strV d)), .d (.val (.bool true)), .own 1 (k_ledger_link false).sz 0 (linksB L).length], arrK 80 (k_ledger_link false) (linksB L), .box 76 [.d (.val (.bool true)), .d (.val (.int .i64 h)), .d (.val (strV d)), .own 3 (k_api_Block false).sz 0 L.length], arrK 33 (k_api_Block false) L], dv (.bool true), [.live (.box 74 [.d (.val (.int .i64 h)), .d (.val (strV d)), .d (.val (.bool true)), .own 1 (k_ledger_link false).sz 0 (linksB L).length]), .live (arrK 80 (k_ledger_link false) (linksB L)), .live (.box 76 [.d (.val (.bool true)), .d (.val (.int .i64 h)), .d (.val (strV d)), .own 3 (k_api_Block false).sz 0 L.length]), .live (arrK 33 (k_api_Block false) L)]⟩ := by
  refine Holds.of Try.func13 rfl (N := 68) Try.ntmps13 rfl fun w0 B0 S0 U0 => ?_
  show T _ (mkBase 68 4 w0 S0 U0 B0) ⟨[pv 0 0, pv 2 0, dv (.int .i64 x)], [.live (.box 74 [.d (.val (.int .i64 h)), .d (.val (strV d)), .d (.val (.bool true)), .own 1 (k_ledger_link false).sz 0 (linksB L).length]), .live (arrK 80 (k_ledger_link false) (linksB L)), .live (.box 76 [.d (.val (.bool true)), .d (.val (.int .i64 h)), .d (.val (strV d)), .own 3 (k_api_Block false).sz 0 L.length]), .live (arrK 33 (k_api_Block false) L)]⟩ _ _
  have hll := links_len L
  have hlk := links_few hw
  have hbf := blk_few (h := h) (x := x) hw
  have hb1 := hbf.1.1
  have hb2 := hbf.2.1
  refine T.seq ?_
  refine xR [] (by kernel_rfl) (by kernel_rfl) ?_
  refine nT ?_
  refine T.seq ?_
  refine xR [hR 1 rfl rfl (r_call (ledger_Base h d (linksB L) (by assumption) (by omega)) Try.func25 rfl (by decide) [0, 1] [] (l := [(.tmp 14, pv 0 0)]) [] rfl 2 2 rfl rfl rfl rfl rfl rfl rfl rfl rfl ⟨.inl ⟨rfl, rfl⟩, trivial⟩ rfl (fun b hb => by cases hb) (.inl rfl) (lt_of rfl) trivial)] (by kernel_rfl) (by kernel_rfl) ?_
  refine nT ?_
  refine T.seq ?_
  refine xR [hR 2 rfl rfl (r_call (ledger_Block h d (linksB L) x (by assumption) (by omega) (by assumption)) Try.func19 rfl (by decide) [0, 1] [] (l := [(.tmp 19, pv 0 0), (.tmp 20, dv (.int .i64 x))]) [] rfl 2 2 rfl rfl rfl rfl rfl rfl rfl rfl rfl ⟨.inl ⟨rfl, rfl⟩, ⟨.inl ⟨rfl, rfl⟩, trivial⟩⟩ rfl (fun b hb => by cases hb) (.inl rfl) (lt_of rfl) trivial)] (by kernel_rfl) (by kernel_rfl) ?_
  refine nT ?_
  refine T.seq ?_
  refine xR [hR 2 rfl rfl (r_call (ref11_Block h d L x (by assumption) (by omega) (by assumption)) Try.func39 rfl (by decide) [2, 3] [] (l := [(.tmp 25, pv 2 0), (.tmp 26, dv (.int .i64 x))]) [] rfl 2 2 rfl rfl rfl rfl rfl rfl rfl rfl rfl ⟨.inl ⟨rfl, rfl⟩, ⟨.inl ⟨rfl, rfl⟩, trivial⟩⟩ rfl (fun b hb => by cases hb) (.inl rfl) (lt_of rfl) trivial)] (by kernel_rfl) (by kernel_rfl) ?_
  refine nT ?_
  refine T.seq ?_
  by_cases hq1 : (h + (((linksB L).length : Nat) : Int)) = (h + ((L.length : Nat) : Int))
  · by_cases hq2 : (hdL d (linksB L)) = (atB d L L.length)
    · by_cases hq3 : (blkB h (linksB L) x) = (rblk h L x)
      · refine xR [hY 7 (show decide (h = h) = true from decide_eq_true (Eq.refl _)),
          hY 8 (show decide (h = h) = true from decide_eq_true (Eq.refl _)),
          hY 9 (show decide (h = h) = true from decide_eq_true (Eq.refl _)),
          hY 10 (show decide (h = h) = true from decide_eq_true (Eq.refl _)),
          hY 11 (show decide (h = h) = true from decide_eq_true (Eq.refl _)),
          hY 12 (show decide (h = h) = true from decide_eq_true (Eq.refl _)),
          hP 13 (show decide (h = h) = true from decide_eq_true (Eq.refl _)),
          hY 15 (show decide (d = d) = true from decide_eq_true (Eq.refl _)),
          hS 16 (oY rfl rfl rfl rfl (lt_of rfl) (show decide (d = d) = true from decide_eq_true (Eq.refl _)) (r_call (ledger_Height h d (linksB L) (by assumption) (by omega)) Try.func16 rfl (by decide) [0, 1] [] (l := [(.tmp 45, pv 0 0)]) [] rfl 2 2 rfl rfl rfl rfl rfl rfl rfl rfl rfl ⟨.inl ⟨rfl, rfl⟩, trivial⟩ rfl (fun b hb => by cases hb) (.inl rfl) (lt_of rfl) trivial)),
          hY 17 (show decide (d = d) = true from decide_eq_true (Eq.refl _)),
          hS 18 (oY rfl rfl rfl rfl (lt_of rfl) (show decide (d = d) = true from decide_eq_true (Eq.refl _)) (r_call (ref11_Height h d L (by assumption) (by omega)) Try.func36 rfl (by decide) [2, 3] [] (l := [(.tmp 47, pv 2 0)]) [] rfl 2 2 rfl rfl rfl rfl rfl rfl rfl rfl rfl ⟨.inl ⟨rfl, rfl⟩, trivial⟩ rfl (fun b hb => by cases hb) (.inl rfl) (lt_of rfl) trivial)),
          hY 19 (show decide (d = d) = true from decide_eq_true (Eq.refl _)),
          hP 20 (show decide (d = d) = true from decide_eq_true (Eq.refl _)),
          hY 22 (decide_eq_true hq1),
          hS 23 (oY rfl rfl rfl rfl (lt_of rfl) (decide_eq_true hq1) (r_call (ledger_Head h d (linksB L) (by assumption) (by omega)) Try.func17 rfl (by decide) [0, 1] [] (l := [(.tmp 52, pv 0 0)]) [] rfl 2 2 rfl rfl rfl rfl rfl rfl rfl rfl rfl ⟨.inl ⟨rfl, rfl⟩, trivial⟩ rfl (fun b hb => by cases hb) (.inl rfl) (lt_of rfl) trivial)),
          hY 24 (decide_eq_true hq1),
          hS 25 (oY rfl rfl rfl rfl (lt_of rfl) (decide_eq_true hq1) (r_call (ref11_Head h d L (by assumption) (by omega) (by assumption)) Try.func37 rfl (by decide) [2, 3] [] (l := [(.tmp 54, pv 2 0)]) [] rfl 2 2 rfl rfl rfl rfl rfl rfl rfl rfl rfl ⟨.inl ⟨rfl, rfl⟩, trivial⟩ rfl (fun b hb => by cases hb) (.inl rfl) (lt_of rfl) trivial)),
          hY 26 (decide_eq_true hq1),
          hP 27 (decide_eq_true hq1),
          hY 29 (decide_eq_true hq2),
          hY 30 (decide_eq_true hq2),
          hS 31 (oY rfl rfl rfl rfl (lt_of rfl) (decide_eq_true hq2) (r_call (ref10_Same false false (blkB h (linksB L) x) (rblk h L x) (by omega) (by omega)) Try.func20 rfl (by decide) [] [] (l := [(.tmp 59, .tv (.agg [.d (.val (.int .i64 (blkB h (linksB L) x).f_Height)), .d (.val (strV (blkB h (linksB L) x).f_Prev)), .d (dsl false false (k_api_Envelope false) (blkB h (linksB L) x).f_Requests), .d (dsl false false (k_api_Result false) (blkB h (linksB L) x).f_Results)])), (.tmp 60, .tv (.agg [.d (.val (.int .i64 (rblk h L x).f_Height)), .d (.val (strV (rblk h L x).f_Prev)), .d (dsl false false (k_api_Envelope false) (rblk h L x).f_Requests), .d (dsl false false (k_api_Result false) (rblk h L x).f_Results)]))]) [] rfl 0 0 rfl rfl rfl rfl rfl rfl rfl rfl rfl ⟨⟨.inl ⟨rfl, rfl⟩, ⟨.inl ⟨rfl, rfl⟩, ⟨.inl ⟨rfl, rfl⟩, ⟨.inl ⟨rfl, rfl⟩, trivial⟩⟩⟩⟩, ⟨⟨.inl ⟨rfl, rfl⟩, ⟨.inl ⟨rfl, rfl⟩, ⟨.inl ⟨rfl, rfl⟩, ⟨.inl ⟨rfl, rfl⟩, trivial⟩⟩⟩⟩, trivial⟩⟩ rfl (fun b hb => by cases hb) (.inl rfl) (lt_of rfl) trivial)),
          hP 32 (decide_eq_true hq2),
          hY 34 (decide_eq_true hq3),
          hY 35 (decide_eq_true hq3),
          hY 36 (decide_eq_true hq3),
          hP 37 (decide_eq_true hq3)] (by kernel_rfl) (by kernel_rfl) ?_
        refine nT ?_
        refine T.ret ?_
        exact tE (.inl rfl) [.t 6 (.one (.d (.val (.bool (decide ((blkE h (linksB L).length x) = (blkE h L.length x)))))))] ⟨⟨rfl, by kernel_rfl⟩, trivial⟩ [0, 1, 2, 3] (by have e1 : (true : Bool) = (decide ((blkE h (linksB L).length x) = (blkE h L.length x))) := (by exact (decide_eq_true (by rw [links_len])).symm); have hE := congrArg (fun (q1 : Bool) => (dv (.bool q1) : AV)) e1; exact hE) rfl rfl rfl rfl rfl ⟨⟨rfl, (by kernel_rfl)⟩, ⟨⟨rfl, (by kernel_rfl)⟩, ⟨⟨rfl, (by kernel_rfl)⟩, ⟨⟨rfl, (by kernel_rfl)⟩, trivial⟩⟩⟩⟩
      · exact absurd (by exact blk_links ..) hq3
    · exact absurd (by exact hd_links ..) hq2
  · exact absurd (by (rw [links_len]; done)) hq1
end Go.Proofs.Ytdclfhahcfefeaa.Q
namespace Go.Proofs.Ytdclfhahcfefeaa.Q
set_option linter.unusedVariables false
set_option linter.unusedSimpArgs false
set_option maxRecDepth 100000

/-! ### Blocks that are forgotten -/

def cutS (s : LSt) (x : Int) : LSt := ⟨rcutH s.h s.L x, rcutD s.h s.d s.L x, rcutL s.h s.L x⟩
def app1 (s : LSt) (b : api_Block) : LSt := ⟨s.h, s.d, rappL s.h s.d s.L b⟩
theorem okS_cut {k : Nat} {s : LSt} {x : Int} (hs : okS k s) (hk : k ≤ 90) : okS (k + 1) (cutS s x) := by
  have h := okS_step (x := ⟨true, false, x, z_api_Block⟩) hs hk (show fewB z_api_Block by decide)
  obtain ⟨_, _, _, e1, e2, e3⟩ := st_cut (h := s.h) (d := s.d) (L := s.L) (x := ⟨true, false, x, z_api_Block⟩) rfl
  have e : stepS s ⟨true, false, x, z_api_Block⟩ = cutS s x := by unfold stepS cutS; rw [e1, e2, e3]
  rw [← e]; exact h
theorem okS_app {k : Nat} {s : LSt} {b : api_Block} (hs : okS k s) (hk : k ≤ 90) (hb : fewB b) : okS (k + 1) (app1 s b) := by
  have h := okS_step (x := ⟨false, false, 0, b⟩) hs hk hb
  obtain ⟨e1, e2, _, e3⟩ := st_app (h := s.h) (d := s.d) (L := s.L) (x := ⟨false, false, 0, b⟩) (b := b) rfl rfl
  have e : stepS s ⟨false, false, 0, b⟩ = app1 s b := by unfold stepS app1; rw [e1, e2, e3]
  rw [← e]; exact h
def rel2 (a c : LSt) : Prop := a.h + ((a.L.length : Nat) : Int) = c.h + ((c.L.length : Nat) : Int) ∧ atB a.d a.L a.L.length = atB c.d c.L c.L.length
theorem at_drop {d : List UInt8} {L : List api_Block} {n : Nat} (hn : n ≤ L.length) : atB (atB d L n) (L.drop n) (L.drop n).length = atB d L L.length := by
  rw [List.length_drop]
  unfold atB
  by_cases h1 : L.length - n = 0
  · have : n = L.length := by omega
    rw [if_pos h1, this]
  · rw [if_neg h1, if_neg (by omega)]
    rw [List.getD_eq_getElem?_getD, List.getD_eq_getElem?_getD, List.getElem?_drop, show n + (L.length - n - 1) = L.length - 1 by omega]
theorem rel_cut (s : LSt) (x : Int) : rel2 s (cutS s x) := by
  by_cases hr : x < s.h ∨ x > s.h + ((s.L.length : Nat) : Int)
  · obtain ⟨_, r1, r2, r3⟩ := rcut_no (h := s.h) (d := s.d) (L := s.L) hr
    unfold cutS rel2
    simp only []
    rw [r1, r2, r3]
    exact ⟨rfl, rfl⟩
  · obtain ⟨_, r1, r2, r3⟩ := rcut_yes (h := s.h) (d := s.d) (L := s.L) hr
    unfold cutS rel2
    simp only []
    rw [r1, r2, r3]
    exact ⟨by rw [List.length_drop]; omega, (at_drop (by omega)).symm⟩
theorem rel_err {a c : LSt} {b : api_Block} (h : rel2 a c) : rappE a.h a.d a.L b = rappE c.h c.d c.L b := by
  unfold rappE appE
  rw [links_len, links_len, hd_links, hd_links, h.1, h.2]
theorem app1_yes {s : LSt} {b : api_Block} (h : rappE s.h s.d s.L b = 0) : app1 s b = ⟨s.h, s.d, s.L ++ [b]⟩ := by unfold app1 rappL; rw [if_pos h]
theorem app1_no {s : LSt} {b : api_Block} (h : ¬ rappE s.h s.d s.L b = 0) : app1 s b = s := by unfold app1 rappL; rw [if_neg h]
theorem at_snoc (d : List UInt8) (L : List api_Block) (b : api_Block) : atB d (L ++ [b]) (L ++ [b]).length = digB (headB b) := by
  unfold atB
  rw [if_neg (by simp), List.length_append, List.length_singleton, Nat.add_sub_cancel, List.getD_eq_getElem?_getD, List.getElem?_append_right (Nat.le_refl _), Nat.sub_self]
  rfl
theorem rel_app {a c : LSt} {b : api_Block} (h : rel2 a c) : rel2 (app1 a b) (app1 c b) := by
  by_cases he : rappE a.h a.d a.L b = 0
  · rw [app1_yes he, app1_yes ((rel_err h).symm.trans he)]
    refine ⟨?_, ?_⟩
    · show a.h + (((a.L ++ [b]).length : Nat) : Int) = c.h + (((c.L ++ [b]).length : Nat) : Int)
      have := h.1
      rw [List.length_append, List.length_append, List.length_singleton]
      omega
    · show atB a.d (a.L ++ [b]) (a.L ++ [b]).length = atB c.d (c.L ++ [b]) (c.L ++ [b]).length
      rw [at_snoc, at_snoc]
  · rw [app1_no he, app1_no (fun e => he ((rel_err h).trans e))]
    exact h
def actS (s : LSt) (x : Act') : api_Block := actB s.h s.d s.L x
def run2 (s t : LSt) (m : List Act') : Nat → LSt × LSt
  | 0 => (s, t)
  | k + 1 => (app1 (run2 s t m k).1 (actS (run2 s t m k).1 (m.getD k z_quaestorlaw11_Act)), app1 (run2 s t m k).2 (actS (run2 s t m k).1 (m.getD k z_quaestorlaw11_Act)))
theorem actS_few {k : Nat} {s : LSt} {x : Act'} (hs : okS k s) (hk : k ≤ 90) (hx : fewB x.f_Block) : fewB (actS s x) := by
  unfold actS actB
  split
  · exact act_few hx (okS_fact hs hk).2.2.2
  · exact hx
theorem run2_ok {s t : LSt} {j : Nat} {m : List Act'} (hs : okS j s) (ht : okS (j + 1) t) (hr : rel2 s t) (hf : fewA m) : ∀ k, k + j + 1 ≤ 90 → okS (k + j) (run2 s t m k).1 ∧ okS (k + j + 1) (run2 s t m k).2 ∧ rel2 (run2 s t m k).1 (run2 s t m k).2
  | 0, _ => by rw [Nat.zero_add]; exact ⟨hs, ht, hr⟩
  | k + 1, hk => by
    obtain ⟨h1, h2, h3⟩ := run2_ok hs ht hr hf k (by omega)
    have hb := actS_few h1 (by omega) (fewA_get hf k).1
    rw [show k + 1 + j = k + j + 1 by omega]
    exact ⟨okS_app h1 (by omega) hb, okS_app h2 (by omega) hb, rel_app h3⟩
theorem run2_base (s t : LSt) (m : List Act') : ∀ k, (run2 s t m k).2.h = t.h
  | 0 => rfl
  | k + 1 => run2_base s t m k
theorem rel_head {a c : LSt} (h : rel2 a c) : hdL a.d (linksB a.L) = hdL c.d (linksB c.L) := by rw [hd_links, hd_links]; exact h.2
/-- What the second loop leans on. -/
theorem two_fact {l m : List Act'} {x : Int} (hf : fewA l) (hg : fewA m) {k j : Nat} (hk : k ≤ 30) (hj : j ≤ 30) :
    let a := (run2 (runS sNew l k) (cutS (runS sNew l k) x) m j).1
    let c := (run2 (runS sNew l k) (cutS (runS sNew l k) x) m j).2
    ((0 ≤ a.h ∧ a.h ≤ 1099511627776) ∧ a.L.length ≤ 90 ∧ fewLB a.L ∧ (atB a.d a.L a.L.length).length ≤ 10000000) ∧ ((0 ≤ c.h ∧ c.h ≤ 1099511627776) ∧ c.L.length ≤ 90 ∧ fewLB c.L ∧ (atB c.d c.L c.L.length).length ≤ 10000000) ∧ rel2 a c := by
  have h0 := okS_run okS_new hf k (by omega)
  obtain ⟨h1, h2, h3⟩ := run2_ok h0 (okS_cut h0 (by omega)) (rel_cut _ x) hg j (by omega)
  exact ⟨okS_fact h1 (by omega), okS_fact h2 (by omega), h3⟩
theorem lk_app {s : LSt} {b : api_Block} : appL s.h s.d (linksB s.L) b = linksB (app1 s b).L := app_links s.h s.d s.L b
theorem cutE_links (h : Int) (L : List api_Block) (x : Int) : cutE h (linksB L).length x = cutE h L.length x := by rw [links_len]
theorem cut_base {h : Int} {L : List api_Block} {x : Int} (he : cutE h (linksB L).length x = 0) : rcutH h L x = x := by
  rw [links_len] at he
  exact if_pos he
end Go.Proofs.Ytdclfhahcfefeaa.Q
