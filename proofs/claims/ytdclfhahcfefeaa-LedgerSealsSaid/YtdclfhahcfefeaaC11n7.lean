import Derived.Test.YtdclfhahcfefeaaC11n6
namespace Go.Proofs.Ytdclfhahcfefeaa.Q
open Go Go.RowKit
set_option linter.unusedVariables false
set_option linter.unusedSimpArgs false
set_option maxRecDepth 100000
set_option maxHeartbeats 4000000
theorem places_33 : Places Try.prog 33 [(0, 1), (1, 1), (2, 1), (3, 1)] := ⟨_, Try.underlying33, ⟨⟨rfl, _, iat_3, rfl⟩, ⟨⟨rfl, _, iat_29, rfl⟩, ⟨⟨rfl, _, iat_30, rfl⟩, ⟨⟨rfl, _, iat_31, rfl⟩, trivial⟩⟩⟩⟩⟩
theorem fld_80_0 : FieldAt Try.prog 80 0 0 := ⟨_, _, _, Try.underlying80, rfl, iat_33, by decide, rfl⟩
-- (*quaestor/ledger.Ledger).Block
theorem ledger_Block (h : Int) (d : List UInt8) (l : List ledger_link) (x : Int) (hh : 0 ≤ h ∧ h ≤ 1099511627776) (hl : l.length ≤ 100) (hw : fewLk l) : Holds Try.prog 19 ⟨[pv 0 0, dv (.int .i64 x)], [.box 74 [.d (.val (.int .i64 h)), .d (.val (strV d)), .d (.val (.bool true)), .own 1 (k_ledger_link false).sz 0 l.length], arrK 80 (k_ledger_link false) l], .tup [.agg [.d (.val (.int .i64 (blkB h l x).f_Height)), .d (.val (strV (blkB h l x).f_Prev)), .d (dsl false false (k_api_Envelope false) (blkB h l x).f_Requests), .d (dsl false false (k_api_Result false) (blkB h l x).f_Results)], .one (.d (.val (.int .i64 (blkE h l.length x))))], [.live (.box 74 [.d (.val (.int .i64 h)), .d (.val (strV d)), .d (.val (.bool true)), .own 1 (k_ledger_link false).sz 0 l.length]), .live (arrK 80 (k_ledger_link false) l)]⟩ := by
  refine Holds.of Try.func19 rfl (N := 40) Try.ntmps19 rfl fun w0 B0 S0 U0 => ?_
  show T _ (mkBase 40 2 w0 S0 U0 B0) ⟨[pv 0 0, dv (.int .i64 x)], [.live (.box 74 [.d (.val (.int .i64 h)), .d (.val (strV d)), .d (.val (.bool true)), .own 1 (k_ledger_link false).sz 0 l.length]), .live (arrK 80 (k_ledger_link false) l)]⟩ _ _
  refine T.seq ?_
  refine xR [] (by kernel_rfl) (by kernel_rfl) ?_
  refine nT ?_
  refine T.seq ?_
  refine T.seq ?_
  by_cases hq1 : x ≤ h
  · refine xR [hY 3 (b := false) (w := false) rfl,
      hY 4 (b := false) (w := false) rfl,
      hY 5 (b := false) (w := false) rfl,
      hY 6 (b := false) (w := false) rfl,
      hY 7 (b := false) (w := false) rfl,
      hY 8 (b := false) (w := false) rfl,
      hY 9 (b := false) (w := false) rfl,
      hP 10 (b := false) (w := false) rfl,
      hN 12 false (decide_eq_true hq1),
      hN 13 false (decide_eq_true hq1),
      hN 14 false (decide_eq_true hq1),
      hN 15 false (decide_eq_true hq1),
      hP 16 (decide_eq_true hq1)] (by kernel_rfl) (by kernel_rfl) ?_
    refine nT ?_
    refine T.condT (b := true) (by kernel_rfl) rfl ?_
    refine T.seq ?_
    refine xR [] (by kernel_rfl) (by kernel_rfl) ?_
    refine nT ?_
    refine T.ret ?_
    refine rT ?_
    refine Ends.turn (s' := ⟨[pv 0 0, dv (.int .i64 x), aa, aa, pv 2 0, dv (.int .i64 4), aa, aa, aa, aa, aa, aa, aa, aa, aa, aa, aa, aa, aa, aa, aa, aa, dv (.bool true)], [.live (.box 74 [.d (.val (.int .i64 h)), .d (.val (strV d)), .d (.val (.bool true)), .own 1 (k_ledger_link false).sz 0 l.length]), .live (arrK 80 (k_ledger_link false) l), .live (.box 33 [.d (.val (.int .i64 0)), .d (.val (strV [])), .d (.val (.slice none 0 0)), .d (.val (.slice none 0 0))])]⟩) (fun _ _ hG => Gs.norm (by kernel_rfl) hG) ?_
    refine Ends.turn (s' := ⟨[pv 0 0, dv (.int .i64 x), aa, aa, pv 2 0, dv (.int .i64 4), aa, aa, aa, aa, aa, aa, aa, aa, aa, aa, aa, aa, aa, aa, aa, aa, dv (.bool true)], [.live (.box 74 [.d (.val (.int .i64 h)), .d (.val (strV d)), .d (.val (.bool true)), .own 1 (k_ledger_link false).sz 0 l.length]), .live (arrK 80 (k_ledger_link false) l), .live (.box 33 [.d (.val (.int .i64 0)), .d (.val (strV [])), .d (dsl false false (k_api_Envelope false) ([] : List api_Envelope)), .d (dsl false false (k_api_Result false) ([] : List api_Result))])]⟩) (fun _ _ hG => Gs.less (s := ⟨[pv 0 0, dv (.int .i64 x), aa, aa, pv 2 0, dv (.int .i64 4), aa, aa, aa, aa, aa, aa, aa, aa, aa, aa, aa, aa, aa, aa, aa, aa, dv (.bool true)], [.live (.box 74 [.d (.val (.int .i64 h)), .d (.val (strV d)), .d (.val (.bool true)), .own 1 (k_ledger_link false).sz 0 l.length]), .live (arrK 80 (k_ledger_link false) l), .live (.box 33 [.d (.val (.int .i64 0)), .d (.val (strV [])), .d (.val (.slice none 0 0)), .d (.val (.slice none 0 0))])]⟩) ⟨(.inl rfl), ⟨(.inl rfl), ⟨(.inl rfl), ⟨(.inl rfl), ⟨(.inl rfl), ⟨(.inl rfl), ⟨(.inl rfl), ⟨(.inl rfl), ⟨(.inl rfl), ⟨(.inl rfl), ⟨(.inl rfl), ⟨(.inl rfl), ⟨(.inl rfl), ⟨(.inl rfl), ⟨(.inl rfl), ⟨(.inl rfl), ⟨(.inl rfl), ⟨(.inl rfl), ⟨(.inl rfl), ⟨(.inl rfl), ⟨(.inl rfl), ⟨(.inl rfl), ⟨(.inl rfl), trivial⟩⟩⟩⟩⟩⟩⟩⟩⟩⟩⟩⟩⟩⟩⟩⟩⟩⟩⟩⟩⟩⟩⟩ ⟨(.inl rfl), ⟨(.inl rfl), ⟨(.inr ⟨rfl, ⟨(.inl rfl), ⟨(.inl rfl), ⟨(.inr ⟨rfl, rfl, rfl⟩), ⟨(.inr ⟨rfl, rfl, rfl⟩), trivial⟩⟩⟩⟩⟩), trivial⟩⟩⟩ hG) ?_
    exact tE (.inl rfl) [.c 4 2 33 0 33 [.d (.val (.int .i64 0)), .d (.val (strV [])), .d (dsl false false (k_api_Envelope false) ([] : List api_Envelope)), .d (dsl false false (k_api_Result false) ([] : List api_Result))] (.agg [.d (.val (.int .i64 0)), .d (.val (strV [])), .d (dsl false false (k_api_Envelope false) ([] : List api_Envelope)), .d (dsl false false (k_api_Result false) ([] : List api_Result))]), .t 5 (.one (.d (.val (.int .i64 4))))] ⟨⟨rfl, rfl, by kernel_rfl, by kernel_rfl, .inl ⟨4, wide_33, rfl, Nat.le_of_ble_eq_true rfl⟩⟩, ⟨⟨rfl, by kernel_rfl⟩, trivial⟩⟩ [0, 1] (by have e1 : ((blkB h l x).f_Height : Int) = 0 := (by (have hi : ¬ inL h l.length x := (fun q => by have q1 := q.1; have q2 := q.2; omega); (rw [blkB, if_neg hi]; rfl))); have e2 : ((blkB h l x).f_Prev : List UInt8) = [] := (by (have hi : ¬ inL h l.length x := (fun q => by have q1 := q.1; have q2 := q.2; omega); (rw [blkB, if_neg hi]; rfl))); have e3 : ((blkB h l x).f_Requests : List api_Envelope) = ([] : List api_Envelope) := (by (have hi : ¬ inL h l.length x := (fun q => by have q1 := q.1; have q2 := q.2; omega); (rw [blkB, if_neg hi]; rfl))); have e4 : ((blkB h l x).f_Results : List api_Result) = ([] : List api_Result) := (by (have hi : ¬ inL h l.length x := (fun q => by have q1 := q.1; have q2 := q.2; omega); (rw [blkB, if_neg hi]; rfl))); have e5 : ((blkE h l.length x) : Int) = 4 := (by (have hi : ¬ inL h l.length x := (fun q => by have q1 := q.1; have q2 := q.2; omega); (rw [blkE, if_neg hi]))); have hE := congr (congr (congr (congr (congrArg (fun (q1 : Int) (q2 : List UInt8) (q3 : List api_Envelope) (q4 : List api_Result) (q5 : Int) => (.tup [.agg [.d (.val (.int .i64 q1)), .d (.val (strV q2)), .d (dsl false false (k_api_Envelope false) q3), .d (dsl false false (k_api_Result false) q4)], .one (.d (.val (.int .i64 q5)))] : AV)) e1) e2) e3) e4) e5; exact hE) rfl rfl rfl rfl rfl ⟨⟨rfl, (by kernel_rfl)⟩, ⟨⟨rfl, (by kernel_rfl)⟩, trivial⟩⟩
  · refine xR [hY 3 (b := false) (w := false) rfl,
      hY 4 (b := false) (w := false) rfl,
      hY 5 (b := false) (w := false) rfl,
      hY 6 (b := false) (w := false) rfl,
      hY 7 (b := false) (w := false) rfl,
      hY 8 (b := false) (w := false) rfl,
      hY 9 (b := false) (w := false) rfl,
      hP 10 (b := false) (w := false) rfl,
      hY 12 (decide_eq_false hq1),
      hY 13 (decide_eq_false hq1),
      hS 14 (oY rfl rfl rfl rfl (lt_of rfl) (decide_eq_false hq1) (r_call (ledger_Height h d l (by assumption) (by assumption)) Try.func16 rfl (by decide) [0, 1] [] (l := [(.tmp 19, pv 0 0)]) [] rfl 2 2 rfl rfl rfl rfl rfl rfl rfl rfl rfl ⟨.inl ⟨rfl, rfl⟩, trivial⟩ rfl (fun b hb => by cases hb) (.inl rfl) (lt_of rfl) trivial)),
      hY 15 (decide_eq_false hq1),
      hP 16 (decide_eq_false hq1)] (by kernel_rfl) (by kernel_rfl) ?_
    refine nT ?_
    by_cases hq2 : x > (h + ((l.length : Nat) : Int))
    · refine T.condT (by kernel_rfl) (decide_eq_true hq2) ?_
      refine T.seq ?_
      refine xR [] (by kernel_rfl) (by kernel_rfl) ?_
      refine nT ?_
      refine T.ret ?_
      refine rT ?_
      refine Ends.turn (s' := ⟨[pv 0 0, dv (.int .i64 x), aa, aa, pv 2 0, dv (.int .i64 4), aa, aa, aa, aa, aa, aa, aa, aa, aa, aa, aa, aa, aa, aa, aa, aa, dv (.bool (decide (x > (h + ((l.length : Nat) : Int)))))], [.live (.box 74 [.d (.val (.int .i64 h)), .d (.val (strV d)), .d (.val (.bool true)), .own 1 (k_ledger_link false).sz 0 l.length]), .live (arrK 80 (k_ledger_link false) l), .live (.box 33 [.d (.val (.int .i64 0)), .d (.val (strV [])), .d (.val (.slice none 0 0)), .d (.val (.slice none 0 0))])]⟩) (fun _ _ hG => Gs.norm (by kernel_rfl) hG) ?_
      refine Ends.turn (s' := ⟨[pv 0 0, dv (.int .i64 x), aa, aa, pv 2 0, dv (.int .i64 4), aa, aa, aa, aa, aa, aa, aa, aa, aa, aa, aa, aa, aa, aa, aa, aa, dv (.bool (decide (x > (h + ((l.length : Nat) : Int)))))], [.live (.box 74 [.d (.val (.int .i64 h)), .d (.val (strV d)), .d (.val (.bool true)), .own 1 (k_ledger_link false).sz 0 l.length]), .live (arrK 80 (k_ledger_link false) l), .live (.box 33 [.d (.val (.int .i64 0)), .d (.val (strV [])), .d (dsl false false (k_api_Envelope false) ([] : List api_Envelope)), .d (dsl false false (k_api_Result false) ([] : List api_Result))])]⟩) (fun _ _ hG => Gs.less (s := ⟨[pv 0 0, dv (.int .i64 x), aa, aa, pv 2 0, dv (.int .i64 4), aa, aa, aa, aa, aa, aa, aa, aa, aa, aa, aa, aa, aa, aa, aa, aa, dv (.bool (decide (x > (h + ((l.length : Nat) : Int)))))], [.live (.box 74 [.d (.val (.int .i64 h)), .d (.val (strV d)), .d (.val (.bool true)), .own 1 (k_ledger_link false).sz 0 l.length]), .live (arrK 80 (k_ledger_link false) l), .live (.box 33 [.d (.val (.int .i64 0)), .d (.val (strV [])), .d (.val (.slice none 0 0)), .d (.val (.slice none 0 0))])]⟩) ⟨(.inl rfl), ⟨(.inl rfl), ⟨(.inl rfl), ⟨(.inl rfl), ⟨(.inl rfl), ⟨(.inl rfl), ⟨(.inl rfl), ⟨(.inl rfl), ⟨(.inl rfl), ⟨(.inl rfl), ⟨(.inl rfl), ⟨(.inl rfl), ⟨(.inl rfl), ⟨(.inl rfl), ⟨(.inl rfl), ⟨(.inl rfl), ⟨(.inl rfl), ⟨(.inl rfl), ⟨(.inl rfl), ⟨(.inl rfl), ⟨(.inl rfl), ⟨(.inl rfl), ⟨(.inl rfl), trivial⟩⟩⟩⟩⟩⟩⟩⟩⟩⟩⟩⟩⟩⟩⟩⟩⟩⟩⟩⟩⟩⟩⟩ ⟨(.inl rfl), ⟨(.inl rfl), ⟨(.inr ⟨rfl, ⟨(.inl rfl), ⟨(.inl rfl), ⟨(.inr ⟨rfl, rfl, rfl⟩), ⟨(.inr ⟨rfl, rfl, rfl⟩), trivial⟩⟩⟩⟩⟩), trivial⟩⟩⟩ hG) ?_
      exact tE (.inl rfl) [.c 4 2 33 0 33 [.d (.val (.int .i64 0)), .d (.val (strV [])), .d (dsl false false (k_api_Envelope false) ([] : List api_Envelope)), .d (dsl false false (k_api_Result false) ([] : List api_Result))] (.agg [.d (.val (.int .i64 0)), .d (.val (strV [])), .d (dsl false false (k_api_Envelope false) ([] : List api_Envelope)), .d (dsl false false (k_api_Result false) ([] : List api_Result))]), .t 5 (.one (.d (.val (.int .i64 4))))] ⟨⟨rfl, rfl, by kernel_rfl, by kernel_rfl, .inl ⟨4, wide_33, rfl, Nat.le_of_ble_eq_true rfl⟩⟩, ⟨⟨rfl, by kernel_rfl⟩, trivial⟩⟩ [0, 1] (by have e1 : ((blkB h l x).f_Height : Int) = 0 := (by (have hi : ¬ inL h l.length x := (fun q => by have q1 := q.1; have q2 := q.2; omega); (rw [blkB, if_neg hi]; rfl))); have e2 : ((blkB h l x).f_Prev : List UInt8) = [] := (by (have hi : ¬ inL h l.length x := (fun q => by have q1 := q.1; have q2 := q.2; omega); (rw [blkB, if_neg hi]; rfl))); have e3 : ((blkB h l x).f_Requests : List api_Envelope) = ([] : List api_Envelope) := (by (have hi : ¬ inL h l.length x := (fun q => by have q1 := q.1; have q2 := q.2; omega); (rw [blkB, if_neg hi]; rfl))); have e4 : ((blkB h l x).f_Results : List api_Result) = ([] : List api_Result) := (by (have hi : ¬ inL h l.length x := (fun q => by have q1 := q.1; have q2 := q.2; omega); (rw [blkB, if_neg hi]; rfl))); have e5 : ((blkE h l.length x) : Int) = 4 := (by (have hi : ¬ inL h l.length x := (fun q => by have q1 := q.1; have q2 := q.2; omega); (rw [blkE, if_neg hi]))); have hE := congr (congr (congr (congr (congrArg (fun (q1 : Int) (q2 : List UInt8) (q3 : List api_Envelope) (q4 : List api_Result) (q5 : Int) => (.tup [.agg [.d (.val (.int .i64 q1)), .d (.val (strV q2)), .d (dsl false false (k_api_Envelope false) q3), .d (dsl false false (k_api_Result false) q4)], .one (.d (.val (.int .i64 q5)))] : AV)) e1) e2) e3) e4) e5; exact hE) rfl rfl rfl rfl rfl ⟨⟨rfl, (by kernel_rfl)⟩, ⟨⟨rfl, (by kernel_rfl)⟩, trivial⟩⟩
    · refine T.condF (by kernel_rfl) (decide_eq_false hq2) ?_
      refine T.skip ?_
      refine nT ?_
      refine T.seq ?_
      refine xD [[], [0], [0, 1], [0, 1, 2], [], [], [5], [5, 6], [5, 6, 7], [5, 6, 7, 8], [4, 5, 6, 7, 8, 9], [4, 5, 6, 7, 8, 9, 10], [0, 1, 2, 3, 4, 5, 6, 7, 8, 9, 10, 11], [0, 1, 2, 3, 4, 5, 6, 7, 8, 9, 10, 11, 12], [0, 1, 2, 3, 4, 5, 6, 7, 8, 9, 10, 11, 12, 13], [0, 1, 2, 3, 4, 5, 6, 7, 8, 9, 10, 11, 12, 13, 14], [0, 1, 2, 3, 4, 5, 6, 7, 8, 9, 10, 11, 12, 13, 14, 15], [0, 1, 2, 3, 4, 5, 6, 7, 8, 9, 10, 11, 12, 13, 14, 15, 16]] [hR 10 rfl rfl (r_bin (u1 := .int .i64 x) (u2 := .int .i64 h) (v := .int .i64 (x - h)) (b_sub (by rw [IntKind.wrap_i64]; omega)) (lt_of rfl) trivial),
        hR 11 rfl rfl (r_bin (u1 := .int .i64 (x - h)) (u2 := .int .i64 1) (v := .int .i64 ((x - h) - 1)) (b_sub (by rw [IntKind.wrap_i64]; omega)) (lt_of rfl) ⟨rfl, trivial⟩),
        hR 12 rfl rfl (r_indexO (k := .i64) (l := 1) (sz := (k_ledger_link false).sz) (off := 0) (n := l.length) (i := ((x - h) - 1)) (m := ((x - h) - 1).toNat) (o' := ((x - h) - 1).toNat * (k_ledger_link false).sz + 0) Try.underlying72 iat_80 rfl (by omega) (by omega) (by simp) (lt_of rfl) trivial),
        hR 14 rfl rfl (r_loadAs (l := 1) (off := ((x - h) - 1).toNat * (k_ledger_link false).sz + 0) (i := ((x - h) - 1).toNat) (j := 0) (T := 80) (sz := (k_ledger_link false).sz) (n := l.length) (el := elOf (k_ledger_link false) l) (ds := [.d (.val (.int .i64 (l.getD ((x - h) - 1).toNat z_ledger_link).f_block.f_Height)), .d (.val (strV (l.getD ((x - h) - 1).toNat z_ledger_link).f_block.f_Prev)), .d (dsl false false (k_api_Envelope false) (l.getD ((x - h) - 1).toNat z_ledger_link).f_block.f_Requests), .d (dsl false false (k_api_Result false) (l.getD ((x - h) - 1).toNat z_ledger_link).f_block.f_Results)]) wide_33 rfl (by omega) (by decide) rfl (lt_of rfl) trivial),
        hR 15 rfl rfl (r_call (ledger_twin (l.getD ((x - h) - 1).toNat z_ledger_link).f_block (by exact fewLk_get (by assumption) _)) Try.func41 rfl (by decide) [] [] (l := [(.tmp 38, .tv (.agg [.d (.val (.int .i64 (l.getD ((x - h) - 1).toNat z_ledger_link).f_block.f_Height)), .d (.val (strV (l.getD ((x - h) - 1).toNat z_ledger_link).f_block.f_Prev)), .d (dsl false false (k_api_Envelope false) (l.getD ((x - h) - 1).toNat z_ledger_link).f_block.f_Requests), .d (dsl false false (k_api_Result false) (l.getD ((x - h) - 1).toNat z_ledger_link).f_block.f_Results)]))]) [] rfl 0 0 rfl rfl rfl rfl rfl rfl rfl rfl rfl ⟨⟨.inl ⟨rfl, rfl⟩, ⟨.inl ⟨rfl, rfl⟩, ⟨.inl ⟨rfl, rfl⟩, ⟨.inl ⟨rfl, rfl⟩, trivial⟩⟩⟩⟩, trivial⟩ rfl (fun b hb => by cases hb) (.inl rfl) (lt_of rfl) trivial)] (by kernel_rfl) (by kernel_rfl) (by kernel_rfl) (by kernel_rfl) (by kernel_rfl) (by kernel_rfl) ?_
      refine nT ?_
      refine T.ret ?_
      exact tE (.inl rfl) [.c 4 2 33 0 33 [.d (.val (.int .i64 (l.getD ((x - h) - 1).toNat z_ledger_link).f_block.f_Height)), .d (.val (strV (l.getD ((x - h) - 1).toNat z_ledger_link).f_block.f_Prev)), .d (dsl false false (k_api_Envelope false) (l.getD ((x - h) - 1).toNat z_ledger_link).f_block.f_Requests), .d (dsl false false (k_api_Result false) (l.getD ((x - h) - 1).toNat z_ledger_link).f_block.f_Results)] (.agg [.d (.val (.int .i64 (l.getD ((x - h) - 1).toNat z_ledger_link).f_block.f_Height)), .d (.val (strV (l.getD ((x - h) - 1).toNat z_ledger_link).f_block.f_Prev)), .d (dsl false false (k_api_Envelope false) (l.getD ((x - h) - 1).toNat z_ledger_link).f_block.f_Requests), .d (dsl false false (k_api_Result false) (l.getD ((x - h) - 1).toNat z_ledger_link).f_block.f_Results)]), .t 5 (.one (.d (.val (.int .i64 0))))] ⟨⟨rfl, rfl, by kernel_rfl, by kernel_rfl, .inl ⟨4, wide_33, rfl, Nat.le_of_ble_eq_true rfl⟩⟩, ⟨⟨rfl, by kernel_rfl⟩, trivial⟩⟩ [0, 1] (by have e1 : ((blkB h l x).f_Height : Int) = (l.getD ((x - h) - 1).toNat z_ledger_link).f_block.f_Height := (by (have hi : inL h l.length x := ⟨by omega, by omega⟩; (rw [blkB, if_pos hi]))); have e2 : ((blkB h l x).f_Prev : List UInt8) = (l.getD ((x - h) - 1).toNat z_ledger_link).f_block.f_Prev := (by (have hi : inL h l.length x := ⟨by omega, by omega⟩; (rw [blkB, if_pos hi]))); have e3 : ((blkB h l x).f_Requests : List api_Envelope) = (l.getD ((x - h) - 1).toNat z_ledger_link).f_block.f_Requests := (by (have hi : inL h l.length x := ⟨by omega, by omega⟩; (rw [blkB, if_pos hi]))); have e4 : ((blkB h l x).f_Results : List api_Result) = (l.getD ((x - h) - 1).toNat z_ledger_link).f_block.f_Results := (by (have hi : inL h l.length x := ⟨by omega, by omega⟩; (rw [blkB, if_pos hi]))); have e5 : ((blkE h l.length x) : Int) = 0 := (by (have hi : inL h l.length x := ⟨by omega, by omega⟩; (rw [blkE, if_pos hi]))); have hE := congr (congr (congr (congr (congrArg (fun (q1 : Int) (q2 : List UInt8) (q3 : List api_Envelope) (q4 : List api_Result) (q5 : Int) => (.tup [.agg [.d (.val (.int .i64 q1)), .d (.val (strV q2)), .d (dsl false false (k_api_Envelope false) q3), .d (dsl false false (k_api_Result false) q4)], .one (.d (.val (.int .i64 q5)))] : AV)) e1) e2) e3) e4) e5; exact hE) rfl rfl rfl rfl rfl ⟨⟨rfl, (by kernel_rfl)⟩, ⟨⟨rfl, (by kernel_rfl)⟩, trivial⟩⟩
end Go.Proofs.Ytdclfhahcfefeaa.Q
namespace Go.Proofs.Ytdclfhahcfefeaa.Q
open Go Go.RowKit
set_option linter.unusedVariables false
set_option linter.unusedSimpArgs false
set_option maxRecDepth 100000
set_option maxHeartbeats 4000000
theorem cells_71 : Cells Try.prog 71 2 := ⟨_, iat_71, rfl⟩
-- (*quaestor/ledger.Ledger).Cut
theorem ledger_Cut (h : Int) (d : List UInt8) (l : List ledger_link) (x : Int) (hh : 0 ≤ h ∧ h ≤ 1099511627776) (hl : l.length ≤ 100) : Holds Try.prog 24 ⟨[pv 0 0, dv (.int .i64 x)], [.box 74 [.d (.val (.int .i64 h)), .d (.val (strV d)), .d (.val (.bool true)), .own 1 (k_ledger_link false).sz 0 l.length], arrK 80 (k_ledger_link false) l], dv (.int .i64 (cutE h l.length x)), [.live (.box 74 [.d (.val (.int .i64 (cutH h l x))), .d (.val (strV (cutD h d l x))), .d (.val (.bool true)), .own 2 (k_ledger_link false).sz 0 (cutL h l x).length]), .dead, .live (arrK 80 (k_ledger_link false) (cutL h l x))]⟩ := by
  refine Holds.of Try.func24 rfl (N := 61) Try.ntmps24 rfl fun w0 B0 S0 U0 => ?_
  show T _ (mkBase 61 2 w0 S0 U0 B0) ⟨[pv 0 0, dv (.int .i64 x)], [.live (.box 74 [.d (.val (.int .i64 h)), .d (.val (strV d)), .d (.val (.bool true)), .own 1 (k_ledger_link false).sz 0 l.length]), .live (arrK 80 (k_ledger_link false) l)]⟩ _ _
  refine T.seq ?_
  refine xR [] (by kernel_rfl) (by kernel_rfl) ?_
  refine nT ?_
  refine T.seq ?_
  refine T.seq ?_
  refine xR [hY 3 (b := false) (w := false) rfl,
    hY 4 (b := false) (w := false) rfl,
    hY 5 (b := false) (w := false) rfl,
    hY 6 (b := false) (w := false) rfl,
    hY 7 (b := false) (w := false) rfl,
    hP 8 (b := false) (w := false) rfl] (by kernel_rfl) (by kernel_rfl) ?_
  refine nT ?_
  refine T.condF (b := (!true)) (by kernel_rfl) rfl ?_
  refine T.skip ?_
  refine nT ?_
  refine T.seq ?_
  refine T.seq ?_
  by_cases hq1 : x < h
  · refine xR [hN 8 false (decide_eq_true hq1),
      hN 9 false (decide_eq_true hq1),
      hN 10 false (decide_eq_true hq1),
      hN 11 false (decide_eq_true hq1),
      hP 12 (decide_eq_true hq1)] (by kernel_rfl) (by kernel_rfl) ?_
    refine nT ?_
    refine T.condT (b := true) (by kernel_rfl) rfl ?_
    refine T.seq ?_
    refine xR [] (by kernel_rfl) (by kernel_rfl) ?_
    refine nT ?_
    refine T.ret ?_
    refine rT ?_
    refine Ends.turn (s' := ⟨[pv 0 0, dv (.int .i64 x), aa, aa, dv (.int .i64 2), aa, aa, aa, aa, aa, aa, aa, aa, aa, dv (.bool (!true)), aa, aa, aa, aa, aa, aa, aa, aa, aa, aa, aa, aa, dv (.bool true)], [.live (.box 74 [.d (.val (.int .i64 h)), .d (.val (strV d)), .d (.val (.bool true)), .own 1 (k_ledger_link false).sz 0 l.length]), .live (arrK 80 (k_ledger_link false) l)]⟩) (fun _ _ hG => Gs.norm (by kernel_rfl) hG) ?_
    refine Ends.turn (s' := ⟨[pv 0 0, dv (.int .i64 x), aa, aa, dv (.int .i64 2), aa, aa, aa, aa, aa, aa, aa, aa, aa, dv (.bool (!true)), aa, aa, aa, aa, aa, aa, aa, aa, aa, aa, aa, aa, dv (.bool true)], [.live (.box 74 [.d (.val (.int .i64 h)), .d (.val (strV d)), .d (.val (.bool true)), .own 2 (k_ledger_link false).sz 0 l.length]), .dead, .live (arrK 80 (k_ledger_link false) l)]⟩) (fun _ _ hG => Gs.move (s := ⟨[pv 0 0, dv (.int .i64 x), aa, aa, dv (.int .i64 2), aa, aa, aa, aa, aa, aa, aa, aa, aa, dv (.bool (!true)), aa, aa, aa, aa, aa, aa, aa, aa, aa, aa, aa, aa, dv (.bool true)], [.live (.box 74 [.d (.val (.int .i64 h)), .d (.val (strV d)), .d (.val (.bool true)), .own 1 (k_ledger_link false).sz 0 l.length]), .live (arrK 80 (k_ledger_link false) l)]⟩) 1 2 (o := arrK 80 (k_ledger_link false) l) rfl rfl rfl ⟨(.inl rfl), ⟨(.inl rfl), ⟨(.inl rfl), ⟨(.inl rfl), ⟨(.inl rfl), ⟨(.inl rfl), ⟨(.inl rfl), ⟨(.inl rfl), ⟨(.inl rfl), ⟨(.inl rfl), ⟨(.inl rfl), ⟨(.inl rfl), ⟨(.inl rfl), ⟨(.inl rfl), ⟨(.inl rfl), ⟨(.inl rfl), ⟨(.inl rfl), ⟨(.inl rfl), ⟨(.inl rfl), ⟨(.inl rfl), ⟨(.inl rfl), ⟨(.inl rfl), ⟨(.inl rfl), ⟨(.inl rfl), ⟨(.inl rfl), ⟨(.inl rfl), ⟨(.inl rfl), ⟨(.inl rfl), trivial⟩⟩⟩⟩⟩⟩⟩⟩⟩⟩⟩⟩⟩⟩⟩⟩⟩⟩⟩⟩⟩⟩⟩⟩⟩⟩⟩⟩ ⟨(.inr (.inr ⟨by decide, by decide, (.inr ⟨rfl, ⟨(.inl rfl), ⟨(.inl rfl), ⟨(.inl rfl), ⟨(.inr rfl), trivial⟩⟩⟩⟩⟩)⟩)), ⟨(.inl ⟨rfl, rfl⟩), ⟨(.inr (.inl ⟨rfl, rfl⟩)), trivial⟩⟩⟩ hG) ?_
    exact tE (.inl rfl) [.t 4 (.one (.d (.val (.int .i64 2))))] ⟨⟨rfl, by kernel_rfl⟩, trivial⟩ [0, 1, 2] (by have e1 : ((cutE h l.length x) : Int) = 2 := (by (have hx := cut_no (h := h) (d := d) (l := l) (x := x) (by omega); exact hx.1)); have hE := congrArg (fun (q1 : Int) => (dv (.int .i64 q1) : AV)) e1; exact hE) rfl rfl rfl rfl rfl ⟨⟨rfl, (by have e1 : (h : Int) = (cutH h l x) := (by (have hx := cut_no (h := h) (d := d) (l := l) (x := x) (by omega); exact hx.2.1.symm)); have e2 : (d : List UInt8) = (cutD h d l x) := (by (have hx := cut_no (h := h) (d := d) (l := l) (x := x) (by omega); exact hx.2.2.1.symm)); have e3 : (l.length : Nat) = (cutL h l x).length := (by (have hx := cut_no (h := h) (d := d) (l := l) (x := x) (by omega); (rw [hx.2.2.2]; done))); have hE := congr (congr (congrArg (fun (q1 : Int) (q2 : List UInt8) (q3 : Nat) => (.live (.box 74 [.d (.val (.int .i64 q1)), .d (.val (strV q2)), .d (.val (.bool true)), .own 2 (k_ledger_link false).sz 0 q3]) : HS)) e1) e2) e3; exact Eq.trans (by kernel_rfl) hE)⟩, ⟨⟨rfl, (by have e1 : (l : List ledger_link) = (cutL h l x) := (by (have hx := cut_no (h := h) (d := d) (l := l) (x := x) (by omega); exact hx.2.2.2.symm)); have hE := congrArg (fun (q1 : List ledger_link) => (.live (arrK 80 (k_ledger_link false) q1) : HS)) e1; exact Eq.trans (by kernel_rfl) hE)⟩, trivial⟩⟩
  · refine xR [hY 8 (decide_eq_false hq1),
      hY 9 (decide_eq_false hq1),
      hS 10 (oY rfl rfl rfl rfl (lt_of rfl) (decide_eq_false hq1) (r_call (ledger_Height h d l (by assumption) (by assumption)) Try.func16 rfl (by decide) [0, 1] [] (l := [(.tmp 24, pv 0 0)]) [] rfl 2 2 rfl rfl rfl rfl rfl rfl rfl rfl rfl ⟨.inl ⟨rfl, rfl⟩, trivial⟩ rfl (fun b hb => by cases hb) (.inl rfl) (lt_of rfl) trivial)),
      hY 11 (decide_eq_false hq1),
      hP 12 (decide_eq_false hq1)] (by kernel_rfl) (by kernel_rfl) ?_
    refine nT ?_
    by_cases hq2 : x > (h + ((l.length : Nat) : Int))
    · refine T.condT (by kernel_rfl) (decide_eq_true hq2) ?_
      refine T.seq ?_
      refine xR [] (by kernel_rfl) (by kernel_rfl) ?_
      refine nT ?_
      refine T.ret ?_
      refine rT ?_
      refine Ends.turn (s' := ⟨[pv 0 0, dv (.int .i64 x), aa, aa, dv (.int .i64 2), aa, aa, aa, aa, aa, aa, aa, aa, aa, dv (.bool (!true)), aa, aa, aa, aa, aa, aa, aa, aa, aa, aa, aa, aa, dv (.bool (decide (x > (h + ((l.length : Nat) : Int)))))], [.live (.box 74 [.d (.val (.int .i64 h)), .d (.val (strV d)), .d (.val (.bool true)), .own 1 (k_ledger_link false).sz 0 l.length]), .live (arrK 80 (k_ledger_link false) l)]⟩) (fun _ _ hG => Gs.norm (by kernel_rfl) hG) ?_
      refine Ends.turn (s' := ⟨[pv 0 0, dv (.int .i64 x), aa, aa, dv (.int .i64 2), aa, aa, aa, aa, aa, aa, aa, aa, aa, dv (.bool (!true)), aa, aa, aa, aa, aa, aa, aa, aa, aa, aa, aa, aa, dv (.bool (decide (x > (h + ((l.length : Nat) : Int)))))], [.live (.box 74 [.d (.val (.int .i64 h)), .d (.val (strV d)), .d (.val (.bool true)), .own 2 (k_ledger_link false).sz 0 l.length]), .dead, .live (arrK 80 (k_ledger_link false) l)]⟩) (fun _ _ hG => Gs.move (s := ⟨[pv 0 0, dv (.int .i64 x), aa, aa, dv (.int .i64 2), aa, aa, aa, aa, aa, aa, aa, aa, aa, dv (.bool (!true)), aa, aa, aa, aa, aa, aa, aa, aa, aa, aa, aa, aa, dv (.bool (decide (x > (h + ((l.length : Nat) : Int)))))], [.live (.box 74 [.d (.val (.int .i64 h)), .d (.val (strV d)), .d (.val (.bool true)), .own 1 (k_ledger_link false).sz 0 l.length]), .live (arrK 80 (k_ledger_link false) l)]⟩) 1 2 (o := arrK 80 (k_ledger_link false) l) rfl rfl rfl ⟨(.inl rfl), ⟨(.inl rfl), ⟨(.inl rfl), ⟨(.inl rfl), ⟨(.inl rfl), ⟨(.inl rfl), ⟨(.inl rfl), ⟨(.inl rfl), ⟨(.inl rfl), ⟨(.inl rfl), ⟨(.inl rfl), ⟨(.inl rfl), ⟨(.inl rfl), ⟨(.inl rfl), ⟨(.inl rfl), ⟨(.inl rfl), ⟨(.inl rfl), ⟨(.inl rfl), ⟨(.inl rfl), ⟨(.inl rfl), ⟨(.inl rfl), ⟨(.inl rfl), ⟨(.inl rfl), ⟨(.inl rfl), ⟨(.inl rfl), ⟨(.inl rfl), ⟨(.inl rfl), ⟨(.inl rfl), trivial⟩⟩⟩⟩⟩⟩⟩⟩⟩⟩⟩⟩⟩⟩⟩⟩⟩⟩⟩⟩⟩⟩⟩⟩⟩⟩⟩⟩ ⟨(.inr (.inr ⟨by decide, by decide, (.inr ⟨rfl, ⟨(.inl rfl), ⟨(.inl rfl), ⟨(.inl rfl), ⟨(.inr rfl), trivial⟩⟩⟩⟩⟩)⟩)), ⟨(.inl ⟨rfl, rfl⟩), ⟨(.inr (.inl ⟨rfl, rfl⟩)), trivial⟩⟩⟩ hG) ?_
      exact tE (.inl rfl) [.t 4 (.one (.d (.val (.int .i64 2))))] ⟨⟨rfl, by kernel_rfl⟩, trivial⟩ [0, 1, 2] (by have e1 : ((cutE h l.length x) : Int) = 2 := (by (have hx := cut_no (h := h) (d := d) (l := l) (x := x) (by omega); exact hx.1)); have hE := congrArg (fun (q1 : Int) => (dv (.int .i64 q1) : AV)) e1; exact hE) rfl rfl rfl rfl rfl ⟨⟨rfl, (by have e1 : (h : Int) = (cutH h l x) := (by (have hx := cut_no (h := h) (d := d) (l := l) (x := x) (by omega); exact hx.2.1.symm)); have e2 : (d : List UInt8) = (cutD h d l x) := (by (have hx := cut_no (h := h) (d := d) (l := l) (x := x) (by omega); exact hx.2.2.1.symm)); have e3 : (l.length : Nat) = (cutL h l x).length := (by (have hx := cut_no (h := h) (d := d) (l := l) (x := x) (by omega); (rw [hx.2.2.2]; done))); have hE := congr (congr (congrArg (fun (q1 : Int) (q2 : List UInt8) (q3 : Nat) => (.live (.box 74 [.d (.val (.int .i64 q1)), .d (.val (strV q2)), .d (.val (.bool true)), .own 2 (k_ledger_link false).sz 0 q3]) : HS)) e1) e2) e3; exact Eq.trans (by kernel_rfl) hE)⟩, ⟨⟨rfl, (by have e1 : (l : List ledger_link) = (cutL h l x) := (by (have hx := cut_no (h := h) (d := d) (l := l) (x := x) (by omega); exact hx.2.2.2.symm)); have hE := congrArg (fun (q1 : List ledger_link) => (.live (arrK 80 (k_ledger_link false) q1) : HS)) e1; exact Eq.trans (by kernel_rfl) hE)⟩, trivial⟩⟩
    · refine T.condF (by kernel_rfl) (decide_eq_false hq2) ?_
      refine T.skip ?_
      refine nT ?_
      refine T.seq ?_
      refine T.seq ?_
      refine xR [hR 6 rfl rfl (r_bin (u1 := .int .i64 x) (u2 := .int .i64 h) (v := .int .i64 (x - h)) (b_sub (by rw [IntKind.wrap_i64]; omega)) (lt_of rfl) trivial)] (by kernel_rfl) (by kernel_rfl) ?_
      refine nT ?_
      refine T.seq ?_
      refine xR [] (by kernel_rfl) (by kernel_rfl) ?_
      refine nT ?_
      by_cases hq3 : (x - h) > 0
      · refine T.condT (by kernel_rfl) (decide_eq_true hq3) ?_
        refine T.seq ?_
        refine xR [hR 7 rfl rfl (r_bin (u1 := .int .i64 (x - h)) (u2 := .int .i64 1) (v := .int .i64 ((x - h) - 1)) (b_sub (by rw [IntKind.wrap_i64]; omega)) (lt_of rfl) ⟨rfl, trivial⟩),
          hR 8 rfl rfl (r_indexO (k := .i64) (l := 1) (sz := (k_ledger_link false).sz) (off := 0) (n := l.length) (i := ((x - h) - 1)) (m := ((x - h) - 1).toNat) (o' := ((x - h) - 1).toNat * (k_ledger_link false).sz + 0) Try.underlying72 iat_80 rfl (by omega) (by omega) (by simp) (lt_of rfl) trivial),
          hR 10 rfl rfl (r_loadA (l := 1) (off := ((x - h) - 1).toNat * (k_ledger_link false).sz + 4) (i := ((x - h) - 1).toNat) (j := 4) (T := 80) (sz := (k_ledger_link false).sz) (n := l.length) (el := elOf (k_ledger_link false) l) (c := .val (strV (l.getD ((x - h) - 1).toNat z_ledger_link).f_digest)) wide_29 rfl (by omega) (by decide) rfl (lt_of rfl) trivial)] (by kernel_rfl) (by kernel_rfl) ?_
        refine nT ?_
        refine xR [hR 6 rfl rfl (r_sliceO (lo0 := 1) (sz := (k_ledger_link false).sz) (off := 0) (n := l.length) (l := (x - h).toNat) (h := l.length) (off' := (x - h).toNat) (n' := (l.length - (x - h).toNat)) (lo := some (.tmp 56, x - h)) (hi := none) Try.underlying72 iat_80 rfl rfl rfl (by omega) rfl (by omega) (by omega) (by omega) (by omega) (lt_of rfl) trivial),
          hR 7 rfl rfl (r_call (clone_link true false ((l.take ((x - h).toNat + l.length - (x - h).toNat)).drop (x - h).toNat) (by (simp [maxLen, -List.getD_eq_getElem?_getD] <;> omega))) Try.func45 rfl (by decide) [2] [1] (l := [(.tmp 57, ownV 1 (k_ledger_link false) (x - h).toNat (l.length - (x - h).toNat))]) [(1, .live (arrK 80 (k_ledger_link false) l))] rfl 0 1 rfl rfl rfl rfl rfl rfl rfl rfl rfl ⟨.inr (.inl ⟨rfl, (fun h => by cases h), rfl, (by simp only [List.length_drop, List.length_take]; omega), by simp, 80, l.length, elOf (k_ledger_link false) l, List.Mem.head _, by omega, fun i j => elOf_part (K := (k_ledger_link false)) (l := l) (o := (x - h).toNat) (b := (x - h).toNat + l.length - (x - h).toNat) (by omega) i j⟩), trivial⟩ rfl (by intro b hb; simp only [List.mem_cons, List.not_mem_nil, or_false] at hb; rcases hb with rfl; exact ⟨_, List.Mem.head _⟩) (.inr ⟨trivial, (And.intro (arr_nt k_ledger_link_nt) trivial)⟩) (lt_of rfl) trivial)] (by kernel_rfl) (by kernel_rfl) ?_
        refine nT ?_
        refine T.seq ?_
        refine xR [] (by kernel_rfl) (by kernel_rfl) ?_
        refine nT ?_
        refine T.ret ?_
        exact tE (.inl rfl) [.t 4 (.one (.d (.val (.int .i64 0))))] ⟨⟨rfl, by kernel_rfl⟩, trivial⟩ [0, 1, 2] (by have e1 : ((cutE h l.length x) : Int) = 0 := (by (have hx := cut_1 (h := h) (d := d) (l := l) (x := x) (by omega) (by omega); exact hx.1)); have hE := congrArg (fun (q1 : Int) => (dv (.int .i64 q1) : AV)) e1; exact hE) rfl rfl rfl rfl rfl ⟨⟨rfl, (by have e1 : (x : Int) = (cutH h l x) := (by (have hx := cut_1 (h := h) (d := d) (l := l) (x := x) (by omega) (by omega); exact hx.2.1.symm)); have e2 : ((l.getD ((x - h) - 1).toNat z_ledger_link).f_digest : List UInt8) = (cutD h d l x) := (by (have hx := cut_1 (h := h) (d := d) (l := l) (x := x) (by omega) (by omega); exact hx.2.2.1.symm)); have e3 : (((l.take ((x - h).toNat + l.length - (x - h).toNat)).drop (x - h).toNat).length : Nat) = (cutL h l x).length := (by (have hx := cut_1 (h := h) (d := d) (l := l) (x := x) (by omega) (by omega); (rw [hx.2.2.2]; (rw [List.take_of_length_le (by omega)])))); have hE := congr (congr (congrArg (fun (q1 : Int) (q2 : List UInt8) (q3 : Nat) => (.live (.box 74 [.d (.val (.int .i64 q1)), .d (.val (strV q2)), .d (.val (.bool true)), .own 2 (k_ledger_link false).sz 0 q3]) : HS)) e1) e2) e3; exact Eq.trans (by kernel_rfl) hE)⟩, ⟨⟨rfl, (by have e1 : (((l.take ((x - h).toNat + l.length - (x - h).toNat)).drop (x - h).toNat) : List ledger_link) = (cutL h l x) := (by (have hx := cut_1 (h := h) (d := d) (l := l) (x := x) (by omega) (by omega); (rw [hx.2.2.2]; (rw [List.take_of_length_le (by omega)])))); have hE := congrArg (fun (q1 : List ledger_link) => (.live (arrK 80 (k_ledger_link false) q1) : HS)) e1; exact Eq.trans (by kernel_rfl) hE)⟩, trivial⟩⟩
      · refine T.condF (by kernel_rfl) (decide_eq_false hq3) ?_
        refine T.skip ?_
        refine nT ?_
        refine T.seq ?_
        refine xR [] (by kernel_rfl) (by kernel_rfl) ?_
        refine nT ?_
        refine T.ret ?_
        refine Ends.turn (s' := ⟨[pv 0 0, dv (.int .i64 x), aa, aa, dv (.int .i64 0), dv (.int .i64 (x - h)), aa, aa, aa, aa, aa, aa, aa, aa, dv (.bool (!true)), aa, aa, aa, aa, aa, aa, aa, aa, aa, aa, aa, aa, dv (.bool (decide (x > (h + ((l.length : Nat) : Int))))), aa, aa, aa, aa, aa, aa, aa, aa, dv (.bool (decide ((x - h) > 0)))], [.live (.box 74 [.d (.val (.int .i64 h)), .d (.val (strV d)), .d (.val (.bool true)), .own 1 (k_ledger_link false).sz 0 l.length]), .live (arrK 80 (k_ledger_link false) l)]⟩) (fun _ _ hG => Gs.norm (by kernel_rfl) hG) ?_
        refine Ends.turn (s' := ⟨[pv 0 0, dv (.int .i64 x), aa, aa, dv (.int .i64 0), dv (.int .i64 (x - h)), aa, aa, aa, aa, aa, aa, aa, aa, dv (.bool (!true)), aa, aa, aa, aa, aa, aa, aa, aa, aa, aa, aa, aa, dv (.bool (decide (x > (h + ((l.length : Nat) : Int))))), aa, aa, aa, aa, aa, aa, aa, aa, dv (.bool (decide ((x - h) > 0)))], [.live (.box 74 [.d (.val (.int .i64 h)), .d (.val (strV d)), .d (.val (.bool true)), .own 2 (k_ledger_link false).sz 0 l.length]), .dead, .live (arrK 80 (k_ledger_link false) l)]⟩) (fun _ _ hG => Gs.move (s := ⟨[pv 0 0, dv (.int .i64 x), aa, aa, dv (.int .i64 0), dv (.int .i64 (x - h)), aa, aa, aa, aa, aa, aa, aa, aa, dv (.bool (!true)), aa, aa, aa, aa, aa, aa, aa, aa, aa, aa, aa, aa, dv (.bool (decide (x > (h + ((l.length : Nat) : Int))))), aa, aa, aa, aa, aa, aa, aa, aa, dv (.bool (decide ((x - h) > 0)))], [.live (.box 74 [.d (.val (.int .i64 h)), .d (.val (strV d)), .d (.val (.bool true)), .own 1 (k_ledger_link false).sz 0 l.length]), .live (arrK 80 (k_ledger_link false) l)]⟩) 1 2 (o := arrK 80 (k_ledger_link false) l) rfl rfl rfl ⟨(.inl rfl), ⟨(.inl rfl), ⟨(.inl rfl), ⟨(.inl rfl), ⟨(.inl rfl), ⟨(.inl rfl), ⟨(.inl rfl), ⟨(.inl rfl), ⟨(.inl rfl), ⟨(.inl rfl), ⟨(.inl rfl), ⟨(.inl rfl), ⟨(.inl rfl), ⟨(.inl rfl), ⟨(.inl rfl), ⟨(.inl rfl), ⟨(.inl rfl), ⟨(.inl rfl), ⟨(.inl rfl), ⟨(.inl rfl), ⟨(.inl rfl), ⟨(.inl rfl), ⟨(.inl rfl), ⟨(.inl rfl), ⟨(.inl rfl), ⟨(.inl rfl), ⟨(.inl rfl), ⟨(.inl rfl), ⟨(.inl rfl), ⟨(.inl rfl), ⟨(.inl rfl), ⟨(.inl rfl), ⟨(.inl rfl), ⟨(.inl rfl), ⟨(.inl rfl), ⟨(.inl rfl), ⟨(.inl rfl), trivial⟩⟩⟩⟩⟩⟩⟩⟩⟩⟩⟩⟩⟩⟩⟩⟩⟩⟩⟩⟩⟩⟩⟩⟩⟩⟩⟩⟩⟩⟩⟩⟩⟩⟩⟩⟩⟩ ⟨(.inr (.inr ⟨by decide, by decide, (.inr ⟨rfl, ⟨(.inl rfl), ⟨(.inl rfl), ⟨(.inl rfl), ⟨(.inr rfl), trivial⟩⟩⟩⟩⟩)⟩)), ⟨(.inl ⟨rfl, rfl⟩), ⟨(.inr (.inl ⟨rfl, rfl⟩)), trivial⟩⟩⟩ hG) ?_
        exact tE (.inl rfl) [.t 4 (.one (.d (.val (.int .i64 0))))] ⟨⟨rfl, by kernel_rfl⟩, trivial⟩ [0, 1, 2] (by have e1 : ((cutE h l.length x) : Int) = 0 := (by (have hx := cut_0 (h := h) (d := d) (l := l) (x := x) (by omega) (by omega); exact hx.1)); have hE := congrArg (fun (q1 : Int) => (dv (.int .i64 q1) : AV)) e1; exact hE) rfl rfl rfl rfl rfl ⟨⟨rfl, (by have e1 : (h : Int) = (cutH h l x) := (by (have hx := cut_0 (h := h) (d := d) (l := l) (x := x) (by omega) (by omega); exact hx.2.1.symm)); have e2 : (d : List UInt8) = (cutD h d l x) := (by (have hx := cut_0 (h := h) (d := d) (l := l) (x := x) (by omega) (by omega); exact hx.2.2.1.symm)); have e3 : (l.length : Nat) = (cutL h l x).length := (by (have hx := cut_0 (h := h) (d := d) (l := l) (x := x) (by omega) (by omega); (rw [hx.2.2.2]; done))); have hE := congr (congr (congrArg (fun (q1 : Int) (q2 : List UInt8) (q3 : Nat) => (.live (.box 74 [.d (.val (.int .i64 q1)), .d (.val (strV q2)), .d (.val (.bool true)), .own 2 (k_ledger_link false).sz 0 q3]) : HS)) e1) e2) e3; exact Eq.trans (by kernel_rfl) hE)⟩, ⟨⟨rfl, (by have e1 : (l : List ledger_link) = (cutL h l x) := (by (have hx := cut_0 (h := h) (d := d) (l := l) (x := x) (by omega) (by omega); exact hx.2.2.2.symm)); have hE := congrArg (fun (q1 : List ledger_link) => (.live (arrK 80 (k_ledger_link false) q1) : HS)) e1; exact Eq.trans (by kernel_rfl) hE)⟩, trivial⟩⟩
end Go.Proofs.Ytdclfhahcfefeaa.Q
namespace Go.Proofs.Ytdclfhahcfefeaa.Q
open Go Go.RowKit
set_option linter.unusedVariables false
set_option linter.unusedSimpArgs false
set_option maxRecDepth 100000
set_option maxHeartbeats 4000000
theorem places_78 : Places Try.prog 78 [(0, 1), (1, 1)] := ⟨_, Try.underlying78, ⟨⟨rfl, _, iat_3, rfl⟩, ⟨⟨rfl, _, iat_58, rfl⟩, trivial⟩⟩⟩
-- quaestor/quaestorref03.Twin
theorem ref03_Twin (ta : Bool) (na : Bool) (a : List api_Envelope) (hf : fewG szE 20 500 a) : Holds Try.prog 83 ⟨[slV ta na (k_api_Envelope false) a], [], ownV 0 (k_api_Envelope false) 0 a.length, [.live (arrK 78 (k_api_Envelope false) a)]⟩ := by
  refine Holds.of Try.func83 rfl (N := 28) Try.ntmps83 rfl fun w0 B0 S0 U0 => ?_
  show T _ (mkBase 28 0 w0 S0 U0 B0) ⟨[slV ta na (k_api_Envelope false) a], []⟩ _ _
  refine T.seq ?_
  refine xR [] (by kernel_rfl) (by kernel_rfl) ?_
  refine nT ?_
  refine T.seq ?_
  refine xR [] (by kernel_rfl) (by kernel_rfl) ?_
  refine nT ?_
  refine T.seq ?_
  refine T.seq ?_
  refine xR [] (by kernel_rfl) (by kernel_rfl) ?_
  refine nT ?_
  refine T.block ?_
  refine T.turn (s' := ⟨[slV ta na (k_api_Envelope false) a, aa, dv (.slice none 0 0), dv (.slice none 0 0), dv (.int .i64 0)], []⟩) (fun _ _ hG => Gs.norm (by kernel_rfl) hG) ?_
  refine T.turn (s' := ⟨[slV ta na (k_api_Envelope false) a, aa, dv (.slice none 0 0), ownV 0 (k_api_Envelope false) 0 0, dv (.int .i64 0)], [.live (arrK 78 (k_api_Envelope false) ([] : List api_Envelope))]⟩) (fun _ _ hG => Gs.absent 0 3 78 (k_api_Envelope false) rfl rfl hG) ?_
  refine T.loop (ι := Nat) (fun (k : Nat) => ⟨[slV ta na (k_api_Envelope false) a, aa, aa, ownV 0 (k_api_Envelope false) 0 (a.take k).length, dv (.int .i64 ((k : Nat) : Int))], [.live (arrK 78 (k_api_Envelope false) (a.take k))]⟩) (fun (k : Nat) => (k ≤ a.length)) (fun (k : Nat) => a.length - k) (0) (Nat.zero_le _) (fun _ _ hG => Gs.into2 (s' := ⟨[slV ta na (k_api_Envelope false) a, aa, aa, ownV 0 (k_api_Envelope false) 0 (a.take 0).length, dv (.int .i64 0)], [.live (arrK 78 (k_api_Envelope false) (a.take 0))]⟩) [0] (bm 5 25) (t1 := [slV ta na (k_api_Envelope false) a, aa, aa, ownV 0 (k_api_Envelope false) 0 (a.take 0).length, dv (.int .i64 0)]) (t2 := [slV ta na (k_api_Envelope false) a, aa, aa, ownV 0 (k_api_Envelope false) 0 0, dv (.int .i64 0)]) (h1 := [.live (arrK 78 (k_api_Envelope false) (a.take 0))]) (h2 := [.live (arrK 78 (k_api_Envelope false) ([] : List api_Envelope))]) (by have e1 : ((a.take 0).length : Nat) = 0 := (by rfl); have hE := congrArg (fun (q1 : Nat) => ([slV ta na (k_api_Envelope false) a, aa, aa, ownV 0 (k_api_Envelope false) 0 q1, dv (.int .i64 0)] : List AV)) e1; exact hE) (by have e1 : ((a.take 0) : List api_Envelope) = ([] : List api_Envelope) := (by rfl); have hE := congrArg (fun (q1 : List api_Envelope) => ([.live (arrK 78 (k_api_Envelope false) q1)] : List HS)) e1; exact hE) (by kernel_rfl) (by kernel_rfl) (by kernel_rfl) (by kernel_rfl) (by kernel_rfl) (by kernel_rfl) (by kernel_rfl) (by kernel_rfl) (by kernel_rfl) (by kernel_rfl) (by kernel_rfl) hG) ?_
  rintro k hk
  show T _ _ ⟨[slV ta na (k_api_Envelope false) a, aa, aa, ownV 0 (k_api_Envelope false) 0 (a.take k).length, dv (.int .i64 ((k : Nat) : Int))], [.live (arrK 78 (k_api_Envelope false) (a.take k))]⟩ _ _
  replace hk : k ≤ a.length := hk
  have ha1 := hf.1
  have hbk : (a.getD k z_api_Envelope).f_Body.length ≤ 500 := fewG_get (sz := szE) hf (by decide) k
  refine T.seq ?_
  refine T.seq ?_
  refine xR [] (by kernel_rfl) (by kernel_rfl) ?_
  refine nT ?_
  by_cases hq1 : ((k : Nat) : Int) < ((a.length : Nat) : Int)
  · refine T.condT (by kernel_rfl) (decide_eq_true hq1) ?_
    refine T.skip ?_
    refine nT ?_
    refine T.seq ?_
    refine T.block ?_
    refine xD [[], [], [], [1, 2], [1, 2, 3], [1, 2, 3, 4], [], [], [], [7, 8], [7, 8, 9], [7, 8, 9, 10], [6, 7, 8, 9, 10, 11], [1, 2, 3, 4, 5, 6, 7, 8, 9, 10, 11, 12], [1, 2, 3, 4, 5, 6, 7, 8, 9, 10, 11, 12, 13], [0, 1, 2, 3, 4, 5, 6, 7, 8, 9, 10, 11, 12, 13, 14], [0, 1, 2, 3, 4, 5, 6, 7, 8, 9, 10, 11, 12, 13, 14, 15]] [hR 3 rfl rfl (q_index ta na (k_api_Envelope false) a k (k := .i64) (i := ((k : Nat) : Int)) Try.underlying30 iat_78 rfl rfl (by omega) (lt_of rfl) trivial),
      hR 6 rfl rfl (q_buildSlice 1 5 kU8 kU8_ok ([] : List UInt8) [] (cs := []) Try.underlying58 iat_5 rfl zero_5 rfl rfl rfl (Nat.le_of_ble_eq_true rfl) part_ok rfl trivial (lt_of rfl) trivial),
      hR 9 rfl rfl (q_index ta na (k_api_Envelope false) a k (k := .i64) (i := ((k : Nat) : Int)) Try.underlying30 iat_78 rfl rfl (by omega) (lt_of rfl) trivial),
      hR 12 rfl rfl (q_appendO 1 2 5 1 kU8 kU8_ok ([] : List UInt8) (a.getD k z_api_Envelope).f_Body (a.getD k z_api_Envelope).f_Body ([] : List UInt8).length (sy := (.d (dsl false false kU8 (a.getD k z_api_Envelope).f_Body))) (rhs := []) elem_58 (by omega) (src_sl false false kU8 (a.getD k z_api_Envelope).f_Body) (by simp) (by (simp [maxLen, -List.getD_eq_getElem?_getD] <;> omega)) (by (simp [maxLen, -List.getD_eq_getElem?_getD] <;> omega)) (lt_of rfl) trivial),
      hR 14 rfl rfl (ORule.frz 0 24 2 5 kU8 (a.getD k z_api_Envelope).f_Body (av := .tv (.agg [.d (.val (.int .i64 (a.getD k z_api_Envelope).f_Signer)), .own 2 kU8.sz 0 (a.getD k z_api_Envelope).f_Body.length])) (q_buildSlice 3 78 (k_api_Envelope false) (k_api_Envelope_ok false) [(a.getD k z_api_Envelope)] [⟨0, .tmp 24, .agg [.d (.val (.int .i64 (a.getD k z_api_Envelope).f_Signer)), .d (dsl false false kU8 (a.getD k z_api_Envelope).f_Body)], 0⟩] (cs := [.d (.val (.int .i64 (a.getD k z_api_Envelope).f_Signer)), .d (dsl false false kU8 (a.getD k z_api_Envelope).f_Body)]) Try.underlying30 iat_78 rfl zero_78 rfl rfl rfl (Nat.le_of_ble_eq_true rfl) (part_cons rfl rfl (Nat.le_of_ble_eq_true rfl) part_ok) rfl ⟨(.inl rfl), ⟨(.inl rfl), trivial⟩⟩ (lt_of rfl) trivial) rfl (.inr ⟨(.inl rfl), ⟨(.inr ⟨rfl, rfl, rfl, (fun h => by cases h), rfl, rfl, by omega, fun i j _ => by rw [Nat.zero_add]⟩), trivial⟩⟩) (by intro h; cases h) rfl rfl),
      hR 15 rfl rfl (q_appendO 0 4 78 32 (k_api_Envelope false) (k_api_Envelope_ok false) (a.take k) [(a.getD k z_api_Envelope)] ((a.take k) ++ [(a.getD k z_api_Envelope)]) (a.take k).length (sy := (.own 3 (k_api_Envelope false).sz 0 [(a.getD k z_api_Envelope)].length)) (rhs := [(3, .live (arrK 78 (k_api_Envelope false) [(a.getD k z_api_Envelope)]))]) elem_30 (by omega) (src_own 3 78 (k_api_Envelope false) [(a.getD k z_api_Envelope)]) (by rw [List.take_length]) (by (simp [maxLen, -List.getD_eq_getElem?_getD] <;> omega)) (by (simp [maxLen, -List.getD_eq_getElem?_getD] <;> omega)) (lt_of rfl) trivial)] (by kernel_rfl) (by kernel_rfl) (by kernel_rfl) (by kernel_rfl) (by kernel_rfl) (by kernel_rfl) ?_
    refine nB ?_
    refine nT ?_
    refine xR [hR 1 rfl rfl (r_bin (u1 := .int .i64 ((k : Nat) : Int)) (u2 := .int .i64 1) (v := .int .i64 ((k + 1 : Nat) : Int)) (b_add (by rw [IntKind.wrap_i64]; omega)) (lt_of rfl) ⟨rfl, trivial⟩)] (by kernel_rfl) (by kernel_rfl) ?_
    refine nL (k + 1) (show (k + 1) ≤ a.length from (by omega)) (show (a.length - (k + 1) : Nat) < a.length - k from (by omega)) (fun _ _ hG => Gs.into2 (s' := ⟨[slV ta na (k_api_Envelope false) a, aa, aa, ownV 0 (k_api_Envelope false) 0 (a.take (k + 1)).length, dv (.int .i64 ((k + 1 : Nat) : Int))], [.live (arrK 78 (k_api_Envelope false) (a.take (k + 1)))]⟩) [4] (bm 5 25) (t1 := [slV ta na (k_api_Envelope false) a, aa, aa, ownV 4 (k_api_Envelope false) 0 (a.take (k + 1)).length, dv (.int .i64 ((k + 1 : Nat) : Int))]) (t2 := [slV ta na (k_api_Envelope false) a, aa, aa, ownV 4 (k_api_Envelope false) 0 ((a.take k) ++ [(a.getD k z_api_Envelope)]).length, dv (.int .i64 ((k + 1 : Nat) : Int))]) (h1 := [.live (arrK 78 (k_api_Envelope false) (a.take (k + 1)))]) (h2 := [.live (arrK 78 (k_api_Envelope false) ((a.take k) ++ [(a.getD k z_api_Envelope)]))]) (by have e1 : ((a.take (k + 1)).length : Nat) = ((a.take k) ++ [(a.getD k z_api_Envelope)]).length := (by (rw [tk_succ (z := z_api_Envelope) (by omega)])); have hE := congrArg (fun (q1 : Nat) => ([slV ta na (k_api_Envelope false) a, aa, aa, ownV 4 (k_api_Envelope false) 0 q1, dv (.int .i64 ((k + 1 : Nat) : Int))] : List AV)) e1; exact hE) (by have e1 : ((a.take (k + 1)) : List api_Envelope) = (a.take k) ++ [(a.getD k z_api_Envelope)] := (by (rw [tk_succ (z := z_api_Envelope) (by omega)])); have hE := congrArg (fun (q1 : List api_Envelope) => ([.live (arrK 78 (k_api_Envelope false) q1)] : List HS)) e1; exact hE) (by kernel_rfl) (by kernel_rfl) (by kernel_rfl) (by kernel_rfl) (by kernel_rfl) (by kernel_rfl) (by kernel_rfl) (by kernel_rfl) (by kernel_rfl) (by kernel_rfl) (by kernel_rfl) hG)
  · refine T.condF (by kernel_rfl) (decide_eq_false hq1) ?_
    refine T.exit ?_
    refine xT ?_
    refine xT ?_
    refine xH ?_
    refine nT ?_
    refine T.seq ?_
    refine xR [] (by kernel_rfl) (by kernel_rfl) ?_
    refine nT ?_
    refine T.ret ?_
    exact tE (.inl rfl) [.t 2 (.one (.own 0 (k_api_Envelope false).sz 0 (a.take k).length))] ⟨⟨rfl, by kernel_rfl⟩, trivial⟩ [0] (by have e1 : (a.length : Nat) = (a.take k).length := (by (rw [List.take_of_length_le (by omega)])); have hE := congrArg (fun (q1 : Nat) => (ownV 0 (k_api_Envelope false) 0 q1 : AV)) e1; exact hE) rfl rfl rfl rfl rfl ⟨⟨rfl, (by have e1 : ((a.take k) : List api_Envelope) = a := (by (rw [List.take_of_length_le (by omega)])); have hE := congrArg (fun (q1 : List api_Envelope) => (.live (arrK 78 (k_api_Envelope false) q1) : HS)) e1; exact Eq.trans (by kernel_rfl) hE)⟩, trivial⟩
end Go.Proofs.Ytdclfhahcfefeaa.Q
namespace Go.Proofs.Ytdclfhahcfefeaa.Q
open Go Go.RowKit
set_option linter.unusedVariables false
set_option linter.unusedSimpArgs false
set_option maxRecDepth 100000
set_option maxHeartbeats 4000000
-- quaestor/quaestorref11.twin
theorem ref11_twin (b : api_Block) (hf : fewB b) : Holds Try.prog 64 ⟨[.tv (.agg [.d (.val (.int .i64 b.f_Height)), .d (.val (strV b.f_Prev)), .d (dsl false false (k_api_Envelope false) b.f_Requests), .d (dsl false false (k_api_Result false) b.f_Results)])], [], .tv (.agg [.d (.val (.int .i64 b.f_Height)), .d (.val (strV b.f_Prev)), .d (dsl false false (k_api_Envelope false) b.f_Requests), .d (dsl false false (k_api_Result false) b.f_Results)]), []⟩ := by
  refine Holds.of Try.func64 rfl (N := 13) Try.ntmps64 rfl fun w0 B0 S0 U0 => ?_
  show T _ (mkBase 13 0 w0 S0 U0 B0) ⟨[.tv (.agg [.d (.val (.int .i64 b.f_Height)), .d (.val (strV b.f_Prev)), .d (dsl false false (k_api_Envelope false) b.f_Requests), .d (dsl false false (k_api_Result false) b.f_Results)])], []⟩ _ _
  have hf1 := hf.1.1
  have hf2 := hf.2.1
  have hf3 := hf.2.2
  refine T.seq ?_
  refine xR [] (by kernel_rfl) (by kernel_rfl) ?_
  refine nT ?_
  refine T.seq ?_
  refine xR [hR 2 rfl rfl (r_call (ref03_Twin false false b.f_Requests (by exact hf.1)) Try.func83 rfl (by decide) [2] [] (l := [(.tmp 4, slV false false (k_api_Envelope false) b.f_Requests)]) [] rfl 0 1 rfl rfl rfl rfl rfl rfl rfl rfl rfl ⟨.inl ⟨rfl, rfl⟩, trivial⟩ rfl (fun b hb => by cases hb) (.inl rfl) (lt_of rfl) trivial)] (by kernel_rfl) (by kernel_rfl) ?_
  refine nT ?_
  refine T.seq ?_
  refine xR [hR 0 rfl rfl (q_buildSlice 3 88 (k_api_Result false) (k_api_Result_ok false) ([] : List api_Result) [] (cs := []) Try.underlying31 iat_88 rfl zero_88 rfl rfl rfl (Nat.le_of_ble_eq_true rfl) part_ok rfl trivial (lt_of rfl) trivial),
    hR 3 rfl rfl (q_appendO 3 4 88 16 (k_api_Result false) (k_api_Result_ok false) ([] : List api_Result) b.f_Results b.f_Results ([] : List api_Result).length (sy := (.d (dsl false false (k_api_Result false) b.f_Results))) (rhs := []) elem_31 (by omega) (src_sl false false (k_api_Result false) b.f_Results) (by simp) (by (simp [maxLen, -List.getD_eq_getElem?_getD] <;> omega)) (by (simp [maxLen, -List.getD_eq_getElem?_getD] <;> omega)) (lt_of rfl) trivial)] (by kernel_rfl) (by kernel_rfl) ?_
  refine nT ?_
  refine T.seq ?_
  refine xR [] (by kernel_rfl) (by kernel_rfl) ?_
  refine nT ?_
  refine T.ret ?_
  refine Ends.turn (s' := ⟨[.tv (.agg [.d (.val (.int .i64 b.f_Height)), .d (.val (strV b.f_Prev)), .d (dsl false false (k_api_Envelope false) b.f_Requests), .d (dsl false false (k_api_Result false) b.f_Results)]), pv 0 0, pv 1 0], [.live (.box 33 [.d (.val (.int .i64 b.f_Height)), .d (.val (strV b.f_Prev)), .own 2 (k_api_Envelope false).sz 0 b.f_Requests.length, .own 4 (k_api_Result false).sz 0 b.f_Results.length]), .live (.box 33 [.d (.val (.int .i64 b.f_Height)), .d (.val (strV b.f_Prev)), .own 2 (k_api_Envelope false).sz 0 b.f_Requests.length, .own 4 (k_api_Result false).sz 0 b.f_Results.length]), .live (arrK 78 (k_api_Envelope false) b.f_Requests), .dead, .live (arrK 88 (k_api_Result false) b.f_Results)]⟩) (fun _ _ hG => Gs.norm (by kernel_rfl) hG) ?_
  refine Ends.turn (s' := ⟨[.tv (.agg [.d (.val (.int .i64 b.f_Height)), .d (.val (strV b.f_Prev)), .d (dsl false false (k_api_Envelope false) b.f_Requests), .d (dsl false false (k_api_Result false) b.f_Results)]), pv 0 0, pv 1 0], [.live (.box 33 [.d (.val (.int .i64 b.f_Height)), .d (.val (strV b.f_Prev)), .d (dsl false false (k_api_Envelope false) b.f_Requests), .own 4 (k_api_Result false).sz 0 b.f_Results.length]), .live (.box 33 [.d (.val (.int .i64 b.f_Height)), .d (.val (strV b.f_Prev)), .d (dsl false false (k_api_Envelope false) b.f_Requests), .own 4 (k_api_Result false).sz 0 b.f_Results.length]), .dead, .dead, .live (arrK 88 (k_api_Result false) b.f_Results)]⟩) (fun _ _ hG => Gs.freeze (s := ⟨[.tv (.agg [.d (.val (.int .i64 b.f_Height)), .d (.val (strV b.f_Prev)), .d (dsl false false (k_api_Envelope false) b.f_Requests), .d (dsl false false (k_api_Result false) b.f_Results)]), pv 0 0, pv 1 0], [.live (.box 33 [.d (.val (.int .i64 b.f_Height)), .d (.val (strV b.f_Prev)), .own 2 (k_api_Envelope false).sz 0 b.f_Requests.length, .own 4 (k_api_Result false).sz 0 b.f_Results.length]), .live (.box 33 [.d (.val (.int .i64 b.f_Height)), .d (.val (strV b.f_Prev)), .own 2 (k_api_Envelope false).sz 0 b.f_Requests.length, .own 4 (k_api_Result false).sz 0 b.f_Results.length]), .live (arrK 78 (k_api_Envelope false) b.f_Requests), .dead, .live (arrK 88 (k_api_Result false) b.f_Results)]⟩) 2 (el := elOf (k_api_Envelope false) b.f_Requests) (sz := (k_api_Envelope false).sz) (n := b.f_Requests.length) rfl ⟨(.inl rfl), ⟨(.inl rfl), ⟨(.inl rfl), trivial⟩⟩⟩ ⟨(.inr ⟨by decide, .inr ⟨rfl, ⟨(.inl rfl), ⟨(.inl rfl), ⟨(.inr ⟨rfl, rfl, rfl, (fun h => by cases h), rfl, rfl, by omega, fun i j _ => by rw [Nat.zero_add]⟩), ⟨(.inl rfl), trivial⟩⟩⟩⟩⟩⟩), ⟨(.inr ⟨by decide, .inr ⟨rfl, ⟨(.inl rfl), ⟨(.inl rfl), ⟨(.inr ⟨rfl, rfl, rfl, (fun h => by cases h), rfl, rfl, by omega, fun i j _ => by rw [Nat.zero_add]⟩), ⟨(.inl rfl), trivial⟩⟩⟩⟩⟩⟩), ⟨(.inl ⟨rfl, rfl⟩), ⟨(.inr ⟨by decide, .inl rfl⟩), ⟨(.inr ⟨by decide, .inl rfl⟩), trivial⟩⟩⟩⟩⟩ hG) ?_
  refine Ends.turn (s' := ⟨[.tv (.agg [.d (.val (.int .i64 b.f_Height)), .d (.val (strV b.f_Prev)), .d (dsl false false (k_api_Envelope false) b.f_Requests), .d (dsl false false (k_api_Result false) b.f_Results)]), pv 0 0, pv 1 0], [.live (.box 33 [.d (.val (.int .i64 b.f_Height)), .d (.val (strV b.f_Prev)), .d (dsl false false (k_api_Envelope false) b.f_Requests), .own 4 (k_api_Result false).sz 0 b.f_Results.length]), .live (.box 33 [.d (.val (.int .i64 b.f_Height)), .d (.val (strV b.f_Prev)), .d (dsl false false (k_api_Envelope false) b.f_Requests), .own 4 (k_api_Result false).sz 0 b.f_Results.length]), .dead, .dead, .live (arrK 88 (k_api_Result false) b.f_Results)]⟩) (fun _ _ hG => Gs.norm (by kernel_rfl) hG) ?_
  refine Ends.turn (s' := ⟨[.tv (.agg [.d (.val (.int .i64 b.f_Height)), .d (.val (strV b.f_Prev)), .d (dsl false false (k_api_Envelope false) b.f_Requests), .d (dsl false false (k_api_Result false) b.f_Results)]), pv 0 0, pv 1 0], [.live (.box 33 [.d (.val (.int .i64 b.f_Height)), .d (.val (strV b.f_Prev)), .d (dsl false false (k_api_Envelope false) b.f_Requests), .d (dsl false false (k_api_Result false) b.f_Results)]), .live (.box 33 [.d (.val (.int .i64 b.f_Height)), .d (.val (strV b.f_Prev)), .d (dsl false false (k_api_Envelope false) b.f_Requests), .d (dsl false false (k_api_Result false) b.f_Results)]), .dead, .dead, .dead]⟩) (fun _ _ hG => Gs.freeze (s := ⟨[.tv (.agg [.d (.val (.int .i64 b.f_Height)), .d (.val (strV b.f_Prev)), .d (dsl false false (k_api_Envelope false) b.f_Requests), .d (dsl false false (k_api_Result false) b.f_Results)]), pv 0 0, pv 1 0], [.live (.box 33 [.d (.val (.int .i64 b.f_Height)), .d (.val (strV b.f_Prev)), .d (dsl false false (k_api_Envelope false) b.f_Requests), .own 4 (k_api_Result false).sz 0 b.f_Results.length]), .live (.box 33 [.d (.val (.int .i64 b.f_Height)), .d (.val (strV b.f_Prev)), .d (dsl false false (k_api_Envelope false) b.f_Requests), .own 4 (k_api_Result false).sz 0 b.f_Results.length]), .dead, .dead, .live (arrK 88 (k_api_Result false) b.f_Results)]⟩) 4 (el := elOf (k_api_Result false) b.f_Results) (sz := (k_api_Result false).sz) (n := b.f_Results.length) rfl ⟨(.inl rfl), ⟨(.inl rfl), ⟨(.inl rfl), trivial⟩⟩⟩ ⟨(.inr ⟨by decide, .inr ⟨rfl, ⟨(.inl rfl), ⟨(.inl rfl), ⟨(.inl rfl), ⟨(.inr ⟨rfl, rfl, rfl, (fun h => by cases h), rfl, rfl, by omega, fun i j _ => by rw [Nat.zero_add]⟩), trivial⟩⟩⟩⟩⟩⟩), ⟨(.inr ⟨by decide, .inr ⟨rfl, ⟨(.inl rfl), ⟨(.inl rfl), ⟨(.inl rfl), ⟨(.inr ⟨rfl, rfl, rfl, (fun h => by cases h), rfl, rfl, by omega, fun i j _ => by rw [Nat.zero_add]⟩), trivial⟩⟩⟩⟩⟩⟩), ⟨(.inr ⟨by decide, .inl rfl⟩), ⟨(.inr ⟨by decide, .inl rfl⟩), ⟨(.inl ⟨rfl, rfl⟩), trivial⟩⟩⟩⟩⟩ hG) ?_
  exact tE (.inl rfl) [.c 2 1 33 0 33 [.d (.val (.int .i64 b.f_Height)), .d (.val (strV b.f_Prev)), .d (dsl false false (k_api_Envelope false) b.f_Requests), .d (dsl false false (k_api_Result false) b.f_Results)] (.agg [.d (.val (.int .i64 b.f_Height)), .d (.val (strV b.f_Prev)), .d (dsl false false (k_api_Envelope false) b.f_Requests), .d (dsl false false (k_api_Result false) b.f_Results)])] ⟨⟨rfl, rfl, by kernel_rfl, by kernel_rfl, .inl ⟨4, wide_33, rfl, Nat.le_of_ble_eq_true rfl⟩⟩, trivial⟩ [] rfl rfl rfl rfl rfl rfl trivial
end Go.Proofs.Ytdclfhahcfefeaa.Q
namespace Go.Proofs.Ytdclfhahcfefeaa.Q
open Go Go.RowKit
set_option linter.unusedVariables false
set_option linter.unusedSimpArgs false
set_option maxRecDepth 100000
set_option maxHeartbeats 4000000
-- quaestor/quaestorref11.First
theorem ref11_First : Holds Try.prog 34 ⟨[], [], dv (strV (ofB 6 ([] : List (List UInt8)))), []⟩ := by
  refine Holds.of Try.func34 rfl (N := 2) Try.ntmps34 rfl fun w0 B0 S0 U0 => ?_
  show T _ (mkBase 2 0 w0 S0 U0 B0) ⟨[], []⟩ _ _
  refine T.seq ?_
  refine xR [] (by kernel_rfl) (by kernel_rfl) ?_
  refine nT ?_
  refine T.seq ?_
  refine xR [hR 0 rfl rfl (r_call (ref02_Of (6 : UInt8) false false false ([] : List (List UInt8)) (by decide)) Try.func61 rfl (by decide) [] [] (l := [(.const (.int .u8 6), dv (.int .u8 6)), (.const (.slice none 0 0), dv (.slice none 0 0))]) [] rfl 0 0 rfl rfl rfl rfl rfl rfl rfl rfl rfl ⟨.inl ⟨rfl, rfl⟩, ⟨.inr (.inr ⟨rfl, rfl, rfl⟩), trivial⟩⟩ rfl (fun b hb => by cases hb) (.inl rfl) (lt_of rfl) ⟨rfl, ⟨rfl, trivial⟩⟩)] (by kernel_rfl) (by kernel_rfl) ?_
  refine nT ?_
  refine T.ret ?_
  exact tE (.inl rfl) [.t 0 (.one (.d (.val (strV (ofB (6 : UInt8) ([] : List (List UInt8)))))))] ⟨⟨rfl, by kernel_rfl⟩, trivial⟩ [] (by have e1 : ((ofB 6 ([] : List (List UInt8))) : List UInt8) = (ofB (6 : UInt8) ([] : List (List UInt8))) := (by rfl); have hE := congrArg (fun (q1 : List UInt8) => (dv (strV q1) : AV)) e1; exact hE) rfl rfl rfl rfl rfl trivial
end Go.Proofs.Ytdclfhahcfefeaa.Q
namespace Go.Proofs.Ytdclfhahcfefeaa.Q
open Go Go.RowKit
set_option linter.unusedVariables false
set_option linter.unusedSimpArgs false
set_option maxRecDepth 100000
set_option maxHeartbeats 4000000
theorem iat_76 : Try.prog.info? 76 = some Try.t76 := by kernel_rfl
theorem zero_76 : Zero Try.prog 76 [.bool false, .int .i64 0, strV [], .slice none 0 0] := ⟨_, _, iat_76, rfl, rfl⟩
theorem iat_39 : Try.prog.info? 39 = some Try.t39 := by kernel_rfl
theorem places_76 : Places Try.prog 76 [(0, 1), (1, 1), (2, 1), (3, 1)] := ⟨_, Try.underlying76, ⟨⟨rfl, _, iat_4, rfl⟩, ⟨⟨rfl, _, iat_3, rfl⟩, ⟨⟨rfl, _, iat_29, rfl⟩, ⟨⟨rfl, _, iat_39, rfl⟩, trivial⟩⟩⟩⟩⟩
-- quaestor/quaestorref11.New
theorem ref11_New : Holds Try.prog 11 ⟨[], [], pv 0 0, [.live (.box 76 [.d (.val (.bool true)), .d (.val (.int .i64 0)), .d (.val (strV (ofB 6 ([] : List (List UInt8))))), .own 1 (k_api_Block false).sz 0 ([] : List api_Block).length]), .live (arrK 33 (k_api_Block false) ([] : List api_Block))]⟩ := by
  refine Holds.of Try.func11 rfl (N := 4) Try.ntmps11 rfl fun w0 B0 S0 U0 => ?_
  show T _ (mkBase 4 0 w0 S0 U0 B0) ⟨[], []⟩ _ _
  refine T.seq ?_
  refine xR [] (by kernel_rfl) (by kernel_rfl) ?_
  refine nT ?_
  refine T.seq ?_
  refine xR [hR 0 rfl rfl (r_call (ref11_First  ) Try.func34 rfl (by decide) [] [] (l := []) [] rfl 0 0 rfl rfl rfl rfl rfl rfl rfl rfl rfl trivial rfl (fun b hb => by cases hb) (.inl rfl) (lt_of rfl) trivial)] (by kernel_rfl) (by kernel_rfl) ?_
  refine nT ?_
  refine T.ret ?_
  refine Ends.turn (s' := ⟨[pv 0 0], [.live (.box 76 [.d (.val (.bool true)), .d (.val (.int .i64 0)), .d (.val (strV (ofB 6 ([] : List (List UInt8))))), .d (.val (.slice none 0 0))])]⟩) (fun _ _ hG => Gs.norm (by kernel_rfl) hG) ?_
  refine Ends.turn (s' := ⟨[pv 0 0], [.live (.box 76 [.d (.val (.bool true)), .d (.val (.int .i64 0)), .d (.val (strV (ofB 6 ([] : List (List UInt8))))), .own 1 (k_api_Block false).sz 0 0]), .live (arrK 33 (k_api_Block false) ([] : List api_Block))]⟩) (fun _ _ hG => Gs.absentB 1 0 3 33 (k_api_Block false) (Tb := 76) (cs := [.d (.val (.bool true)), .d (.val (.int .i64 0)), .d (.val (strV (ofB 6 ([] : List (List UInt8))))), .d (.val (.slice none 0 0))]) rfl rfl rfl hG) ?_
  exact tE (.inl rfl) [.t 0 (.one (.ptr 0 0))] ⟨⟨rfl, by kernel_rfl⟩, trivial⟩ [0, 1] rfl rfl rfl rfl rfl rfl ⟨⟨rfl, (by have e1 : (0 : Nat) = ([] : List api_Block).length := (by rfl); have hE := congrArg (fun (q1 : Nat) => (.live (.box 76 [.d (.val (.bool true)), .d (.val (.int .i64 0)), .d (.val (strV (ofB 6 ([] : List (List UInt8))))), .own 1 (k_api_Block false).sz 0 q1]) : HS)) e1; exact Eq.trans (by kernel_rfl) hE)⟩, ⟨⟨rfl, (by kernel_rfl)⟩, trivial⟩⟩
end Go.Proofs.Ytdclfhahcfefeaa.Q
namespace Go.Proofs.Ytdclfhahcfefeaa.Q
open Go Go.RowKit
set_option linter.unusedVariables false
set_option linter.unusedSimpArgs false
set_option maxRecDepth 100000
set_option maxHeartbeats 4000000
theorem fld_76_1 : FieldAt Try.prog 76 1 1 := ⟨_, _, _, Try.underlying76, rfl, iat_3, by decide, rfl⟩
theorem fld_76_3 : FieldAt Try.prog 76 3 3 := ⟨_, _, _, Try.underlying76, rfl, iat_39, by decide, rfl⟩
theorem wide_39 : Wide Try.prog 39 none := ⟨_, Try.underlying39, (fun _ h => by cases h), (fun _ _ h => by cases h)⟩
-- (*quaestor/quaestorref11.Ledger).Height
theorem ref11_Height (h : Int) (d : List UInt8) (L : List api_Block) (hh : 0 ≤ h ∧ h ≤ 1099511627776) (hl : L.length ≤ 100) : Holds Try.prog 36 ⟨[pv 0 0], [.box 76 [.d (.val (.bool true)), .d (.val (.int .i64 h)), .d (.val (strV d)), .own 1 (k_api_Block false).sz 0 L.length], arrK 33 (k_api_Block false) L], dv (.int .i64 (h + ((L.length : Nat) : Int))), [.live (.box 76 [.d (.val (.bool true)), .d (.val (.int .i64 h)), .d (.val (strV d)), .own 1 (k_api_Block false).sz 0 L.length]), .live (arrK 33 (k_api_Block false) L)]⟩ := by
  refine Holds.of Try.func36 rfl (N := 13) Try.ntmps36 rfl fun w0 B0 S0 U0 => ?_
  show T _ (mkBase 13 2 w0 S0 U0 B0) ⟨[pv 0 0], [.live (.box 76 [.d (.val (.bool true)), .d (.val (.int .i64 h)), .d (.val (strV d)), .own 1 (k_api_Block false).sz 0 L.length]), .live (arrK 33 (k_api_Block false) L)]⟩ _ _
  refine T.seq ?_
  refine xR [] (by kernel_rfl) (by kernel_rfl) ?_
  refine nT ?_
  refine T.seq ?_
  refine xD [[], [0], [0, 1], [0, 1, 2], [], [4], [4, 5], [4, 5, 6], [4, 5, 6, 7], [0, 1, 2, 3, 4, 5, 6, 7, 8], [0, 1, 2, 3, 4, 5, 6, 7, 8, 9]] [hR 9 rfl rfl (r_bin (u1 := .int .i64 h) (u2 := .int .i64 ((L.length : Nat) : Int)) (v := .int .i64 (h + ((L.length : Nat) : Int))) (b_add (by rw [IntKind.wrap_i64]; omega)) (lt_of rfl) trivial)] (by kernel_rfl) (by kernel_rfl) (by kernel_rfl) (by kernel_rfl) (by kernel_rfl) (by kernel_rfl) ?_
  refine nT ?_
  refine T.ret ?_
  exact tE (.inl rfl) [.t 2 (.one (.d (.val (.int .i64 (h + ((L.length : Nat) : Int))))))] ⟨⟨rfl, by kernel_rfl⟩, trivial⟩ [0, 1] rfl rfl rfl rfl rfl rfl ⟨⟨rfl, (by kernel_rfl)⟩, ⟨⟨rfl, (by kernel_rfl)⟩, trivial⟩⟩
end Go.Proofs.Ytdclfhahcfefeaa.Q
