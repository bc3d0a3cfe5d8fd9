import Derived.Test.YtacikihlgpnjhaaC10n8
namespace Go.Proofs.Ytacikihlgpnjhaa.Q
open Go Go.RowKit
set_option linter.unusedVariables false
set_option linter.unusedSimpArgs false
set_option maxRecDepth 100000
set_option maxHeartbeats 4000000
theorem fld_26_0 : FieldAt Try.prog 26 0 0 := ⟨_, _, _, Try.underlying26, rfl, iat_3, by decide, rfl⟩
theorem iat_23 : Try.prog.info? 23 = some Try.t23 := by kernel_rfl
theorem fld_26_2 : FieldAt Try.prog 26 2 2 := ⟨_, _, _, Try.underlying26, rfl, iat_23, by decide, rfl⟩
theorem wide_23 : Wide Try.prog 23 none := ⟨_, Try.underlying23, (fun _ h => by cases h), (fun _ _ h => by cases h)⟩
theorem iat_24 : Try.prog.info? 24 = some Try.t24 := by kernel_rfl
theorem fld_26_3 : FieldAt Try.prog 26 3 3 := ⟨_, _, _, Try.underlying26, rfl, iat_24, by decide, rfl⟩
theorem wide_24 : Wide Try.prog 24 none := ⟨_, Try.underlying24, (fun _ h => by cases h), (fun _ _ h => by cases h)⟩
-- quaestor/block.Check
theorem block_Check (tb_ : Bool) (b : api_Block) (hq : b.f_Requests.length ≤ 9223372036854775807) (hr : b.f_Results.length ≤ 9223372036854775807) : Holds Try.prog 14 ⟨[.tv (.agg [.d (.val (.int .i64 b.f_Height)), .d (.val (strV b.f_Prev)), .d (dsl tb_ false (k_api_Envelope tb_) b.f_Requests), .d (dsl tb_ false (k_api_Result tb_) b.f_Results)])], [], dv (.int .i64 (chkB b)), []⟩ := by
  refine Holds.of Try.func14 rfl (N := 26) Try.ntmps14 rfl fun w0 B0 S0 U0 => ?_
  show T _ (mkBase 26 0 w0 S0 U0 B0) ⟨[.tv (.agg [.d (.val (.int .i64 b.f_Height)), .d (.val (strV b.f_Prev)), .d (dsl tb_ false (k_api_Envelope tb_) b.f_Requests), .d (dsl tb_ false (k_api_Result tb_) b.f_Results)])], []⟩ _ _
  refine T.seq ?_
  refine tR (s1 := ⟨[.tv (.agg [.d (.val (.int .i64 b.f_Height)), .d (.val (strV b.f_Prev)), .d (dsl tb_ false (k_api_Envelope tb_) b.f_Requests), .d (dsl tb_ false (k_api_Result tb_) b.f_Results)]), pv 0 0, dv (.int .i64 0)], [.live (.box 26 [.d (.val (.int .i64 b.f_Height)), .d (.val (strV b.f_Prev)), .d (dsl tb_ false (k_api_Envelope tb_) b.f_Requests), .d (dsl tb_ false (k_api_Result tb_) b.f_Results)])]⟩) [true, true, true] [true]
    (oC (oS rfl rfl (r_box (l := 0) (t := .agg [.d (.val (.int .i64 b.f_Height)), .d (.val (strV b.f_Prev)), .d (dsl tb_ false (k_api_Envelope tb_) b.f_Requests), .d (dsl tb_ false (k_api_Result tb_) b.f_Results)]) rfl (lt_of rfl) trivial))
    (oC (oS rfl rfl (r_assign (av := dv (.int .i64 0)) (lt_of rfl) ⟨rfl, trivial⟩)) (oZ rfl)))
    (by kernel_rfl) (by kernel_rfl) ?_
  refine nT ?_
  refine T.seq ?_
  refine T.block ?_
  refine T.seq ?_
  by_cases hq1 : b.f_Height < 1
  · refine tR (s1 := ⟨[.tv (.agg [.d (.val (.int .i64 b.f_Height)), .d (.val (strV b.f_Prev)), .d (dsl tb_ false (k_api_Envelope tb_) b.f_Requests), .d (dsl tb_ false (k_api_Result tb_) b.f_Results)]), pv 0 0, dv (.int .i64 0), dv (.bool true)], [.live (.box 26 [.d (.val (.int .i64 b.f_Height)), .d (.val (strV b.f_Prev)), .d (dsl tb_ false (k_api_Envelope tb_) b.f_Requests), .d (dsl tb_ false (k_api_Result tb_) b.f_Results)])]⟩) (bm 4 15) [true]
      (oC (oS rfl rfl (r_fieldAddr (l := 0) (off := 0) fld_26_0 (lt_of rfl) trivial))
      (oC (oS rfl rfl (r_loadB (l := 0) (off := 0) (T := 26) (cs := [.d (.val (.int .i64 b.f_Height)), .d (.val (strV b.f_Prev)), .d (dsl tb_ false (k_api_Envelope tb_) b.f_Requests), .d (dsl tb_ false (k_api_Result tb_) b.f_Results)]) (c := .d (.val (.int .i64 b.f_Height))) wide_3 rfl (lt_of rfl) trivial))
      (oC (oS rfl rfl (r_bin (u1 := .int .i64 b.f_Height) (u2 := .int .i64 1) (v := .bool (decide (b.f_Height < 1))) b_lss (lt_of rfl) ⟨rfl, trivial⟩))
      (oC (oS rfl rfl (r_move (av := dv (.bool (decide (b.f_Height < 1)))) (lt_of rfl) trivial))
      (oC (oN (b := (decide (b.f_Height < 1))) rfl rfl rfl rfl (lt_of rfl) (decide_eq_true hq1) rfl (lt_of rfl))
      (oC (oN (b := (decide (b.f_Height < 1))) rfl rfl rfl rfl (lt_of rfl) (decide_eq_true hq1) rfl (lt_of rfl))
      (oC (oN (b := (decide (b.f_Height < 1))) rfl rfl rfl rfl (lt_of rfl) (decide_eq_true hq1) rfl (lt_of rfl))
      (oC (oS rfl rfl (r_pickT (b := (decide (b.f_Height < 1))) (av := dv (.bool true)) (lt_of rfl) ⟨rfl, trivial⟩ (decide_eq_true hq1)))
      (oC (oS rfl rfl (r_assign (av := dv (.bool true)) (lt_of rfl) trivial)) (oZ rfl))))))))))
      (by kernel_rfl) (by kernel_rfl) ?_
    refine nT ?_
    refine T.condT (b := true) rfl rfl ?_
    refine T.seq ?_
    refine tR (s1 := ⟨[.tv (.agg [.d (.val (.int .i64 b.f_Height)), .d (.val (strV b.f_Prev)), .d (dsl tb_ false (k_api_Envelope tb_) b.f_Requests), .d (dsl tb_ false (k_api_Result tb_) b.f_Results)]), pv 0 0, dv (.int .i64 100), dv (.bool true)], [.live (.box 26 [.d (.val (.int .i64 b.f_Height)), .d (.val (strV b.f_Prev)), .d (dsl tb_ false (k_api_Envelope tb_) b.f_Requests), .d (dsl tb_ false (k_api_Result tb_) b.f_Results)])]⟩) (bm 4 15) [true]
      (oC (oS rfl rfl (r_assign (av := dv (.int .i64 100)) (lt_of rfl) ⟨rfl, trivial⟩)) (oZ rfl))
      (by kernel_rfl) (by kernel_rfl) ?_
    refine nT ?_
    refine T.ret ?_
    refine rB ?_
    refine rT ?_
    exact tE (.inl rfl) [.t 2 (.one (.d (.val (.int .i64 100))))] ⟨⟨rfl, rfl⟩, trivial⟩ [] (by have e1 : ((chkB b) : Int) = 100 := (by first | rfl | (unfold chkB; first | rw [if_pos (by omega)] | (rw [if_neg (by omega)]; first | rw [if_pos (by omega)] | rw [if_neg (by omega)]))); have hE := congrArg (fun (q1 : Int) => (dv (.int .i64 q1) : AV)) e1; exact hE) rfl rfl rfl rfl rfl trivial
  · refine tR (s1 := ⟨[.tv (.agg [.d (.val (.int .i64 b.f_Height)), .d (.val (strV b.f_Prev)), .d (dsl tb_ false (k_api_Envelope tb_) b.f_Requests), .d (dsl tb_ false (k_api_Result tb_) b.f_Results)]), pv 0 0, dv (.int .i64 0), dv (.bool (decide (b.f_Height > 1099511627776)))], [.live (.box 26 [.d (.val (.int .i64 b.f_Height)), .d (.val (strV b.f_Prev)), .d (dsl tb_ false (k_api_Envelope tb_) b.f_Requests), .d (dsl tb_ false (k_api_Result tb_) b.f_Results)])]⟩) (bm 4 15) [true]
      (oC (oS rfl rfl (r_fieldAddr (l := 0) (off := 0) fld_26_0 (lt_of rfl) trivial))
      (oC (oS rfl rfl (r_loadB (l := 0) (off := 0) (T := 26) (cs := [.d (.val (.int .i64 b.f_Height)), .d (.val (strV b.f_Prev)), .d (dsl tb_ false (k_api_Envelope tb_) b.f_Requests), .d (dsl tb_ false (k_api_Result tb_) b.f_Results)]) (c := .d (.val (.int .i64 b.f_Height))) wide_3 rfl (lt_of rfl) trivial))
      (oC (oS rfl rfl (r_bin (u1 := .int .i64 b.f_Height) (u2 := .int .i64 1) (v := .bool (decide (b.f_Height < 1))) b_lss (lt_of rfl) ⟨rfl, trivial⟩))
      (oC (oS rfl rfl (r_move (av := dv (.bool (decide (b.f_Height < 1)))) (lt_of rfl) trivial))
      (oC (oY (b := (decide (b.f_Height < 1))) rfl rfl rfl rfl (lt_of rfl) (decide_eq_false hq1) (r_fieldAddr (l := 0) (off := 0) fld_26_0 (lt_of rfl) trivial))
      (oC (oY (b := (decide (b.f_Height < 1))) rfl rfl rfl rfl (lt_of rfl) (decide_eq_false hq1) (r_loadB (l := 0) (off := 0) (T := 26) (cs := [.d (.val (.int .i64 b.f_Height)), .d (.val (strV b.f_Prev)), .d (dsl tb_ false (k_api_Envelope tb_) b.f_Requests), .d (dsl tb_ false (k_api_Result tb_) b.f_Results)]) (c := .d (.val (.int .i64 b.f_Height))) wide_3 rfl (lt_of rfl) trivial))
      (oC (oY (b := (decide (b.f_Height < 1))) rfl rfl rfl rfl (lt_of rfl) (decide_eq_false hq1) (r_bin (u1 := .int .i64 b.f_Height) (u2 := .int .i64 1099511627776) (v := .bool (decide (b.f_Height > 1099511627776))) b_gtr (lt_of rfl) ⟨rfl, trivial⟩))
      (oC (oS rfl rfl (r_pickF (b := (decide (b.f_Height < 1))) (av := dv (.bool (decide (b.f_Height > 1099511627776)))) (lt_of rfl) trivial (decide_eq_false hq1)))
      (oC (oS rfl rfl (r_assign (av := dv (.bool (decide (b.f_Height > 1099511627776)))) (lt_of rfl) trivial)) (oZ rfl))))))))))
      (by kernel_rfl) (by kernel_rfl) ?_
    refine nT ?_
    by_cases hq2 : b.f_Height > 1099511627776
    · refine T.condT (b := (decide (b.f_Height > 1099511627776))) rfl (decide_eq_true hq2) ?_
      refine T.seq ?_
      refine tR (s1 := ⟨[.tv (.agg [.d (.val (.int .i64 b.f_Height)), .d (.val (strV b.f_Prev)), .d (dsl tb_ false (k_api_Envelope tb_) b.f_Requests), .d (dsl tb_ false (k_api_Result tb_) b.f_Results)]), pv 0 0, dv (.int .i64 100), dv (.bool (decide (b.f_Height > 1099511627776)))], [.live (.box 26 [.d (.val (.int .i64 b.f_Height)), .d (.val (strV b.f_Prev)), .d (dsl tb_ false (k_api_Envelope tb_) b.f_Requests), .d (dsl tb_ false (k_api_Result tb_) b.f_Results)])]⟩) (bm 4 15) [true]
        (oC (oS rfl rfl (r_assign (av := dv (.int .i64 100)) (lt_of rfl) ⟨rfl, trivial⟩)) (oZ rfl))
        (by kernel_rfl) (by kernel_rfl) ?_
      refine nT ?_
      refine T.ret ?_
      refine rB ?_
      refine rT ?_
      exact tE (.inl rfl) [.t 2 (.one (.d (.val (.int .i64 100))))] ⟨⟨rfl, rfl⟩, trivial⟩ [] (by have e1 : ((chkB b) : Int) = 100 := (by first | rfl | (unfold chkB; first | rw [if_pos (by omega)] | (rw [if_neg (by omega)]; first | rw [if_pos (by omega)] | rw [if_neg (by omega)]))); have hE := congrArg (fun (q1 : Int) => (dv (.int .i64 q1) : AV)) e1; exact hE) rfl rfl rfl rfl rfl trivial
    · refine T.condF (b := (decide (b.f_Height > 1099511627776))) rfl (decide_eq_false hq2) ?_
      refine T.seq ?_
      by_cases hq3 : ((b.f_Requests.length : Nat) : Int) ≠ ((b.f_Results.length : Nat) : Int)
      · refine tR (s1 := ⟨[.tv (.agg [.d (.val (.int .i64 b.f_Height)), .d (.val (strV b.f_Prev)), .d (dsl tb_ false (k_api_Envelope tb_) b.f_Requests), .d (dsl tb_ false (k_api_Result tb_) b.f_Results)]), pv 0 0, dv (.int .i64 0), dv (.bool (decide (b.f_Height > 1099511627776))), aa, aa, aa, aa, aa, aa, aa, aa, dv (.bool true)], [.live (.box 26 [.d (.val (.int .i64 b.f_Height)), .d (.val (strV b.f_Prev)), .d (dsl tb_ false (k_api_Envelope tb_) b.f_Requests), .d (dsl tb_ false (k_api_Result tb_) b.f_Results)])]⟩) (bm 13 4111) [true]
          (oC (oS rfl rfl (r_fieldAddr (l := 0) (off := 0) fld_26_2 (lt_of rfl) trivial))
          (oC (oS rfl rfl (r_loadB (l := 0) (off := 2) (T := 26) (cs := [.d (.val (.int .i64 b.f_Height)), .d (.val (strV b.f_Prev)), .d (dsl tb_ false (k_api_Envelope tb_) b.f_Requests), .d (dsl tb_ false (k_api_Result tb_) b.f_Results)]) (c := .d (dsl tb_ false (k_api_Envelope tb_) b.f_Requests)) wide_23 rfl (lt_of rfl) trivial))
          (oC (oS rfl rfl (q_len tb_ false (k_api_Envelope tb_) b.f_Requests Try.underlying23 (lt_of rfl) trivial))
          (oC (oS rfl rfl (r_fieldAddr (l := 0) (off := 0) fld_26_3 (lt_of rfl) trivial))
          (oC (oS rfl rfl (r_loadB (l := 0) (off := 3) (T := 26) (cs := [.d (.val (.int .i64 b.f_Height)), .d (.val (strV b.f_Prev)), .d (dsl tb_ false (k_api_Envelope tb_) b.f_Requests), .d (dsl tb_ false (k_api_Result tb_) b.f_Results)]) (c := .d (dsl tb_ false (k_api_Result tb_) b.f_Results)) wide_24 rfl (lt_of rfl) trivial))
          (oC (oS rfl rfl (q_len tb_ false (k_api_Result tb_) b.f_Results Try.underlying24 (lt_of rfl) trivial))
          (oC (oS rfl rfl (r_bin (u1 := .int .i64 ((b.f_Requests.length : Nat) : Int)) (u2 := .int .i64 ((b.f_Results.length : Nat) : Int)) (v := .bool (decide (((b.f_Requests.length : Nat) : Int) ≠ ((b.f_Results.length : Nat) : Int)))) b_neq (lt_of rfl) trivial))
          (oC (oS rfl rfl (r_move (av := dv (.bool (decide (((b.f_Requests.length : Nat) : Int) ≠ ((b.f_Results.length : Nat) : Int))))) (lt_of rfl) trivial))
          (oC (oN (b := (decide (((b.f_Requests.length : Nat) : Int) ≠ ((b.f_Results.length : Nat) : Int)))) rfl rfl rfl rfl (lt_of rfl) (decide_eq_true hq3) rfl (lt_of rfl))
          (oC (oN (b := (decide (((b.f_Requests.length : Nat) : Int) ≠ ((b.f_Results.length : Nat) : Int)))) rfl rfl rfl rfl (lt_of rfl) (decide_eq_true hq3) rfl (lt_of rfl))
          (oC (oN (b := (decide (((b.f_Requests.length : Nat) : Int) ≠ ((b.f_Results.length : Nat) : Int)))) rfl rfl rfl rfl (lt_of rfl) (decide_eq_true hq3) rfl (lt_of rfl))
          (oC (oN (b := (decide (((b.f_Requests.length : Nat) : Int) ≠ ((b.f_Results.length : Nat) : Int)))) rfl rfl rfl rfl (lt_of rfl) (decide_eq_true hq3) rfl (lt_of rfl))
          (oC (oS rfl rfl (r_pickT (b := (decide (((b.f_Requests.length : Nat) : Int) ≠ ((b.f_Results.length : Nat) : Int)))) (av := dv (.bool true)) (lt_of rfl) ⟨rfl, trivial⟩ (decide_eq_true hq3)))
          (oC (oS rfl rfl (r_assign (av := dv (.bool true)) (lt_of rfl) trivial)) (oZ rfl)))))))))))))))
          (by kernel_rfl) (by kernel_rfl) ?_
        refine nT ?_
        refine T.condT (b := true) rfl rfl ?_
        refine T.seq ?_
        refine tR (s1 := ⟨[.tv (.agg [.d (.val (.int .i64 b.f_Height)), .d (.val (strV b.f_Prev)), .d (dsl tb_ false (k_api_Envelope tb_) b.f_Requests), .d (dsl tb_ false (k_api_Result tb_) b.f_Results)]), pv 0 0, dv (.int .i64 102), dv (.bool (decide (b.f_Height > 1099511627776))), aa, aa, aa, aa, aa, aa, aa, aa, dv (.bool true)], [.live (.box 26 [.d (.val (.int .i64 b.f_Height)), .d (.val (strV b.f_Prev)), .d (dsl tb_ false (k_api_Envelope tb_) b.f_Requests), .d (dsl tb_ false (k_api_Result tb_) b.f_Results)])]⟩) (bm 13 4111) [true]
          (oC (oS rfl rfl (r_assign (av := dv (.int .i64 102)) (lt_of rfl) ⟨rfl, trivial⟩)) (oZ rfl))
          (by kernel_rfl) (by kernel_rfl) ?_
        refine nT ?_
        refine T.ret ?_
        refine rB ?_
        refine rT ?_
        exact tE (.inl rfl) [.t 2 (.one (.d (.val (.int .i64 102))))] ⟨⟨rfl, rfl⟩, trivial⟩ [] (by have e1 : ((chkB b) : Int) = 102 := (by first | rfl | (unfold chkB; first | rw [if_pos (by omega)] | (rw [if_neg (by omega)]; first | rw [if_pos (by omega)] | rw [if_neg (by omega)]))); have hE := congrArg (fun (q1 : Int) => (dv (.int .i64 q1) : AV)) e1; exact hE) rfl rfl rfl rfl rfl trivial
      · refine tR (s1 := ⟨[.tv (.agg [.d (.val (.int .i64 b.f_Height)), .d (.val (strV b.f_Prev)), .d (dsl tb_ false (k_api_Envelope tb_) b.f_Requests), .d (dsl tb_ false (k_api_Result tb_) b.f_Results)]), pv 0 0, dv (.int .i64 0), dv (.bool (decide (b.f_Height > 1099511627776))), aa, aa, aa, aa, aa, aa, aa, aa, dv (.bool (decide (((b.f_Results.length : Nat) : Int) > 4)))], [.live (.box 26 [.d (.val (.int .i64 b.f_Height)), .d (.val (strV b.f_Prev)), .d (dsl tb_ false (k_api_Envelope tb_) b.f_Requests), .d (dsl tb_ false (k_api_Result tb_) b.f_Results)])]⟩) (bm 13 4111) [true]
          (oC (oS rfl rfl (r_fieldAddr (l := 0) (off := 0) fld_26_2 (lt_of rfl) trivial))
          (oC (oS rfl rfl (r_loadB (l := 0) (off := 2) (T := 26) (cs := [.d (.val (.int .i64 b.f_Height)), .d (.val (strV b.f_Prev)), .d (dsl tb_ false (k_api_Envelope tb_) b.f_Requests), .d (dsl tb_ false (k_api_Result tb_) b.f_Results)]) (c := .d (dsl tb_ false (k_api_Envelope tb_) b.f_Requests)) wide_23 rfl (lt_of rfl) trivial))
          (oC (oS rfl rfl (q_len tb_ false (k_api_Envelope tb_) b.f_Requests Try.underlying23 (lt_of rfl) trivial))
          (oC (oS rfl rfl (r_fieldAddr (l := 0) (off := 0) fld_26_3 (lt_of rfl) trivial))
          (oC (oS rfl rfl (r_loadB (l := 0) (off := 3) (T := 26) (cs := [.d (.val (.int .i64 b.f_Height)), .d (.val (strV b.f_Prev)), .d (dsl tb_ false (k_api_Envelope tb_) b.f_Requests), .d (dsl tb_ false (k_api_Result tb_) b.f_Results)]) (c := .d (dsl tb_ false (k_api_Result tb_) b.f_Results)) wide_24 rfl (lt_of rfl) trivial))
          (oC (oS rfl rfl (q_len tb_ false (k_api_Result tb_) b.f_Results Try.underlying24 (lt_of rfl) trivial))
          (oC (oS rfl rfl (r_bin (u1 := .int .i64 ((b.f_Requests.length : Nat) : Int)) (u2 := .int .i64 ((b.f_Results.length : Nat) : Int)) (v := .bool (decide (((b.f_Requests.length : Nat) : Int) ≠ ((b.f_Results.length : Nat) : Int)))) b_neq (lt_of rfl) trivial))
          (oC (oS rfl rfl (r_move (av := dv (.bool (decide (((b.f_Requests.length : Nat) : Int) ≠ ((b.f_Results.length : Nat) : Int))))) (lt_of rfl) trivial))
          (oC (oY (b := (decide (((b.f_Requests.length : Nat) : Int) ≠ ((b.f_Results.length : Nat) : Int)))) rfl rfl rfl rfl (lt_of rfl) (decide_eq_false hq3) (r_fieldAddr (l := 0) (off := 0) fld_26_3 (lt_of rfl) trivial))
          (oC (oY (b := (decide (((b.f_Requests.length : Nat) : Int) ≠ ((b.f_Results.length : Nat) : Int)))) rfl rfl rfl rfl (lt_of rfl) (decide_eq_false hq3) (r_loadB (l := 0) (off := 3) (T := 26) (cs := [.d (.val (.int .i64 b.f_Height)), .d (.val (strV b.f_Prev)), .d (dsl tb_ false (k_api_Envelope tb_) b.f_Requests), .d (dsl tb_ false (k_api_Result tb_) b.f_Results)]) (c := .d (dsl tb_ false (k_api_Result tb_) b.f_Results)) wide_24 rfl (lt_of rfl) trivial))
          (oC (oY (b := (decide (((b.f_Requests.length : Nat) : Int) ≠ ((b.f_Results.length : Nat) : Int)))) rfl rfl rfl rfl (lt_of rfl) (decide_eq_false hq3) (q_len tb_ false (k_api_Result tb_) b.f_Results Try.underlying24 (lt_of rfl) trivial))
          (oC (oY (b := (decide (((b.f_Requests.length : Nat) : Int) ≠ ((b.f_Results.length : Nat) : Int)))) rfl rfl rfl rfl (lt_of rfl) (decide_eq_false hq3) (r_bin (u1 := .int .i64 ((b.f_Results.length : Nat) : Int)) (u2 := .int .i64 4) (v := .bool (decide (((b.f_Results.length : Nat) : Int) > 4))) b_gtr (lt_of rfl) ⟨rfl, trivial⟩))
          (oC (oS rfl rfl (r_pickF (b := (decide (((b.f_Requests.length : Nat) : Int) ≠ ((b.f_Results.length : Nat) : Int)))) (av := dv (.bool (decide (((b.f_Results.length : Nat) : Int) > 4)))) (lt_of rfl) trivial (decide_eq_false hq3)))
          (oC (oS rfl rfl (r_assign (av := dv (.bool (decide (((b.f_Results.length : Nat) : Int) > 4)))) (lt_of rfl) trivial)) (oZ rfl)))))))))))))))
          (by kernel_rfl) (by kernel_rfl) ?_
        refine nT ?_
        by_cases hq4 : ((b.f_Results.length : Nat) : Int) > 4
        · refine T.condT (b := (decide (((b.f_Results.length : Nat) : Int) > 4))) rfl (decide_eq_true hq4) ?_
          refine T.seq ?_
          refine tR (s1 := ⟨[.tv (.agg [.d (.val (.int .i64 b.f_Height)), .d (.val (strV b.f_Prev)), .d (dsl tb_ false (k_api_Envelope tb_) b.f_Requests), .d (dsl tb_ false (k_api_Result tb_) b.f_Results)]), pv 0 0, dv (.int .i64 102), dv (.bool (decide (b.f_Height > 1099511627776))), aa, aa, aa, aa, aa, aa, aa, aa, dv (.bool (decide (((b.f_Results.length : Nat) : Int) > 4)))], [.live (.box 26 [.d (.val (.int .i64 b.f_Height)), .d (.val (strV b.f_Prev)), .d (dsl tb_ false (k_api_Envelope tb_) b.f_Requests), .d (dsl tb_ false (k_api_Result tb_) b.f_Results)])]⟩) (bm 13 4111) [true]
            (oC (oS rfl rfl (r_assign (av := dv (.int .i64 102)) (lt_of rfl) ⟨rfl, trivial⟩)) (oZ rfl))
            (by kernel_rfl) (by kernel_rfl) ?_
          refine nT ?_
          refine T.ret ?_
          refine rB ?_
          refine rT ?_
          exact tE (.inl rfl) [.t 2 (.one (.d (.val (.int .i64 102))))] ⟨⟨rfl, rfl⟩, trivial⟩ [] (by have e1 : ((chkB b) : Int) = 102 := (by first | rfl | (unfold chkB; first | rw [if_pos (by omega)] | (rw [if_neg (by omega)]; first | rw [if_pos (by omega)] | rw [if_neg (by omega)]))); have hE := congrArg (fun (q1 : Int) => (dv (.int .i64 q1) : AV)) e1; exact hE) rfl rfl rfl rfl rfl trivial
        · refine T.condF (b := (decide (((b.f_Results.length : Nat) : Int) > 4))) rfl (decide_eq_false hq4) ?_
          refine T.skip ?_
          refine nB ?_
          refine nT ?_
          refine T.seq ?_
          refine tR (s1 := ⟨[.tv (.agg [.d (.val (.int .i64 b.f_Height)), .d (.val (strV b.f_Prev)), .d (dsl tb_ false (k_api_Envelope tb_) b.f_Requests), .d (dsl tb_ false (k_api_Result tb_) b.f_Results)]), pv 0 0, dv (.int .i64 0), dv (.bool (decide (b.f_Height > 1099511627776))), aa, aa, aa, aa, aa, aa, aa, aa, dv (.bool (decide (((b.f_Results.length : Nat) : Int) > 4)))], [.live (.box 26 [.d (.val (.int .i64 b.f_Height)), .d (.val (strV b.f_Prev)), .d (dsl tb_ false (k_api_Envelope tb_) b.f_Requests), .d (dsl tb_ false (k_api_Result tb_) b.f_Results)])]⟩) (bm 13 4111) [true]
            (oC (oS rfl rfl (r_assign (av := dv (.int .i64 0)) (lt_of rfl) ⟨rfl, trivial⟩)) (oZ rfl))
            (by kernel_rfl) (by kernel_rfl) ?_
          refine nT ?_
          refine T.ret ?_
          exact tE (.inl rfl) [.t 2 (.one (.d (.val (.int .i64 0))))] ⟨⟨rfl, rfl⟩, trivial⟩ [] (by have e1 : ((chkB b) : Int) = 0 := (by first | rfl | (unfold chkB; first | rw [if_pos (by omega)] | (rw [if_neg (by omega)]; first | rw [if_pos (by omega)] | rw [if_neg (by omega)]))); have hE := congrArg (fun (q1 : Int) => (dv (.int .i64 q1) : AV)) e1; exact hE) rfl rfl rfl rfl rfl trivial

-- quaestor/quaestorref10.Check
theorem ref10_Check (tb_ : Bool) (b : api_Block) (hq : b.f_Requests.length ≤ 9223372036854775807) (hr : b.f_Results.length ≤ 9223372036854775807) : Holds Try.prog 15 ⟨[.tv (.agg [.d (.val (.int .i64 b.f_Height)), .d (.val (strV b.f_Prev)), .d (dsl tb_ false (k_api_Envelope tb_) b.f_Requests), .d (dsl tb_ false (k_api_Result tb_) b.f_Results)])], [], dv (.int .i64 (chkB b)), []⟩ := by
  refine Holds.of Try.func15 rfl (N := 24) Try.ntmps15 rfl fun w0 B0 S0 U0 => ?_
  show T _ (mkBase 24 0 w0 S0 U0 B0) ⟨[.tv (.agg [.d (.val (.int .i64 b.f_Height)), .d (.val (strV b.f_Prev)), .d (dsl tb_ false (k_api_Envelope tb_) b.f_Requests), .d (dsl tb_ false (k_api_Result tb_) b.f_Results)])], []⟩ _ _
  refine T.seq ?_
  refine tR (s1 := ⟨[.tv (.agg [.d (.val (.int .i64 b.f_Height)), .d (.val (strV b.f_Prev)), .d (dsl tb_ false (k_api_Envelope tb_) b.f_Requests), .d (dsl tb_ false (k_api_Result tb_) b.f_Results)]), pv 0 0, dv (.int .i64 0)], [.live (.box 26 [.d (.val (.int .i64 b.f_Height)), .d (.val (strV b.f_Prev)), .d (dsl tb_ false (k_api_Envelope tb_) b.f_Requests), .d (dsl tb_ false (k_api_Result tb_) b.f_Results)])]⟩) [true, true, true] [true]
    (oC (oS rfl rfl (r_box (l := 0) (t := .agg [.d (.val (.int .i64 b.f_Height)), .d (.val (strV b.f_Prev)), .d (dsl tb_ false (k_api_Envelope tb_) b.f_Requests), .d (dsl tb_ false (k_api_Result tb_) b.f_Results)]) rfl (lt_of rfl) trivial))
    (oC (oS rfl rfl (r_assign (av := dv (.int .i64 0)) (lt_of rfl) ⟨rfl, trivial⟩)) (oZ rfl)))
    (by kernel_rfl) (by kernel_rfl) ?_
  refine nT ?_
  refine T.seq ?_
  refine T.seq ?_
  by_cases hq1 : b.f_Height < 1
  · refine tR (s1 := ⟨[.tv (.agg [.d (.val (.int .i64 b.f_Height)), .d (.val (strV b.f_Prev)), .d (dsl tb_ false (k_api_Envelope tb_) b.f_Requests), .d (dsl tb_ false (k_api_Result tb_) b.f_Results)]), pv 0 0, dv (.int .i64 0), aa, aa, aa, aa, aa, aa, aa, dv (.bool true)], [.live (.box 26 [.d (.val (.int .i64 b.f_Height)), .d (.val (strV b.f_Prev)), .d (dsl tb_ false (k_api_Envelope tb_) b.f_Requests), .d (dsl tb_ false (k_api_Result tb_) b.f_Results)])]⟩) (bm 11 1031) [true]
      (oC (oS rfl rfl (r_fieldAddr (l := 0) (off := 0) fld_26_0 (lt_of rfl) trivial))
      (oC (oS rfl rfl (r_loadB (l := 0) (off := 0) (T := 26) (cs := [.d (.val (.int .i64 b.f_Height)), .d (.val (strV b.f_Prev)), .d (dsl tb_ false (k_api_Envelope tb_) b.f_Requests), .d (dsl tb_ false (k_api_Result tb_) b.f_Results)]) (c := .d (.val (.int .i64 b.f_Height))) wide_3 rfl (lt_of rfl) trivial))
      (oC (oS rfl rfl (r_bin (u1 := .int .i64 b.f_Height) (u2 := .int .i64 1) (v := .bool (decide (b.f_Height < 1))) b_lss (lt_of rfl) ⟨rfl, trivial⟩))
      (oC (oS rfl rfl (r_move (av := dv (.bool (decide (b.f_Height < 1)))) (lt_of rfl) trivial))
      (oC (oN (b := (decide (b.f_Height < 1))) rfl rfl rfl rfl (lt_of rfl) (decide_eq_true hq1) rfl (lt_of rfl))
      (oC (oN (b := (decide (b.f_Height < 1))) rfl rfl rfl rfl (lt_of rfl) (decide_eq_true hq1) rfl (lt_of rfl))
      (oC (oN (b := (decide (b.f_Height < 1))) rfl rfl rfl rfl (lt_of rfl) (decide_eq_true hq1) rfl (lt_of rfl))
      (oC (oS rfl rfl (r_pickT (b := (decide (b.f_Height < 1))) (av := dv (.bool true)) (lt_of rfl) ⟨rfl, trivial⟩ (decide_eq_true hq1))) (oZ rfl)))))))))
      (by kernel_rfl) (by kernel_rfl) ?_
    refine nT ?_
    refine T.condT (b := true) rfl rfl ?_
    refine T.seq ?_
    refine tR (s1 := ⟨[.tv (.agg [.d (.val (.int .i64 b.f_Height)), .d (.val (strV b.f_Prev)), .d (dsl tb_ false (k_api_Envelope tb_) b.f_Requests), .d (dsl tb_ false (k_api_Result tb_) b.f_Results)]), pv 0 0, dv (.int .i64 100), aa, aa, aa, aa, aa, aa, aa, dv (.bool true)], [.live (.box 26 [.d (.val (.int .i64 b.f_Height)), .d (.val (strV b.f_Prev)), .d (dsl tb_ false (k_api_Envelope tb_) b.f_Requests), .d (dsl tb_ false (k_api_Result tb_) b.f_Results)])]⟩) (bm 11 1031) [true]
      (oC (oS rfl rfl (r_assign (av := dv (.int .i64 100)) (lt_of rfl) ⟨rfl, trivial⟩)) (oZ rfl))
      (by kernel_rfl) (by kernel_rfl) ?_
    refine nT ?_
    refine T.ret ?_
    refine rT ?_
    exact tE (.inl rfl) [.t 2 (.one (.d (.val (.int .i64 100))))] ⟨⟨rfl, rfl⟩, trivial⟩ [] (by have e1 : ((chkB b) : Int) = 100 := (by first | rfl | (unfold chkB; first | rw [if_pos (by omega)] | (rw [if_neg (by omega)]; first | rw [if_pos (by omega)] | rw [if_neg (by omega)]))); have hE := congrArg (fun (q1 : Int) => (dv (.int .i64 q1) : AV)) e1; exact hE) rfl rfl rfl rfl rfl trivial
  · refine tR (s1 := ⟨[.tv (.agg [.d (.val (.int .i64 b.f_Height)), .d (.val (strV b.f_Prev)), .d (dsl tb_ false (k_api_Envelope tb_) b.f_Requests), .d (dsl tb_ false (k_api_Result tb_) b.f_Results)]), pv 0 0, dv (.int .i64 0), aa, aa, aa, aa, aa, aa, aa, dv (.bool (decide (b.f_Height > 1099511627776)))], [.live (.box 26 [.d (.val (.int .i64 b.f_Height)), .d (.val (strV b.f_Prev)), .d (dsl tb_ false (k_api_Envelope tb_) b.f_Requests), .d (dsl tb_ false (k_api_Result tb_) b.f_Results)])]⟩) (bm 11 1031) [true]
      (oC (oS rfl rfl (r_fieldAddr (l := 0) (off := 0) fld_26_0 (lt_of rfl) trivial))
      (oC (oS rfl rfl (r_loadB (l := 0) (off := 0) (T := 26) (cs := [.d (.val (.int .i64 b.f_Height)), .d (.val (strV b.f_Prev)), .d (dsl tb_ false (k_api_Envelope tb_) b.f_Requests), .d (dsl tb_ false (k_api_Result tb_) b.f_Results)]) (c := .d (.val (.int .i64 b.f_Height))) wide_3 rfl (lt_of rfl) trivial))
      (oC (oS rfl rfl (r_bin (u1 := .int .i64 b.f_Height) (u2 := .int .i64 1) (v := .bool (decide (b.f_Height < 1))) b_lss (lt_of rfl) ⟨rfl, trivial⟩))
      (oC (oS rfl rfl (r_move (av := dv (.bool (decide (b.f_Height < 1)))) (lt_of rfl) trivial))
      (oC (oY (b := (decide (b.f_Height < 1))) rfl rfl rfl rfl (lt_of rfl) (decide_eq_false hq1) (r_fieldAddr (l := 0) (off := 0) fld_26_0 (lt_of rfl) trivial))
      (oC (oY (b := (decide (b.f_Height < 1))) rfl rfl rfl rfl (lt_of rfl) (decide_eq_false hq1) (r_loadB (l := 0) (off := 0) (T := 26) (cs := [.d (.val (.int .i64 b.f_Height)), .d (.val (strV b.f_Prev)), .d (dsl tb_ false (k_api_Envelope tb_) b.f_Requests), .d (dsl tb_ false (k_api_Result tb_) b.f_Results)]) (c := .d (.val (.int .i64 b.f_Height))) wide_3 rfl (lt_of rfl) trivial))
      (oC (oY (b := (decide (b.f_Height < 1))) rfl rfl rfl rfl (lt_of rfl) (decide_eq_false hq1) (r_bin (u1 := .int .i64 b.f_Height) (u2 := .int .i64 1099511627776) (v := .bool (decide (b.f_Height > 1099511627776))) b_gtr (lt_of rfl) ⟨rfl, trivial⟩))
      (oC (oS rfl rfl (r_pickF (b := (decide (b.f_Height < 1))) (av := dv (.bool (decide (b.f_Height > 1099511627776)))) (lt_of rfl) trivial (decide_eq_false hq1))) (oZ rfl)))))))))
      (by kernel_rfl) (by kernel_rfl) ?_
    refine nT ?_
    by_cases hq2 : b.f_Height > 1099511627776
    · refine T.condT (b := (decide (b.f_Height > 1099511627776))) rfl (decide_eq_true hq2) ?_
      refine T.seq ?_
      refine tR (s1 := ⟨[.tv (.agg [.d (.val (.int .i64 b.f_Height)), .d (.val (strV b.f_Prev)), .d (dsl tb_ false (k_api_Envelope tb_) b.f_Requests), .d (dsl tb_ false (k_api_Result tb_) b.f_Results)]), pv 0 0, dv (.int .i64 100), aa, aa, aa, aa, aa, aa, aa, dv (.bool (decide (b.f_Height > 1099511627776)))], [.live (.box 26 [.d (.val (.int .i64 b.f_Height)), .d (.val (strV b.f_Prev)), .d (dsl tb_ false (k_api_Envelope tb_) b.f_Requests), .d (dsl tb_ false (k_api_Result tb_) b.f_Results)])]⟩) (bm 11 1031) [true]
        (oC (oS rfl rfl (r_assign (av := dv (.int .i64 100)) (lt_of rfl) ⟨rfl, trivial⟩)) (oZ rfl))
        (by kernel_rfl) (by kernel_rfl) ?_
      refine nT ?_
      refine T.ret ?_
      refine rT ?_
      exact tE (.inl rfl) [.t 2 (.one (.d (.val (.int .i64 100))))] ⟨⟨rfl, rfl⟩, trivial⟩ [] (by have e1 : ((chkB b) : Int) = 100 := (by first | rfl | (unfold chkB; first | rw [if_pos (by omega)] | (rw [if_neg (by omega)]; first | rw [if_pos (by omega)] | rw [if_neg (by omega)]))); have hE := congrArg (fun (q1 : Int) => (dv (.int .i64 q1) : AV)) e1; exact hE) rfl rfl rfl rfl rfl trivial
    · refine T.condF (b := (decide (b.f_Height > 1099511627776))) rfl (decide_eq_false hq2) ?_
      refine T.skip ?_
      refine nT ?_
      refine T.seq ?_
      refine T.seq ?_
      by_cases hq3 : ((b.f_Requests.length : Nat) : Int) ≠ ((b.f_Results.length : Nat) : Int)
      · refine tR (s1 := ⟨[.tv (.agg [.d (.val (.int .i64 b.f_Height)), .d (.val (strV b.f_Prev)), .d (dsl tb_ false (k_api_Envelope tb_) b.f_Requests), .d (dsl tb_ false (k_api_Result tb_) b.f_Results)]), pv 0 0, dv (.int .i64 0), aa, aa, aa, aa, aa, aa, aa, dv (.bool (decide (b.f_Height > 1099511627776))), aa, aa, aa, aa, aa, aa, aa, aa, aa, aa, aa, aa, dv (.bool true)], [.live (.box 26 [.d (.val (.int .i64 b.f_Height)), .d (.val (strV b.f_Prev)), .d (dsl tb_ false (k_api_Envelope tb_) b.f_Requests), .d (dsl tb_ false (k_api_Result tb_) b.f_Results)])]⟩) (bm 24 8389639) [true]
          (oC (oS rfl rfl (r_fieldAddr (l := 0) (off := 0) fld_26_2 (lt_of rfl) trivial))
          (oC (oS rfl rfl (r_loadB (l := 0) (off := 2) (T := 26) (cs := [.d (.val (.int .i64 b.f_Height)), .d (.val (strV b.f_Prev)), .d (dsl tb_ false (k_api_Envelope tb_) b.f_Requests), .d (dsl tb_ false (k_api_Result tb_) b.f_Results)]) (c := .d (dsl tb_ false (k_api_Envelope tb_) b.f_Requests)) wide_23 rfl (lt_of rfl) trivial))
          (oC (oS rfl rfl (q_len tb_ false (k_api_Envelope tb_) b.f_Requests Try.underlying23 (lt_of rfl) trivial))
          (oC (oS rfl rfl (r_fieldAddr (l := 0) (off := 0) fld_26_3 (lt_of rfl) trivial))
          (oC (oS rfl rfl (r_loadB (l := 0) (off := 3) (T := 26) (cs := [.d (.val (.int .i64 b.f_Height)), .d (.val (strV b.f_Prev)), .d (dsl tb_ false (k_api_Envelope tb_) b.f_Requests), .d (dsl tb_ false (k_api_Result tb_) b.f_Results)]) (c := .d (dsl tb_ false (k_api_Result tb_) b.f_Results)) wide_24 rfl (lt_of rfl) trivial))
          (oC (oS rfl rfl (q_len tb_ false (k_api_Result tb_) b.f_Results Try.underlying24 (lt_of rfl) trivial))
          (oC (oS rfl rfl (r_bin (u1 := .int .i64 ((b.f_Requests.length : Nat) : Int)) (u2 := .int .i64 ((b.f_Results.length : Nat) : Int)) (v := .bool (decide (((b.f_Requests.length : Nat) : Int) ≠ ((b.f_Results.length : Nat) : Int)))) b_neq (lt_of rfl) trivial))
          (oC (oS rfl rfl (r_move (av := dv (.bool (decide (((b.f_Requests.length : Nat) : Int) ≠ ((b.f_Results.length : Nat) : Int))))) (lt_of rfl) trivial))
          (oC (oN (b := (decide (((b.f_Requests.length : Nat) : Int) ≠ ((b.f_Results.length : Nat) : Int)))) rfl rfl rfl rfl (lt_of rfl) (decide_eq_true hq3) rfl (lt_of rfl))
          (oC (oN (b := (decide (((b.f_Requests.length : Nat) : Int) ≠ ((b.f_Results.length : Nat) : Int)))) rfl rfl rfl rfl (lt_of rfl) (decide_eq_true hq3) rfl (lt_of rfl))
          (oC (oN (b := (decide (((b.f_Requests.length : Nat) : Int) ≠ ((b.f_Results.length : Nat) : Int)))) rfl rfl rfl rfl (lt_of rfl) (decide_eq_true hq3) rfl (lt_of rfl))
          (oC (oN (b := (decide (((b.f_Requests.length : Nat) : Int) ≠ ((b.f_Results.length : Nat) : Int)))) rfl rfl rfl rfl (lt_of rfl) (decide_eq_true hq3) rfl (lt_of rfl))
          (oC (oS rfl rfl (r_pickT (b := (decide (((b.f_Requests.length : Nat) : Int) ≠ ((b.f_Results.length : Nat) : Int)))) (av := dv (.bool true)) (lt_of rfl) ⟨rfl, trivial⟩ (decide_eq_true hq3))) (oZ rfl))))))))))))))
          (by kernel_rfl) (by kernel_rfl) ?_
        refine nT ?_
        refine T.condT (b := true) rfl rfl ?_
        refine T.seq ?_
        refine tR (s1 := ⟨[.tv (.agg [.d (.val (.int .i64 b.f_Height)), .d (.val (strV b.f_Prev)), .d (dsl tb_ false (k_api_Envelope tb_) b.f_Requests), .d (dsl tb_ false (k_api_Result tb_) b.f_Results)]), pv 0 0, dv (.int .i64 102), aa, aa, aa, aa, aa, aa, aa, dv (.bool (decide (b.f_Height > 1099511627776))), aa, aa, aa, aa, aa, aa, aa, aa, aa, aa, aa, aa, dv (.bool true)], [.live (.box 26 [.d (.val (.int .i64 b.f_Height)), .d (.val (strV b.f_Prev)), .d (dsl tb_ false (k_api_Envelope tb_) b.f_Requests), .d (dsl tb_ false (k_api_Result tb_) b.f_Results)])]⟩) (bm 24 8389639) [true]
          (oC (oS rfl rfl (r_assign (av := dv (.int .i64 102)) (lt_of rfl) ⟨rfl, trivial⟩)) (oZ rfl))
          (by kernel_rfl) (by kernel_rfl) ?_
        refine nT ?_
        refine T.ret ?_
        refine rT ?_
        exact tE (.inl rfl) [.t 2 (.one (.d (.val (.int .i64 102))))] ⟨⟨rfl, rfl⟩, trivial⟩ [] (by have e1 : ((chkB b) : Int) = 102 := (by first | rfl | (unfold chkB; first | rw [if_pos (by omega)] | (rw [if_neg (by omega)]; first | rw [if_pos (by omega)] | rw [if_neg (by omega)]))); have hE := congrArg (fun (q1 : Int) => (dv (.int .i64 q1) : AV)) e1; exact hE) rfl rfl rfl rfl rfl trivial
      · refine tR (s1 := ⟨[.tv (.agg [.d (.val (.int .i64 b.f_Height)), .d (.val (strV b.f_Prev)), .d (dsl tb_ false (k_api_Envelope tb_) b.f_Requests), .d (dsl tb_ false (k_api_Result tb_) b.f_Results)]), pv 0 0, dv (.int .i64 0), aa, aa, aa, aa, aa, aa, aa, dv (.bool (decide (b.f_Height > 1099511627776))), aa, aa, aa, aa, aa, aa, aa, aa, aa, aa, aa, aa, dv (.bool (decide (((b.f_Requests.length : Nat) : Int) > 4)))], [.live (.box 26 [.d (.val (.int .i64 b.f_Height)), .d (.val (strV b.f_Prev)), .d (dsl tb_ false (k_api_Envelope tb_) b.f_Requests), .d (dsl tb_ false (k_api_Result tb_) b.f_Results)])]⟩) (bm 24 8389639) [true]
          (oC (oS rfl rfl (r_fieldAddr (l := 0) (off := 0) fld_26_2 (lt_of rfl) trivial))
          (oC (oS rfl rfl (r_loadB (l := 0) (off := 2) (T := 26) (cs := [.d (.val (.int .i64 b.f_Height)), .d (.val (strV b.f_Prev)), .d (dsl tb_ false (k_api_Envelope tb_) b.f_Requests), .d (dsl tb_ false (k_api_Result tb_) b.f_Results)]) (c := .d (dsl tb_ false (k_api_Envelope tb_) b.f_Requests)) wide_23 rfl (lt_of rfl) trivial))
          (oC (oS rfl rfl (q_len tb_ false (k_api_Envelope tb_) b.f_Requests Try.underlying23 (lt_of rfl) trivial))
          (oC (oS rfl rfl (r_fieldAddr (l := 0) (off := 0) fld_26_3 (lt_of rfl) trivial))
          (oC (oS rfl rfl (r_loadB (l := 0) (off := 3) (T := 26) (cs := [.d (.val (.int .i64 b.f_Height)), .d (.val (strV b.f_Prev)), .d (dsl tb_ false (k_api_Envelope tb_) b.f_Requests), .d (dsl tb_ false (k_api_Result tb_) b.f_Results)]) (c := .d (dsl tb_ false (k_api_Result tb_) b.f_Results)) wide_24 rfl (lt_of rfl) trivial))
          (oC (oS rfl rfl (q_len tb_ false (k_api_Result tb_) b.f_Results Try.underlying24 (lt_of rfl) trivial))
          (oC (oS rfl rfl (r_bin (u1 := .int .i64 ((b.f_Requests.length : Nat) : Int)) (u2 := .int .i64 ((b.f_Results.length : Nat) : Int)) (v := .bool (decide (((b.f_Requests.length : Nat) : Int) ≠ ((b.f_Results.length : Nat) : Int)))) b_neq (lt_of rfl) trivial))
          (oC (oS rfl rfl (r_move (av := dv (.bool (decide (((b.f_Requests.length : Nat) : Int) ≠ ((b.f_Results.length : Nat) : Int))))) (lt_of rfl) trivial))
          (oC (oY (b := (decide (((b.f_Requests.length : Nat) : Int) ≠ ((b.f_Results.length : Nat) : Int)))) rfl rfl rfl rfl (lt_of rfl) (decide_eq_false hq3) (r_fieldAddr (l := 0) (off := 0) fld_26_2 (lt_of rfl) trivial))
          (oC (oY (b := (decide (((b.f_Requests.length : Nat) : Int) ≠ ((b.f_Results.length : Nat) : Int)))) rfl rfl rfl rfl (lt_of rfl) (decide_eq_false hq3) (r_loadB (l := 0) (off := 2) (T := 26) (cs := [.d (.val (.int .i64 b.f_Height)), .d (.val (strV b.f_Prev)), .d (dsl tb_ false (k_api_Envelope tb_) b.f_Requests), .d (dsl tb_ false (k_api_Result tb_) b.f_Results)]) (c := .d (dsl tb_ false (k_api_Envelope tb_) b.f_Requests)) wide_23 rfl (lt_of rfl) trivial))
          (oC (oY (b := (decide (((b.f_Requests.length : Nat) : Int) ≠ ((b.f_Results.length : Nat) : Int)))) rfl rfl rfl rfl (lt_of rfl) (decide_eq_false hq3) (q_len tb_ false (k_api_Envelope tb_) b.f_Requests Try.underlying23 (lt_of rfl) trivial))
          (oC (oY (b := (decide (((b.f_Requests.length : Nat) : Int) ≠ ((b.f_Results.length : Nat) : Int)))) rfl rfl rfl rfl (lt_of rfl) (decide_eq_false hq3) (r_bin (u1 := .int .i64 ((b.f_Requests.length : Nat) : Int)) (u2 := .int .i64 4) (v := .bool (decide (((b.f_Requests.length : Nat) : Int) > 4))) b_gtr (lt_of rfl) ⟨rfl, trivial⟩))
          (oC (oS rfl rfl (r_pickF (b := (decide (((b.f_Requests.length : Nat) : Int) ≠ ((b.f_Results.length : Nat) : Int)))) (av := dv (.bool (decide (((b.f_Requests.length : Nat) : Int) > 4)))) (lt_of rfl) trivial (decide_eq_false hq3))) (oZ rfl))))))))))))))
          (by kernel_rfl) (by kernel_rfl) ?_
        refine nT ?_
        by_cases hq4 : ((b.f_Requests.length : Nat) : Int) > 4
        · refine T.condT (b := (decide (((b.f_Requests.length : Nat) : Int) > 4))) rfl (decide_eq_true hq4) ?_
          refine T.seq ?_
          refine tR (s1 := ⟨[.tv (.agg [.d (.val (.int .i64 b.f_Height)), .d (.val (strV b.f_Prev)), .d (dsl tb_ false (k_api_Envelope tb_) b.f_Requests), .d (dsl tb_ false (k_api_Result tb_) b.f_Results)]), pv 0 0, dv (.int .i64 102), aa, aa, aa, aa, aa, aa, aa, dv (.bool (decide (b.f_Height > 1099511627776))), aa, aa, aa, aa, aa, aa, aa, aa, aa, aa, aa, aa, dv (.bool (decide (((b.f_Requests.length : Nat) : Int) > 4)))], [.live (.box 26 [.d (.val (.int .i64 b.f_Height)), .d (.val (strV b.f_Prev)), .d (dsl tb_ false (k_api_Envelope tb_) b.f_Requests), .d (dsl tb_ false (k_api_Result tb_) b.f_Results)])]⟩) (bm 24 8389639) [true]
            (oC (oS rfl rfl (r_assign (av := dv (.int .i64 102)) (lt_of rfl) ⟨rfl, trivial⟩)) (oZ rfl))
            (by kernel_rfl) (by kernel_rfl) ?_
          refine nT ?_
          refine T.ret ?_
          refine rT ?_
          exact tE (.inl rfl) [.t 2 (.one (.d (.val (.int .i64 102))))] ⟨⟨rfl, rfl⟩, trivial⟩ [] (by have e1 : ((chkB b) : Int) = 102 := (by first | rfl | (unfold chkB; first | rw [if_pos (by omega)] | (rw [if_neg (by omega)]; first | rw [if_pos (by omega)] | rw [if_neg (by omega)]))); have hE := congrArg (fun (q1 : Int) => (dv (.int .i64 q1) : AV)) e1; exact hE) rfl rfl rfl rfl rfl trivial
        · refine T.condF (b := (decide (((b.f_Requests.length : Nat) : Int) > 4))) rfl (decide_eq_false hq4) ?_
          refine T.skip ?_
          refine nT ?_
          refine T.seq ?_
          refine tR (s1 := ⟨[.tv (.agg [.d (.val (.int .i64 b.f_Height)), .d (.val (strV b.f_Prev)), .d (dsl tb_ false (k_api_Envelope tb_) b.f_Requests), .d (dsl tb_ false (k_api_Result tb_) b.f_Results)]), pv 0 0, dv (.int .i64 0), aa, aa, aa, aa, aa, aa, aa, dv (.bool (decide (b.f_Height > 1099511627776))), aa, aa, aa, aa, aa, aa, aa, aa, aa, aa, aa, aa, dv (.bool (decide (((b.f_Requests.length : Nat) : Int) > 4)))], [.live (.box 26 [.d (.val (.int .i64 b.f_Height)), .d (.val (strV b.f_Prev)), .d (dsl tb_ false (k_api_Envelope tb_) b.f_Requests), .d (dsl tb_ false (k_api_Result tb_) b.f_Results)])]⟩) (bm 24 8389639) [true]
            (oC (oS rfl rfl (r_assign (av := dv (.int .i64 0)) (lt_of rfl) ⟨rfl, trivial⟩)) (oZ rfl))
            (by kernel_rfl) (by kernel_rfl) ?_
          refine nT ?_
          refine T.ret ?_
          exact tE (.inl rfl) [.t 2 (.one (.d (.val (.int .i64 0))))] ⟨⟨rfl, rfl⟩, trivial⟩ [] (by have e1 : ((chkB b) : Int) = 0 := (by first | rfl | (unfold chkB; first | rw [if_pos (by omega)] | (rw [if_neg (by omega)]; first | rw [if_pos (by omega)] | rw [if_neg (by omega)]))); have hE := congrArg (fun (q1 : Int) => (dv (.int .i64 q1) : AV)) e1; exact hE) rfl rfl rfl rfl rfl trivial

theorem elem_60 : Elem Try.prog 60 29 1 24 := ⟨Try.underlying60, _, _, iat_29, rfl, rfl, rfl, rfl, by decide⟩
theorem iat_32 : Try.prog.info? 32 = some Try.t32 := by kernel_rfl
theorem wide_32 : Wide Try.prog 32 (some 2) := ⟨_, _, Try.underlying32, .inl ⟨_, rfl⟩, iat_32, rfl⟩
theorem iat_35 : Try.prog.info? 35 = some Try.t35 := by kernel_rfl
theorem wide_35 : Wide Try.prog 35 (some 2) := ⟨_, _, Try.underlying35, .inl ⟨_, rfl⟩, iat_35, rfl⟩
theorem cells_29 : Cells Try.prog 29 1 := ⟨_, iat_29, rfl⟩
-- quaestor/block.leaves
theorem block_leaves (tb_ : Bool) (b : api_Block) (hf : fewB b) : Holds Try.prog 32 ⟨[.tv (.agg [.d (.val (.int .i64 b.f_Height)), .d (.val (strV b.f_Prev)), .d (dsl tb_ false (k_api_Envelope tb_) b.f_Requests), .d (dsl tb_ false (k_api_Result tb_) b.f_Results)])], [], ownV 0 (kSl false kU8) 0 (leavesB b).length, [.live (arrK 29 (kSl false kU8) (leavesB b))]⟩ := by
  refine Holds.of Try.func32 rfl (N := 34) Try.ntmps32 rfl fun w0 B0 S0 U0 => ?_
  show T _ (mkBase 34 0 w0 S0 U0 B0) ⟨[.tv (.agg [.d (.val (.int .i64 b.f_Height)), .d (.val (strV b.f_Prev)), .d (dsl tb_ false (k_api_Envelope tb_) b.f_Requests), .d (dsl tb_ false (k_api_Result tb_) b.f_Results)])], []⟩ _ _
  have hf1 := hf.1.1
  have hf2 := hf.2.1
  have hf3 := hf.2.2
  have hll := leaves_len b
  have hfl := few_leaves hf
  refine T.seq ?_
  refine tR (s1 := ⟨[.tv (.agg [.d (.val (.int .i64 b.f_Height)), .d (.val (strV b.f_Prev)), .d (dsl tb_ false (k_api_Envelope tb_) b.f_Requests), .d (dsl tb_ false (k_api_Result tb_) b.f_Results)]), pv 0 0, dv (.slice none 0 0)], [.live (.box 26 [.d (.val (.int .i64 b.f_Height)), .d (.val (strV b.f_Prev)), .d (dsl tb_ false (k_api_Envelope tb_) b.f_Requests), .d (dsl tb_ false (k_api_Result tb_) b.f_Results)])]⟩) [true, true, true] [true]
    (oC (oS rfl rfl (r_box (l := 0) (t := .agg [.d (.val (.int .i64 b.f_Height)), .d (.val (strV b.f_Prev)), .d (dsl tb_ false (k_api_Envelope tb_) b.f_Requests), .d (dsl tb_ false (k_api_Result tb_) b.f_Results)]) rfl (lt_of rfl) trivial))
    (oC (oS rfl rfl (r_assign (av := dv (.slice none 0 0)) (lt_of rfl) ⟨rfl, trivial⟩)) (oZ rfl)))
    (by kernel_rfl) (by kernel_rfl) ?_
  refine nT ?_
  refine T.seq ?_
  refine tR (s1 := ⟨[.tv (.agg [.d (.val (.int .i64 b.f_Height)), .d (.val (strV b.f_Prev)), .d (dsl tb_ false (k_api_Envelope tb_) b.f_Requests), .d (dsl tb_ false (k_api_Result tb_) b.f_Results)]), pv 0 0, dv (.slice none 0 0), ownV 1 (kSl false kU8) 0 (fillL [] (leavesB b) 0).length], [.live (.box 26 [.d (.val (.int .i64 b.f_Height)), .d (.val (strV b.f_Prev)), .d (dsl tb_ false (k_api_Envelope tb_) b.f_Requests), .d (dsl tb_ false (k_api_Result tb_) b.f_Results)]), .live (arrK 29 (kSl false kU8) (fillL [] (leavesB b) 0))]⟩) (bm 4 15) [true, true]
    (oC (oS rfl rfl (r_fieldAddr (l := 0) (off := 0) fld_26_2 (lt_of rfl) trivial))
    (oC (oS rfl rfl (r_loadB (l := 0) (off := 2) (T := 26) (cs := [.d (.val (.int .i64 b.f_Height)), .d (.val (strV b.f_Prev)), .d (dsl tb_ false (k_api_Envelope tb_) b.f_Requests), .d (dsl tb_ false (k_api_Result tb_) b.f_Results)]) (c := .d (dsl tb_ false (k_api_Envelope tb_) b.f_Requests)) wide_23 rfl (lt_of rfl) trivial))
    (oC (oS rfl rfl (q_len tb_ false (k_api_Envelope tb_) b.f_Requests Try.underlying23 (lt_of rfl) trivial))
    (oC (oS rfl rfl (r_fieldAddr (l := 0) (off := 0) fld_26_3 (lt_of rfl) trivial))
    (oC (oS rfl rfl (r_loadB (l := 0) (off := 3) (T := 26) (cs := [.d (.val (.int .i64 b.f_Height)), .d (.val (strV b.f_Prev)), .d (dsl tb_ false (k_api_Envelope tb_) b.f_Requests), .d (dsl tb_ false (k_api_Result tb_) b.f_Results)]) (c := .d (dsl tb_ false (k_api_Result tb_) b.f_Results)) wide_24 rfl (lt_of rfl) trivial))
    (oC (oS rfl rfl (q_len tb_ false (k_api_Result tb_) b.f_Results Try.underlying24 (lt_of rfl) trivial))
    (oC (oS rfl rfl (r_minN (k := .i64) (a := b.f_Requests.length) (b := b.f_Results.length) (lt_of rfl) trivial))
    (oC (oS rfl rfl (q_makeW 1 29 24 (kSl false kU8) (fillL [] (leavesB b) 0) (min b.f_Requests.length b.f_Results.length) (min b.f_Requests.length b.f_Results.length) (p := ((min b.f_Requests.length b.f_Results.length : Nat) : Int)) (q := ((min b.f_Requests.length b.f_Results.length : Nat) : Int)) elem_60 zero_29 rfl rfl (by first | assumption | omega | (unfold maxLen; omega) | (simp [maxLen] <;> omega) | decide) (by first | assumption | omega | (unfold maxLen; omega) | (simp [maxLen] <;> omega) | decide) (by first | assumption | omega | (unfold maxLen; omega) | (simp [maxLen] <;> omega) | decide) (by intro j hj; replace hj : j < 1 := hj; rcases j with _ | j <;> first | exact .inl rfl | exact .inr ⟨rfl, rfl, rfl⟩ | omega) (by first | (rw [fill_0, hll]; rfl) | (rw [fill_0, hll]; simp; done)) (lt_of rfl) trivial))
    (oC (oS rfl rfl (r_assign (av := ownV 1 (kSl false kU8) 0 (fillL [] (leavesB b) 0).length) (lt_of rfl) trivial)) (oZ rfl))))))))))
    (by kernel_rfl) (by kernel_rfl) ?_
  refine nT ?_
  refine T.seq ?_
  refine T.seq ?_
  refine tR (s1 := ⟨[.tv (.agg [.d (.val (.int .i64 b.f_Height)), .d (.val (strV b.f_Prev)), .d (dsl tb_ false (k_api_Envelope tb_) b.f_Requests), .d (dsl tb_ false (k_api_Result tb_) b.f_Results)]), pv 0 0, dv (.slice none 0 0), ownV 1 (kSl false kU8) 0 (fillL [] (leavesB b) 0).length, aa, aa, aa, aa, aa, aa, aa, aa, aa, aa, dv (.int .i64 (((fillL [] (leavesB b) 0).length : Nat) : Int)), dv (.int .i64 0)], [.live (.box 26 [.d (.val (.int .i64 b.f_Height)), .d (.val (strV b.f_Prev)), .d (dsl tb_ false (k_api_Envelope tb_) b.f_Requests), .d (dsl tb_ false (k_api_Result tb_) b.f_Results)]), .live (arrK 29 (kSl false kU8) (fillL [] (leavesB b) 0))]⟩) (bm 16 49167) [true, true]
    (oC (oS rfl rfl (r_move (av := ownV 1 (kSl false kU8) 0 (fillL [] (leavesB b) 0).length) (lt_of rfl) trivial))
    (oC (oS rfl rfl (r_lenO (l := 1) (sz := (kSl false kU8).sz) (off := 0) (n := (fillL [] (leavesB b) 0).length) Try.underlying60 (lt_of rfl) trivial))
    (oC (oS rfl rfl (r_move (av := dv (.int .i64 0)) (lt_of rfl) ⟨rfl, trivial⟩)) (oZ rfl))))
    (by kernel_rfl) (by kernel_rfl) ?_
  refine nT ?_
  refine T.block ?_
  refine T.loop (ι := Nat) (fun (k : Nat) => ⟨[aa, pv 0 0, aa, ownV 1 (kSl false kU8) 0 (fillL [] (leavesB b) k).length, aa, aa, aa, aa, aa, aa, aa, aa, aa, aa, dv (.int .i64 (((leavesB b).length : Nat) : Int)), dv (.int .i64 ((k : Nat) : Int))], [.live (.box 26 [.d (.val (.int .i64 b.f_Height)), .d (.val (strV b.f_Prev)), .d (dsl tb_ false (k_api_Envelope tb_) b.f_Requests), .d (dsl tb_ false (k_api_Result tb_) b.f_Results)]), .live (arrK 29 (kSl false kU8) (fillL [] (leavesB b) k))]⟩) (fun (k : Nat) => (k ≤ (leavesB b).length)) (fun (k : Nat) => (leavesB b).length - k) (0) (Nat.zero_le _) (fun _ _ hG => Gs.into2 (s := ⟨[.tv (.agg [.d (.val (.int .i64 b.f_Height)), .d (.val (strV b.f_Prev)), .d (dsl tb_ false (k_api_Envelope tb_) b.f_Requests), .d (dsl tb_ false (k_api_Result tb_) b.f_Results)]), pv 0 0, dv (.slice none 0 0), ownV 1 (kSl false kU8) 0 (fillL [] (leavesB b) 0).length, aa, aa, aa, aa, aa, aa, aa, aa, aa, aa, dv (.int .i64 (((fillL [] (leavesB b) 0).length : Nat) : Int)), dv (.int .i64 0)], [.live (.box 26 [.d (.val (.int .i64 b.f_Height)), .d (.val (strV b.f_Prev)), .d (dsl tb_ false (k_api_Envelope tb_) b.f_Requests), .d (dsl tb_ false (k_api_Result tb_) b.f_Results)]), .live (arrK 29 (kSl false kU8) (fillL [] (leavesB b) 0))]⟩) (s' := ⟨[aa, pv 0 0, aa, ownV 1 (kSl false kU8) 0 (fillL [] (leavesB b) 0).length, aa, aa, aa, aa, aa, aa, aa, aa, aa, aa, dv (.int .i64 (((leavesB b).length : Nat) : Int)), dv (.int .i64 0)], [.live (.box 26 [.d (.val (.int .i64 b.f_Height)), .d (.val (strV b.f_Prev)), .d (dsl tb_ false (k_api_Envelope tb_) b.f_Requests), .d (dsl tb_ false (k_api_Result tb_) b.f_Results)]), .live (arrK 29 (kSl false kU8) (fillL [] (leavesB b) 0))]⟩) [0, 1] (bm 16 49162) (t1 := [aa, pv 0 0, aa, ownV 1 (kSl false kU8) 0 (fillL [] (leavesB b) 0).length, aa, aa, aa, aa, aa, aa, aa, aa, aa, aa, dv (.int .i64 (((leavesB b).length : Nat) : Int)), dv (.int .i64 0)]) (t2 := [aa, pv 0 0, aa, ownV 1 (kSl false kU8) 0 (fillL [] (leavesB b) 0).length, aa, aa, aa, aa, aa, aa, aa, aa, aa, aa, dv (.int .i64 (((fillL [] (leavesB b) 0).length : Nat) : Int)), dv (.int .i64 0)]) (h1 := [.live (.box 26 [.d (.val (.int .i64 b.f_Height)), .d (.val (strV b.f_Prev)), .d (dsl tb_ false (k_api_Envelope tb_) b.f_Requests), .d (dsl tb_ false (k_api_Result tb_) b.f_Results)]), .live (arrK 29 (kSl false kU8) (fillL [] (leavesB b) 0))]) (h2 := [.live (.box 26 [.d (.val (.int .i64 b.f_Height)), .d (.val (strV b.f_Prev)), .d (dsl tb_ false (k_api_Envelope tb_) b.f_Requests), .d (dsl tb_ false (k_api_Result tb_) b.f_Results)]), .live (arrK 29 (kSl false kU8) (fillL [] (leavesB b) 0))]) (by have e1 : ((((leavesB b).length : Nat) : Int) : Int) = (((fillL [] (leavesB b) 0).length : Nat) : Int) := (by first | rfl | (simp only [fill_len]; first | done | rfl | omega)); have hE := congrArg (fun (q1 : Int) => ([aa, pv 0 0, aa, ownV 1 (kSl false kU8) 0 (fillL [] (leavesB b) 0).length, aa, aa, aa, aa, aa, aa, aa, aa, aa, aa, dv (.int .i64 q1), dv (.int .i64 0)] : List AV)) e1; exact hE) rfl (by kernel_rfl) (by kernel_rfl) (by kernel_rfl) (by kernel_rfl) (by kernel_rfl) (by kernel_rfl) (by kernel_rfl) (by kernel_rfl) (by kernel_rfl) (by kernel_rfl) (by kernel_rfl) hG) ?_
  rintro k hk
  show T _ _ ⟨[aa, pv 0 0, aa, ownV 1 (kSl false kU8) 0 (fillL [] (leavesB b) k).length, aa, aa, aa, aa, aa, aa, aa, aa, aa, aa, dv (.int .i64 (((leavesB b).length : Nat) : Int)), dv (.int .i64 ((k : Nat) : Int))], [.live (.box 26 [.d (.val (.int .i64 b.f_Height)), .d (.val (strV b.f_Prev)), .d (dsl tb_ false (k_api_Envelope tb_) b.f_Requests), .d (dsl tb_ false (k_api_Result tb_) b.f_Results)]), .live (arrK 29 (kSl false kU8) (fillL [] (leavesB b) k))]⟩ _ _
  replace hk : k ≤ (leavesB b).length := hk
  have hf1 := hf.1.1
  have hf2 := hf.2.1
  have hf3 := hf.2.2
  have hll := leaves_len b
  have hfl := few_leaves hf
  have hbk : (b.f_Requests.getD k z_api_Envelope).f_Body.length ≤ 500 := fewG_get (sz := szE) hf.1 (by decide) k
  have hfk := fill_len ([] : List UInt8) (leavesB b) k
  refine T.seq ?_
  refine tR (s1 := ⟨[aa, pv 0 0, aa, ownV 1 (kSl false kU8) 0 (fillL [] (leavesB b) k).length, aa, aa, aa, aa, aa, aa, aa, aa, aa, aa, dv (.int .i64 (((leavesB b).length : Nat) : Int)), dv (.int .i64 ((k : Nat) : Int)), dv (.bool (decide (((k : Nat) : Int) < (((leavesB b).length : Nat) : Int))))], [.live (.box 26 [.d (.val (.int .i64 b.f_Height)), .d (.val (strV b.f_Prev)), .d (dsl tb_ false (k_api_Envelope tb_) b.f_Requests), .d (dsl tb_ false (k_api_Result tb_) b.f_Results)]), .live (arrK 29 (kSl false kU8) (fillL [] (leavesB b) k))]⟩) (bm 17 114698) [true, true]
    (oC (oS rfl rfl (r_bin (u1 := .int .i64 ((k : Nat) : Int)) (u2 := .int .i64 (((leavesB b).length : Nat) : Int)) (v := .bool (decide (((k : Nat) : Int) < (((leavesB b).length : Nat) : Int)))) b_lss (lt_of rfl) trivial)) (oZ rfl))
    (by kernel_rfl) (by kernel_rfl) ?_
  refine nT ?_
  refine T.seq ?_
  by_cases hq1 : ((k : Nat) : Int) < (((leavesB b).length : Nat) : Int)
  · refine T.condT (b := (decide (((k : Nat) : Int) < (((leavesB b).length : Nat) : Int)))) rfl (decide_eq_true hq1) ?_
    refine T.skip ?_
    refine nT ?_
    refine T.seq ?_
    refine T.block ?_
    refine T.seq ?_
    refine tR (s1 := ⟨[aa, pv 0 0, aa, ownV 1 (kSl false kU8) 0 (fillL [] (leavesB b) k).length, dv (.int .i64 ((k : Nat) : Int)), aa, aa, aa, aa, aa, aa, aa, aa, aa, dv (.int .i64 (((leavesB b).length : Nat) : Int)), dv (.int .i64 ((k : Nat) : Int)), dv (.bool (decide (((k : Nat) : Int) < (((leavesB b).length : Nat) : Int))))], [.live (.box 26 [.d (.val (.int .i64 b.f_Height)), .d (.val (strV b.f_Prev)), .d (dsl tb_ false (k_api_Envelope tb_) b.f_Requests), .d (dsl tb_ false (k_api_Result tb_) b.f_Results)]), .live (arrK 29 (kSl false kU8) (fillL [] (leavesB b) k))]⟩) (bm 17 114714) [true, true]
      (oC (oS rfl rfl (r_move (av := dv (.int .i64 ((k : Nat) : Int))) (lt_of rfl) trivial))
      (oC (oS rfl rfl (r_assign (av := dv (.int .i64 ((k : Nat) : Int))) (lt_of rfl) trivial)) (oZ rfl)))
      (by kernel_rfl) (by kernel_rfl) ?_
    refine nT ?_
    refine tD (s1 := ⟨[aa, pv 0 0, aa, ownV 1 (kSl false kU8) 0 (fillL [] (leavesB b) k).length, dv (.int .i64 ((k : Nat) : Int)), aa, aa, aa, aa, aa, aa, aa, aa, aa, dv (.int .i64 (((leavesB b).length : Nat) : Int)), dv (.int .i64 ((k : Nat) : Int)), dv (.bool (decide (((k : Nat) : Int) < (((leavesB b).length : Nat) : Int))))], [.live (.box 26 [.d (.val (.int .i64 b.f_Height)), .d (.val (strV b.f_Prev)), .d (dsl tb_ false (k_api_Envelope tb_) b.f_Requests), .d (dsl tb_ false (k_api_Result tb_) b.f_Results)]), .live (arrK 29 (kSl false kU8) ((fillL [] (leavesB b) k).set k (leafB (b.f_Requests.getD k z_api_Envelope) (b.f_Results.getD k z_api_Result)))), .dead]⟩) (by kernel_rfl) [[], [], [], [2], [], [2, 3, 4], [2, 3, 4, 5], [], [7], [], [7, 8, 9], [7, 8, 9, 10], [2, 3, 4, 5, 6, 7, 8, 9, 10, 11], [0, 1, 2, 3, 4, 5, 6, 7, 8, 9, 10, 11, 12], [0, 1, 2, 3, 4, 5, 6, 7, 8, 9, 10, 11, 12, 13]] (bm 17 114714) [true, true, true]
      (oC (oS rfl rfl (r_move (av := ownV 1 (kSl false kU8) 0 (fillL [] (leavesB b) k).length) (lt_of rfl) trivial))
      (oC (oS rfl rfl (r_move (av := dv (.int .i64 ((k : Nat) : Int))) (lt_of rfl) trivial))
      (oC (oS rfl rfl (r_fieldAddr (l := 0) (off := 0) fld_26_2 (lt_of rfl) trivial))
      (oC (oS rfl rfl (r_loadB (l := 0) (off := 2) (T := 26) (cs := [.d (.val (.int .i64 b.f_Height)), .d (.val (strV b.f_Prev)), .d (dsl tb_ false (k_api_Envelope tb_) b.f_Requests), .d (dsl tb_ false (k_api_Result tb_) b.f_Results)]) (c := .d (dsl tb_ false (k_api_Envelope tb_) b.f_Requests)) wide_23 rfl (lt_of rfl) trivial))
      (oC (oS rfl rfl (r_move (av := dv (.int .i64 ((k : Nat) : Int))) (lt_of rfl) trivial))
      (oC (oS rfl rfl (q_index tb_ false (k_api_Envelope tb_) b.f_Requests k (k := .i64) (i := ((k : Nat) : Int)) Try.underlying23 iat_32 rfl rfl (by first | assumption | omega | (unfold maxLen; omega) | (simp [maxLen] <;> omega) | decide) (lt_of rfl) trivial))
      (oC (oS rfl rfl (r_loadEs (tag := tb_) (n := 2) (m := 2) (el := (k_api_Envelope tb_).cell (b.f_Requests.getD k (k_api_Envelope tb_).z)) (ds := [.d (.val (.int .i64 (b.f_Requests.getD k z_api_Envelope).f_Signer)), .d (dsl tb_ false kU8 (b.f_Requests.getD k z_api_Envelope).f_Body)]) wide_32 (by decide) rfl (lt_of rfl) trivial))
      (oC (oS rfl rfl (r_fieldAddr (l := 0) (off := 0) fld_26_3 (lt_of rfl) trivial))
      (oC (oS rfl rfl (r_loadB (l := 0) (off := 3) (T := 26) (cs := [.d (.val (.int .i64 b.f_Height)), .d (.val (strV b.f_Prev)), .d (dsl tb_ false (k_api_Envelope tb_) b.f_Requests), .d (dsl tb_ false (k_api_Result tb_) b.f_Results)]) (c := .d (dsl tb_ false (k_api_Result tb_) b.f_Results)) wide_24 rfl (lt_of rfl) trivial))
      (oC (oS rfl rfl (r_move (av := dv (.int .i64 ((k : Nat) : Int))) (lt_of rfl) trivial))
      (oC (oS rfl rfl (q_index tb_ false (k_api_Result tb_) b.f_Results k (k := .i64) (i := ((k : Nat) : Int)) Try.underlying24 iat_35 rfl rfl (by first | assumption | omega | (unfold maxLen; omega) | (simp [maxLen] <;> omega) | decide) (lt_of rfl) trivial))
      (oC (oS rfl rfl (r_loadEs (tag := tb_) (n := 2) (m := 2) (el := (k_api_Result tb_).cell (b.f_Results.getD k (k_api_Result tb_).z)) (ds := [.d (.val (.int .i64 (b.f_Results.getD k z_api_Result).f_Code)), .d (.val (.int .i64 (b.f_Results.getD k z_api_Result).f_Stage))]) wide_35 (by decide) rfl (lt_of rfl) trivial))
      (oC (oS rfl rfl (r_call (block_Leaf tb_ (b.f_Requests.getD k z_api_Envelope) (b.f_Results.getD k z_api_Result) (by first | assumption | omega | (unfold maxLen; omega) | (simp [maxLen] <;> omega) | decide)) Try.func10 rfl (by decide) [2] [] (l := [(.tmp 24, .tv (.agg [.d (.val (.int .i64 (b.f_Requests.getD k z_api_Envelope).f_Signer)), .d (dsl tb_ false kU8 (b.f_Requests.getD k z_api_Envelope).f_Body)])), (.tmp 29, .tv (.agg [.d (.val (.int .i64 (b.f_Results.getD k z_api_Result).f_Code)), .d (.val (.int .i64 (b.f_Results.getD k z_api_Result).f_Stage))]))]) [] rfl 0 1 rfl rfl rfl rfl rfl rfl rfl rfl rfl ⟨⟨.inl ⟨rfl, rfl⟩, ⟨.inl ⟨rfl, rfl⟩, trivial⟩⟩, ⟨⟨.inl ⟨rfl, rfl⟩, ⟨.inl ⟨rfl, rfl⟩, trivial⟩⟩, trivial⟩⟩ rfl (fun b hb => by cases hb) (.inl rfl) (lt_of rfl) trivial))
      (oC (oS rfl rfl (r_indexO (k := .i64) (l := 1) (sz := (kSl false kU8).sz) (off := 0) (n := (fillL [] (leavesB b) k).length) (i := ((k : Nat) : Int)) (m := k) (o' := k * (kSl false kU8).sz + 0) Try.underlying60 iat_29 rfl rfl (by first | assumption | omega | (unfold maxLen; omega) | (simp [maxLen] <;> omega) | decide) (by first | rfl | simp) (lt_of rfl) trivial))
      (oC (oS rfl rfl (ORule.frz 1 30 2 5 kU8 (leafB (b.f_Requests.getD k z_api_Envelope) (b.f_Results.getD k z_api_Result)) (av := ownV 2 kU8 0 (leafB (b.f_Requests.getD k z_api_Envelope) (b.f_Results.getD k z_api_Result)).length) (q_storeA 1 29 (kSl false kU8) (fillL [] (leavesB b) k) (leafB (b.f_Requests.getD k z_api_Envelope) (b.f_Results.getD k z_api_Result)) k 0 1 [dsl false false kU8 (leafB (b.f_Requests.getD k z_api_Envelope) (b.f_Results.getD k z_api_Result))] (tv := .one (.d (dsl false false kU8 (leafB (b.f_Requests.getD k z_api_Envelope) (b.f_Results.getD k z_api_Result))))) (off := k * (kSl false kU8).sz + 0) cells_29 ⟨(.inl rfl), trivial⟩ rfl rfl (by first | assumption | omega | (unfold maxLen; omega) | (simp [maxLen] <;> omega) | decide) (by decide) rfl (by intro j hj; replace hj : j < 1 := hj; rcases j with _ | j <;> first | rfl | omega) trivial) rfl (.inr (.inr ⟨rfl, rfl, rfl, (fun h => by cases h), rfl, rfl, by omega, fun i j _ => by rw [Nat.zero_add]⟩)) (by intro h; cases h) rfl rfl)) (oZ rfl))))))))))))))))
      (by kernel_rfl) (by kernel_rfl) (by kernel_rfl) (by kernel_rfl) (by kernel_rfl) ?_
    refine nB ?_
    refine nT ?_
    refine tR (s1 := ⟨[aa, pv 0 0, aa, ownV 1 (kSl false kU8) 0 (fillL [] (leavesB b) k).length, dv (.int .i64 ((k : Nat) : Int)), aa, aa, aa, aa, aa, aa, aa, aa, aa, dv (.int .i64 (((leavesB b).length : Nat) : Int)), dv (.int .i64 ((k + 1 : Nat) : Int)), dv (.bool (decide (((k : Nat) : Int) < (((leavesB b).length : Nat) : Int))))], [.live (.box 26 [.d (.val (.int .i64 b.f_Height)), .d (.val (strV b.f_Prev)), .d (dsl tb_ false (k_api_Envelope tb_) b.f_Requests), .d (dsl tb_ false (k_api_Result tb_) b.f_Results)]), .live (arrK 29 (kSl false kU8) ((fillL [] (leavesB b) k).set k (leafB (b.f_Requests.getD k z_api_Envelope) (b.f_Results.getD k z_api_Result)))), .dead]⟩) (bm 17 114714) [true, true, true]
      (oC (oS rfl rfl (r_bin (u1 := .int .i64 ((k : Nat) : Int)) (u2 := .int .i64 1) (v := .int .i64 ((k + 1 : Nat) : Int)) (b_add (by rw [IntKind.wrap_i64]; omega)) (lt_of rfl) ⟨rfl, trivial⟩))
      (oC (oS rfl rfl (r_move (av := dv (.int .i64 ((k + 1 : Nat) : Int))) (lt_of rfl) trivial)) (oZ rfl)))
      (by kernel_rfl) (by kernel_rfl) ?_
    refine Ends.turn (s' := ⟨[aa, pv 0 0, aa, ownV 1 (kSl false kU8) 0 (fillL [] (leavesB b) k).length, dv (.int .i64 ((k : Nat) : Int)), aa, aa, aa, aa, aa, aa, aa, aa, aa, dv (.int .i64 (((leavesB b).length : Nat) : Int)), dv (.int .i64 ((k + 1 : Nat) : Int)), dv (.bool (decide (((k : Nat) : Int) < (((leavesB b).length : Nat) : Int))))], [.live (.box 26 [.d (.val (.int .i64 b.f_Height)), .d (.val (strV b.f_Prev)), .d (dsl tb_ false (k_api_Envelope tb_) b.f_Requests), .d (dsl tb_ false (k_api_Result tb_) b.f_Results)]), .live (arrK 29 (kSl false kU8) (((fillL [] (leavesB b) k).set k (leafB (b.f_Requests.getD k z_api_Envelope) (b.f_Results.getD k z_api_Result))).take (fillL [] (leavesB b) k).length)), .dead]⟩) (fun _ _ hG => Gs.trunc 1 29 (kSl false kU8) ((fillL [] (leavesB b) k).set k (leafB (b.f_Requests.getD k z_api_Envelope) (b.f_Results.getD k z_api_Result))) (((fillL [] (leavesB b) k).set k (leafB (b.f_Requests.getD k z_api_Envelope) (b.f_Results.getD k z_api_Result))).take (fillL [] (leavesB b) k).length) (fillL [] (leavesB b) k).length rfl rfl hG) ?_
    refine nL (k + 1) (show (k + 1) ≤ (leavesB b).length from (by omega)) (show ((leavesB b).length - (k + 1) : Nat) < (leavesB b).length - k from (by omega)) (fun _ _ hG => Gs.into2 (s := ⟨[aa, pv 0 0, aa, ownV 1 (kSl false kU8) 0 (fillL [] (leavesB b) k).length, dv (.int .i64 ((k : Nat) : Int)), aa, aa, aa, aa, aa, aa, aa, aa, aa, dv (.int .i64 (((leavesB b).length : Nat) : Int)), dv (.int .i64 ((k + 1 : Nat) : Int)), dv (.bool (decide (((k : Nat) : Int) < (((leavesB b).length : Nat) : Int))))], [.live (.box 26 [.d (.val (.int .i64 b.f_Height)), .d (.val (strV b.f_Prev)), .d (dsl tb_ false (k_api_Envelope tb_) b.f_Requests), .d (dsl tb_ false (k_api_Result tb_) b.f_Results)]), .live (arrK 29 (kSl false kU8) (((fillL [] (leavesB b) k).set k (leafB (b.f_Requests.getD k z_api_Envelope) (b.f_Results.getD k z_api_Result))).take (fillL [] (leavesB b) k).length)), .dead]⟩) (s' := ⟨[aa, pv 0 0, aa, ownV 1 (kSl false kU8) 0 (fillL [] (leavesB b) (k + 1)).length, aa, aa, aa, aa, aa, aa, aa, aa, aa, aa, dv (.int .i64 (((leavesB b).length : Nat) : Int)), dv (.int .i64 ((k + 1 : Nat) : Int))], [.live (.box 26 [.d (.val (.int .i64 b.f_Height)), .d (.val (strV b.f_Prev)), .d (dsl tb_ false (k_api_Envelope tb_) b.f_Requests), .d (dsl tb_ false (k_api_Result tb_) b.f_Results)]), .live (arrK 29 (kSl false kU8) (fillL [] (leavesB b) (k + 1)))]⟩) [0, 1] (bm 16 49162) (t1 := [aa, pv 0 0, aa, ownV 1 (kSl false kU8) 0 (fillL [] (leavesB b) (k + 1)).length, aa, aa, aa, aa, aa, aa, aa, aa, aa, aa, dv (.int .i64 (((leavesB b).length : Nat) : Int)), dv (.int .i64 ((k + 1 : Nat) : Int))]) (t2 := [aa, pv 0 0, aa, ownV 1 (kSl false kU8) 0 (fillL [] (leavesB b) k).length, aa, aa, aa, aa, aa, aa, aa, aa, aa, aa, dv (.int .i64 (((leavesB b).length : Nat) : Int)), dv (.int .i64 ((k + 1 : Nat) : Int))]) (h1 := [.live (.box 26 [.d (.val (.int .i64 b.f_Height)), .d (.val (strV b.f_Prev)), .d (dsl tb_ false (k_api_Envelope tb_) b.f_Requests), .d (dsl tb_ false (k_api_Result tb_) b.f_Results)]), .live (arrK 29 (kSl false kU8) (fillL [] (leavesB b) (k + 1)))]) (h2 := [.live (.box 26 [.d (.val (.int .i64 b.f_Height)), .d (.val (strV b.f_Prev)), .d (dsl tb_ false (k_api_Envelope tb_) b.f_Requests), .d (dsl tb_ false (k_api_Result tb_) b.f_Results)]), .live (arrK 29 (kSl false kU8) (((fillL [] (leavesB b) k).set k (leafB (b.f_Requests.getD k z_api_Envelope) (b.f_Results.getD k z_api_Result))).take (fillL [] (leavesB b) k).length))]) (by have e1 : ((fillL [] (leavesB b) (k + 1)).length : Nat) = (fillL [] (leavesB b) k).length := (by first | rfl | (rw [← leaves_get (by omega) (by omega), fill_set (by omega), List.take_of_length_le (by simp only [fill_len]; omega)]) | (simp only [fill_len, List.length_set])); have hE := congrArg (fun (q1 : Nat) => ([aa, pv 0 0, aa, ownV 1 (kSl false kU8) 0 q1, aa, aa, aa, aa, aa, aa, aa, aa, aa, aa, dv (.int .i64 (((leavesB b).length : Nat) : Int)), dv (.int .i64 ((k + 1 : Nat) : Int))] : List AV)) e1; exact hE) (by have e1 : ((fillL [] (leavesB b) (k + 1)) : List (List UInt8)) = (((fillL [] (leavesB b) k).set k (leafB (b.f_Requests.getD k z_api_Envelope) (b.f_Results.getD k z_api_Result))).take (fillL [] (leavesB b) k).length) := (by first | rfl | (rw [← leaves_get (by omega) (by omega), fill_set (by omega), List.take_of_length_le (by simp only [fill_len]; omega)]) | (simp only [fill_len, List.length_set])); have hE := congrArg (fun (q1 : List (List UInt8)) => ([.live (.box 26 [.d (.val (.int .i64 b.f_Height)), .d (.val (strV b.f_Prev)), .d (dsl tb_ false (k_api_Envelope tb_) b.f_Requests), .d (dsl tb_ false (k_api_Result tb_) b.f_Results)]), .live (arrK 29 (kSl false kU8) q1)] : List HS)) e1; exact hE) (by kernel_rfl) (by kernel_rfl) (by kernel_rfl) (by kernel_rfl) (by kernel_rfl) (by kernel_rfl) (by kernel_rfl) (by kernel_rfl) (by kernel_rfl) (by kernel_rfl) (by kernel_rfl) hG)
  · refine T.condF (b := (decide (((k : Nat) : Int) < (((leavesB b).length : Nat) : Int)))) rfl (decide_eq_false hq1) ?_
    refine T.exit ?_
    refine xT ?_
    refine xT ?_
    refine xH ?_
    refine nT ?_
    refine T.seq ?_
    refine tR (s1 := ⟨[aa, pv 0 0, ownV 1 (kSl false kU8) 0 (fillL [] (leavesB b) k).length, ownV 1 (kSl false kU8) 0 (fillL [] (leavesB b) k).length, aa, aa, aa, aa, aa, aa, aa, aa, aa, aa, dv (.int .i64 (((leavesB b).length : Nat) : Int)), dv (.int .i64 ((k : Nat) : Int)), dv (.bool (decide (((k : Nat) : Int) < (((leavesB b).length : Nat) : Int))))], [.live (.box 26 [.d (.val (.int .i64 b.f_Height)), .d (.val (strV b.f_Prev)), .d (dsl tb_ false (k_api_Envelope tb_) b.f_Requests), .d (dsl tb_ false (k_api_Result tb_) b.f_Results)]), .live (arrK 29 (kSl false kU8) (fillL [] (leavesB b) k))]⟩) (bm 17 114702) [true, true]
      (oC (oS rfl rfl (r_move (av := ownV 1 (kSl false kU8) 0 (fillL [] (leavesB b) k).length) (lt_of rfl) trivial))
      (oC (oS rfl rfl (r_assign (av := ownV 1 (kSl false kU8) 0 (fillL [] (leavesB b) k).length) (lt_of rfl) trivial)) (oZ rfl)))
      (by kernel_rfl) (by kernel_rfl) ?_
    refine nT ?_
    refine T.ret ?_
    exact tE (.inl rfl) [.t 2 (.one (.own 1 (kSl false kU8).sz 0 (fillL [] (leavesB b) k).length))] ⟨⟨rfl, rfl⟩, trivial⟩ [1] (by have e1 : ((leavesB b).length : Nat) = (fillL [] (leavesB b) k).length := (by first | rfl | (rw [fill_end (by omega)])); have hE := congrArg (fun (q1 : Nat) => (ownV 1 (kSl false kU8) 0 q1 : AV)) e1; exact hE) rfl rfl rfl rfl rfl ⟨⟨rfl, (by have e1 : ((fillL [] (leavesB b) k) : List (List UInt8)) = (leavesB b) := (by first | rfl | (rw [fill_end (by omega)])); have hE := congrArg (fun (q1 : List (List UInt8)) => (.live (arrK 29 (kSl false kU8) q1) : HS)) e1; exact hE)⟩, trivial⟩

-- quaestor/quaestorref10.leaves
theorem ref10_leaves (tb_ : Bool) (b : api_Block) (hf : fewB b) : Holds Try.prog 34 ⟨[.tv (.agg [.d (.val (.int .i64 b.f_Height)), .d (.val (strV b.f_Prev)), .d (dsl tb_ false (k_api_Envelope tb_) b.f_Requests), .d (dsl tb_ false (k_api_Result tb_) b.f_Results)])], [], ownV 0 (kSl false kU8) 0 (leavesB b).length, [.live (arrK 29 (kSl false kU8) (leavesB b))]⟩ := by
  refine Holds.of Try.func34 rfl (N := 34) Try.ntmps34 rfl fun w0 B0 S0 U0 => ?_
  show T _ (mkBase 34 0 w0 S0 U0 B0) ⟨[.tv (.agg [.d (.val (.int .i64 b.f_Height)), .d (.val (strV b.f_Prev)), .d (dsl tb_ false (k_api_Envelope tb_) b.f_Requests), .d (dsl tb_ false (k_api_Result tb_) b.f_Results)])], []⟩ _ _
  have hf1 := hf.1.1
  have hf2 := hf.2.1
  have hf3 := hf.2.2
  have hll := leaves_len b
  have hfl := few_leaves hf
  refine T.seq ?_
  refine tR (s1 := ⟨[.tv (.agg [.d (.val (.int .i64 b.f_Height)), .d (.val (strV b.f_Prev)), .d (dsl tb_ false (k_api_Envelope tb_) b.f_Requests), .d (dsl tb_ false (k_api_Result tb_) b.f_Results)]), pv 0 0, dv (.slice none 0 0)], [.live (.box 26 [.d (.val (.int .i64 b.f_Height)), .d (.val (strV b.f_Prev)), .d (dsl tb_ false (k_api_Envelope tb_) b.f_Requests), .d (dsl tb_ false (k_api_Result tb_) b.f_Results)])]⟩) [true, true, true] [true]
    (oC (oS rfl rfl (r_box (l := 0) (t := .agg [.d (.val (.int .i64 b.f_Height)), .d (.val (strV b.f_Prev)), .d (dsl tb_ false (k_api_Envelope tb_) b.f_Requests), .d (dsl tb_ false (k_api_Result tb_) b.f_Results)]) rfl (lt_of rfl) trivial))
    (oC (oS rfl rfl (r_assign (av := dv (.slice none 0 0)) (lt_of rfl) ⟨rfl, trivial⟩)) (oZ rfl)))
    (by kernel_rfl) (by kernel_rfl) ?_
  refine nT ?_
  refine T.seq ?_
  refine tR (s1 := ⟨[.tv (.agg [.d (.val (.int .i64 b.f_Height)), .d (.val (strV b.f_Prev)), .d (dsl tb_ false (k_api_Envelope tb_) b.f_Requests), .d (dsl tb_ false (k_api_Result tb_) b.f_Results)]), pv 0 0, dv (.slice none 0 0), dv (.slice none 0 0)], [.live (.box 26 [.d (.val (.int .i64 b.f_Height)), .d (.val (strV b.f_Prev)), .d (dsl tb_ false (k_api_Envelope tb_) b.f_Requests), .d (dsl tb_ false (k_api_Result tb_) b.f_Results)])]⟩) (bm 4 15) [true]
    (oC (oS rfl rfl (r_assign (av := dv (.slice none 0 0)) (lt_of rfl) ⟨rfl, trivial⟩)) (oZ rfl))
    (by kernel_rfl) (by kernel_rfl) ?_
  refine nT ?_
  refine T.seq ?_
  refine T.seq ?_
  refine tR (s1 := ⟨[.tv (.agg [.d (.val (.int .i64 b.f_Height)), .d (.val (strV b.f_Prev)), .d (dsl tb_ false (k_api_Envelope tb_) b.f_Requests), .d (dsl tb_ false (k_api_Result tb_) b.f_Results)]), pv 0 0, dv (.slice none 0 0), dv (.slice none 0 0), dv (.int .i64 0)], [.live (.box 26 [.d (.val (.int .i64 b.f_Height)), .d (.val (strV b.f_Prev)), .d (dsl tb_ false (k_api_Envelope tb_) b.f_Requests), .d (dsl tb_ false (k_api_Result tb_) b.f_Results)])]⟩) (bm 5 31) [true]
    (oC (oS rfl rfl (r_assign (av := dv (.int .i64 0)) (lt_of rfl) ⟨rfl, trivial⟩)) (oZ rfl))
    (by kernel_rfl) (by kernel_rfl) ?_
  refine nT ?_
  refine T.block ?_
  refine T.turn (s' := ⟨[.tv (.agg [.d (.val (.int .i64 b.f_Height)), .d (.val (strV b.f_Prev)), .d (dsl tb_ false (k_api_Envelope tb_) b.f_Requests), .d (dsl tb_ false (k_api_Result tb_) b.f_Results)]), pv 0 0, dv (.slice none 0 0), ownV 1 (kSl false kU8) 0 0, dv (.int .i64 0)], [.live (.box 26 [.d (.val (.int .i64 b.f_Height)), .d (.val (strV b.f_Prev)), .d (dsl tb_ false (k_api_Envelope tb_) b.f_Requests), .d (dsl tb_ false (k_api_Result tb_) b.f_Results)]), .live (arrK 29 (kSl false kU8) ([] : List (List UInt8)))]⟩) (fun _ _ hG => Gs.absent 1 3 29 (kSl false kU8) rfl rfl hG) ?_
  refine T.loop (ι := Nat) (fun (k : Nat) => ⟨[aa, pv 0 0, aa, ownV 1 (kSl false kU8) 0 ((leavesB b).take k).length, dv (.int .i64 ((k : Nat) : Int))], [.live (.box 26 [.d (.val (.int .i64 b.f_Height)), .d (.val (strV b.f_Prev)), .d (dsl tb_ false (k_api_Envelope tb_) b.f_Requests), .d (dsl tb_ false (k_api_Result tb_) b.f_Results)]), .live (arrK 29 (kSl false kU8) ((leavesB b).take k))]⟩) (fun (k : Nat) => (k ≤ (leavesB b).length)) (fun (k : Nat) => (leavesB b).length - k) (0) (Nat.zero_le _) (fun _ _ hG => Gs.into2 (s := ⟨[.tv (.agg [.d (.val (.int .i64 b.f_Height)), .d (.val (strV b.f_Prev)), .d (dsl tb_ false (k_api_Envelope tb_) b.f_Requests), .d (dsl tb_ false (k_api_Result tb_) b.f_Results)]), pv 0 0, dv (.slice none 0 0), ownV 1 (kSl false kU8) 0 0, dv (.int .i64 0)], [.live (.box 26 [.d (.val (.int .i64 b.f_Height)), .d (.val (strV b.f_Prev)), .d (dsl tb_ false (k_api_Envelope tb_) b.f_Requests), .d (dsl tb_ false (k_api_Result tb_) b.f_Results)]), .live (arrK 29 (kSl false kU8) ([] : List (List UInt8)))]⟩) (s' := ⟨[aa, pv 0 0, aa, ownV 1 (kSl false kU8) 0 ((leavesB b).take 0).length, dv (.int .i64 0)], [.live (.box 26 [.d (.val (.int .i64 b.f_Height)), .d (.val (strV b.f_Prev)), .d (dsl tb_ false (k_api_Envelope tb_) b.f_Requests), .d (dsl tb_ false (k_api_Result tb_) b.f_Results)]), .live (arrK 29 (kSl false kU8) ((leavesB b).take 0))]⟩) [0, 1] (bm 5 26) (t1 := [aa, pv 0 0, aa, ownV 1 (kSl false kU8) 0 ((leavesB b).take 0).length, dv (.int .i64 0)]) (t2 := [aa, pv 0 0, aa, ownV 1 (kSl false kU8) 0 0, dv (.int .i64 0)]) (h1 := [.live (.box 26 [.d (.val (.int .i64 b.f_Height)), .d (.val (strV b.f_Prev)), .d (dsl tb_ false (k_api_Envelope tb_) b.f_Requests), .d (dsl tb_ false (k_api_Result tb_) b.f_Results)]), .live (arrK 29 (kSl false kU8) ((leavesB b).take 0))]) (h2 := [.live (.box 26 [.d (.val (.int .i64 b.f_Height)), .d (.val (strV b.f_Prev)), .d (dsl tb_ false (k_api_Envelope tb_) b.f_Requests), .d (dsl tb_ false (k_api_Result tb_) b.f_Results)]), .live (arrK 29 (kSl false kU8) ([] : List (List UInt8)))]) (by have e1 : (((leavesB b).take 0).length : Nat) = 0 := (by first | rfl); have hE := congrArg (fun (q1 : Nat) => ([aa, pv 0 0, aa, ownV 1 (kSl false kU8) 0 q1, dv (.int .i64 0)] : List AV)) e1; exact hE) (by have e1 : (((leavesB b).take 0) : List (List UInt8)) = ([] : List (List UInt8)) := (by first | rfl); have hE := congrArg (fun (q1 : List (List UInt8)) => ([.live (.box 26 [.d (.val (.int .i64 b.f_Height)), .d (.val (strV b.f_Prev)), .d (dsl tb_ false (k_api_Envelope tb_) b.f_Requests), .d (dsl tb_ false (k_api_Result tb_) b.f_Results)]), .live (arrK 29 (kSl false kU8) q1)] : List HS)) e1; exact hE) (by kernel_rfl) (by kernel_rfl) (by kernel_rfl) (by kernel_rfl) (by kernel_rfl) (by kernel_rfl) (by kernel_rfl) (by kernel_rfl) (by kernel_rfl) (by kernel_rfl) (by kernel_rfl) hG) ?_
  rintro k hk
  show T _ _ ⟨[aa, pv 0 0, aa, ownV 1 (kSl false kU8) 0 ((leavesB b).take k).length, dv (.int .i64 ((k : Nat) : Int))], [.live (.box 26 [.d (.val (.int .i64 b.f_Height)), .d (.val (strV b.f_Prev)), .d (dsl tb_ false (k_api_Envelope tb_) b.f_Requests), .d (dsl tb_ false (k_api_Result tb_) b.f_Results)]), .live (arrK 29 (kSl false kU8) ((leavesB b).take k))]⟩ _ _
  replace hk : k ≤ (leavesB b).length := hk
  have hf1 := hf.1.1
  have hf2 := hf.2.1
  have hf3 := hf.2.2
  have hll := leaves_len b
  have hfl := few_leaves hf
  have hbk : (b.f_Requests.getD k z_api_Envelope).f_Body.length ≤ 500 := fewG_get (sz := szE) hf.1 (by decide) k
  refine T.seq ?_
  refine T.seq ?_
  by_cases hq1 : ((k : Nat) : Int) < ((b.f_Requests.length : Nat) : Int)
  · refine tR (s1 := ⟨[aa, pv 0 0, aa, ownV 1 (kSl false kU8) 0 ((leavesB b).take k).length, dv (.int .i64 ((k : Nat) : Int)), aa, aa, aa, aa, aa, aa, aa, aa, aa, aa, aa, dv (.bool (decide (((k : Nat) : Int) < ((b.f_Results.length : Nat) : Int))))], [.live (.box 26 [.d (.val (.int .i64 b.f_Height)), .d (.val (strV b.f_Prev)), .d (dsl tb_ false (k_api_Envelope tb_) b.f_Requests), .d (dsl tb_ false (k_api_Result tb_) b.f_Results)]), .live (arrK 29 (kSl false kU8) ((leavesB b).take k))]⟩) (bm 17 65562) [true, true]
      (oC (oS rfl rfl (r_move (av := dv (.int .i64 ((k : Nat) : Int))) (lt_of rfl) trivial))
      (oC (oS rfl rfl (r_fieldAddr (l := 0) (off := 0) fld_26_2 (lt_of rfl) trivial))
      (oC (oS rfl rfl (r_loadB (l := 0) (off := 2) (T := 26) (cs := [.d (.val (.int .i64 b.f_Height)), .d (.val (strV b.f_Prev)), .d (dsl tb_ false (k_api_Envelope tb_) b.f_Requests), .d (dsl tb_ false (k_api_Result tb_) b.f_Results)]) (c := .d (dsl tb_ false (k_api_Envelope tb_) b.f_Requests)) wide_23 rfl (lt_of rfl) trivial))
      (oC (oS rfl rfl (q_len tb_ false (k_api_Envelope tb_) b.f_Requests Try.underlying23 (lt_of rfl) trivial))
      (oC (oS rfl rfl (r_bin (u1 := .int .i64 ((k : Nat) : Int)) (u2 := .int .i64 ((b.f_Requests.length : Nat) : Int)) (v := .bool (decide (((k : Nat) : Int) < ((b.f_Requests.length : Nat) : Int)))) b_lss (lt_of rfl) trivial))
      (oC (oS rfl rfl (r_move (av := dv (.bool (decide (((k : Nat) : Int) < ((b.f_Requests.length : Nat) : Int))))) (lt_of rfl) trivial))
      (oC (oY (b := (decide (((k : Nat) : Int) < ((b.f_Requests.length : Nat) : Int)))) rfl rfl rfl rfl (lt_of rfl) (decide_eq_true hq1) (r_move (av := dv (.int .i64 ((k : Nat) : Int))) (lt_of rfl) trivial))
      (oC (oY (b := (decide (((k : Nat) : Int) < ((b.f_Requests.length : Nat) : Int)))) rfl rfl rfl rfl (lt_of rfl) (decide_eq_true hq1) (r_fieldAddr (l := 0) (off := 0) fld_26_3 (lt_of rfl) trivial))
      (oC (oY (b := (decide (((k : Nat) : Int) < ((b.f_Requests.length : Nat) : Int)))) rfl rfl rfl rfl (lt_of rfl) (decide_eq_true hq1) (r_loadB (l := 0) (off := 3) (T := 26) (cs := [.d (.val (.int .i64 b.f_Height)), .d (.val (strV b.f_Prev)), .d (dsl tb_ false (k_api_Envelope tb_) b.f_Requests), .d (dsl tb_ false (k_api_Result tb_) b.f_Results)]) (c := .d (dsl tb_ false (k_api_Result tb_) b.f_Results)) wide_24 rfl (lt_of rfl) trivial))
      (oC (oY (b := (decide (((k : Nat) : Int) < ((b.f_Requests.length : Nat) : Int)))) rfl rfl rfl rfl (lt_of rfl) (decide_eq_true hq1) (q_len tb_ false (k_api_Result tb_) b.f_Results Try.underlying24 (lt_of rfl) trivial))
      (oC (oY (b := (decide (((k : Nat) : Int) < ((b.f_Requests.length : Nat) : Int)))) rfl rfl rfl rfl (lt_of rfl) (decide_eq_true hq1) (r_bin (u1 := .int .i64 ((k : Nat) : Int)) (u2 := .int .i64 ((b.f_Results.length : Nat) : Int)) (v := .bool (decide (((k : Nat) : Int) < ((b.f_Results.length : Nat) : Int)))) b_lss (lt_of rfl) trivial))
      (oC (oS rfl rfl (r_pickT (b := (decide (((k : Nat) : Int) < ((b.f_Requests.length : Nat) : Int)))) (av := dv (.bool (decide (((k : Nat) : Int) < ((b.f_Results.length : Nat) : Int))))) (lt_of rfl) trivial (decide_eq_true hq1))) (oZ rfl)))))))))))))
      (by kernel_rfl) (by kernel_rfl) ?_
    refine nT ?_
    by_cases hq2 : ((k : Nat) : Int) < ((b.f_Results.length : Nat) : Int)
    · refine T.condT (b := (decide (((k : Nat) : Int) < ((b.f_Results.length : Nat) : Int)))) rfl (decide_eq_true hq2) ?_
      refine T.skip ?_
      refine nT ?_
      refine T.seq ?_
      refine T.block ?_
      refine tD (s1 := ⟨[aa, pv 0 0, aa, ownV 4 (kSl false kU8) 0 (((leavesB b).take k) ++ [leafB (b.f_Requests.getD k z_api_Envelope) (b.f_Results.getD k z_api_Result)]).length, dv (.int .i64 ((k : Nat) : Int)), aa, aa, aa, aa, aa, aa, aa, aa, aa, aa, aa, dv (.bool (decide (((k : Nat) : Int) < ((b.f_Results.length : Nat) : Int))))], [.live (.box 26 [.d (.val (.int .i64 b.f_Height)), .d (.val (strV b.f_Prev)), .d (dsl tb_ false (k_api_Envelope tb_) b.f_Requests), .d (dsl tb_ false (k_api_Result tb_) b.f_Results)]), .dead, .dead, .live (arrK 29 (kSl false kU8) [leafB (b.f_Requests.getD k z_api_Envelope) (b.f_Results.getD k z_api_Result)]), .live (arrK 29 (kSl false kU8) (((leavesB b).take k) ++ [leafB (b.f_Requests.getD k z_api_Envelope) (b.f_Results.getD k z_api_Result)]))]⟩) (by kernel_rfl) [[], [], [1], [], [1, 2, 3], [1, 2, 3, 4], [], [6], [], [6, 7, 8], [6, 7, 8, 9], [1, 2, 3, 4, 5, 6, 7, 8, 9, 10], [1, 2, 3, 4, 5, 6, 7, 8, 9, 10, 11], [0, 1, 2, 3, 4, 5, 6, 7, 8, 9, 10, 11, 12], [0, 1, 2, 3, 4, 5, 6, 7, 8, 9, 10, 11, 12, 13]] (bm 17 65562) (bm 5 31)
        (oC (oS rfl rfl (r_move (av := ownV 1 (kSl false kU8) 0 ((leavesB b).take k).length) (lt_of rfl) trivial))
        (oC (oS rfl rfl (r_fieldAddr (l := 0) (off := 0) fld_26_2 (lt_of rfl) trivial))
        (oC (oS rfl rfl (r_loadB (l := 0) (off := 2) (T := 26) (cs := [.d (.val (.int .i64 b.f_Height)), .d (.val (strV b.f_Prev)), .d (dsl tb_ false (k_api_Envelope tb_) b.f_Requests), .d (dsl tb_ false (k_api_Result tb_) b.f_Results)]) (c := .d (dsl tb_ false (k_api_Envelope tb_) b.f_Requests)) wide_23 rfl (lt_of rfl) trivial))
        (oC (oS rfl rfl (r_move (av := dv (.int .i64 ((k : Nat) : Int))) (lt_of rfl) trivial))
        (oC (oS rfl rfl (q_index tb_ false (k_api_Envelope tb_) b.f_Requests k (k := .i64) (i := ((k : Nat) : Int)) Try.underlying23 iat_32 rfl rfl (by first | assumption | omega | (unfold maxLen; omega) | (simp [maxLen] <;> omega) | decide) (lt_of rfl) trivial))
        (oC (oS rfl rfl (r_loadEs (tag := tb_) (n := 2) (m := 2) (el := (k_api_Envelope tb_).cell (b.f_Requests.getD k (k_api_Envelope tb_).z)) (ds := [.d (.val (.int .i64 (b.f_Requests.getD k z_api_Envelope).f_Signer)), .d (dsl tb_ false kU8 (b.f_Requests.getD k z_api_Envelope).f_Body)]) wide_32 (by decide) rfl (lt_of rfl) trivial))
        (oC (oS rfl rfl (r_fieldAddr (l := 0) (off := 0) fld_26_3 (lt_of rfl) trivial))
        (oC (oS rfl rfl (r_loadB (l := 0) (off := 3) (T := 26) (cs := [.d (.val (.int .i64 b.f_Height)), .d (.val (strV b.f_Prev)), .d (dsl tb_ false (k_api_Envelope tb_) b.f_Requests), .d (dsl tb_ false (k_api_Result tb_) b.f_Results)]) (c := .d (dsl tb_ false (k_api_Result tb_) b.f_Results)) wide_24 rfl (lt_of rfl) trivial))
        (oC (oS rfl rfl (r_move (av := dv (.int .i64 ((k : Nat) : Int))) (lt_of rfl) trivial))
        (oC (oS rfl rfl (q_index tb_ false (k_api_Result tb_) b.f_Results k (k := .i64) (i := ((k : Nat) : Int)) Try.underlying24 iat_35 rfl rfl (by first | assumption | omega | (unfold maxLen; omega) | (simp [maxLen] <;> omega) | decide) (lt_of rfl) trivial))
        (oC (oS rfl rfl (r_loadEs (tag := tb_) (n := 2) (m := 2) (el := (k_api_Result tb_).cell (b.f_Results.getD k (k_api_Result tb_).z)) (ds := [.d (.val (.int .i64 (b.f_Results.getD k z_api_Result).f_Code)), .d (.val (.int .i64 (b.f_Results.getD k z_api_Result).f_Stage))]) wide_35 (by decide) rfl (lt_of rfl) trivial))
        (oC (oS rfl rfl (r_call (ref10_Leaf tb_ (b.f_Requests.getD k z_api_Envelope) (b.f_Results.getD k z_api_Result) (by first | assumption | omega | (unfold maxLen; omega) | (simp [maxLen] <;> omega) | decide)) Try.func11 rfl (by decide) [2] [] (l := [(.tmp 24, .tv (.agg [.d (.val (.int .i64 (b.f_Requests.getD k z_api_Envelope).f_Signer)), .d (dsl tb_ false kU8 (b.f_Requests.getD k z_api_Envelope).f_Body)])), (.tmp 29, .tv (.agg [.d (.val (.int .i64 (b.f_Results.getD k z_api_Result).f_Code)), .d (.val (.int .i64 (b.f_Results.getD k z_api_Result).f_Stage))]))]) [] rfl 0 1 rfl rfl rfl rfl rfl rfl rfl rfl rfl ⟨⟨.inl ⟨rfl, rfl⟩, ⟨.inl ⟨rfl, rfl⟩, trivial⟩⟩, ⟨⟨.inl ⟨rfl, rfl⟩, ⟨.inl ⟨rfl, rfl⟩, trivial⟩⟩, trivial⟩⟩ rfl (fun b hb => by cases hb) (.inl rfl) (lt_of rfl) trivial))
        (oC (oS rfl rfl (ORule.frz 0 30 2 5 kU8 (leafB (b.f_Requests.getD k z_api_Envelope) (b.f_Results.getD k z_api_Result)) (av := ownV 2 kU8 0 (leafB (b.f_Requests.getD k z_api_Envelope) (b.f_Results.getD k z_api_Result)).length) (q_buildSlice 3 29 (kSl false kU8) (kSl_ok false kU8) [leafB (b.f_Requests.getD k z_api_Envelope) (b.f_Results.getD k z_api_Result)] [⟨0, .tmp 30, .one (.d (dsl false false kU8 (leafB (b.f_Requests.getD k z_api_Envelope) (b.f_Results.getD k z_api_Result)))), 0⟩] (cs := [.d (dsl false false kU8 (leafB (b.f_Requests.getD k z_api_Envelope) (b.f_Results.getD k z_api_Result)))]) Try.underlying60 iat_29 rfl zero_29 rfl rfl rfl (Nat.le_of_ble_eq_true rfl) (part_cons rfl rfl (Nat.le_of_ble_eq_true rfl) part_ok) rfl ⟨(.inl rfl), trivial⟩ (lt_of rfl) trivial) rfl (.inr (.inr ⟨rfl, rfl, rfl, (fun h => by cases h), rfl, rfl, by omega, fun i j _ => by rw [Nat.zero_add]⟩)) (by intro h; cases h) rfl rfl))
        (oC (oS rfl rfl (q_appendO 1 4 29 24 (kSl false kU8) (kSl_ok false kU8) ((leavesB b).take k) [leafB (b.f_Requests.getD k z_api_Envelope) (b.f_Results.getD k z_api_Result)] (((leavesB b).take k) ++ [leafB (b.f_Requests.getD k z_api_Envelope) (b.f_Results.getD k z_api_Result)]) ((leavesB b).take k).length (sy := (.own 3 (kSl false kU8).sz 0 [leafB (b.f_Requests.getD k z_api_Envelope) (b.f_Results.getD k z_api_Result)].length)) (rhs := [(3, .live (arrK 29 (kSl false kU8) [leafB (b.f_Requests.getD k z_api_Envelope) (b.f_Results.getD k z_api_Result)]))]) elem_60 (by first | assumption | omega | (unfold maxLen; omega) | (simp [maxLen] <;> omega) | decide) (src_own 3 29 (kSl false kU8) [leafB (b.f_Requests.getD k z_api_Envelope) (b.f_Results.getD k z_api_Result)]) (by rw [List.take_length]) (by first | assumption | omega | (unfold maxLen; omega) | (simp [maxLen] <;> omega) | decide) (by first | assumption | omega | (unfold maxLen; omega) | (simp [maxLen] <;> omega) | decide) (lt_of rfl) trivial))
        (oC (oS rfl rfl (r_assign (av := ownV 4 (kSl false kU8) 0 (((leavesB b).take k) ++ [leafB (b.f_Requests.getD k z_api_Envelope) (b.f_Results.getD k z_api_Result)]).length) (lt_of rfl) trivial)) (oZ rfl))))))))))))))))
        (by kernel_rfl) (by kernel_rfl) (by kernel_rfl) (by kernel_rfl) (by kernel_rfl) ?_
      refine nB ?_
      refine nT ?_
      refine tR (s1 := ⟨[aa, pv 0 0, aa, ownV 4 (kSl false kU8) 0 (((leavesB b).take k) ++ [leafB (b.f_Requests.getD k z_api_Envelope) (b.f_Results.getD k z_api_Result)]).length, dv (.int .i64 ((k + 1 : Nat) : Int)), aa, aa, aa, aa, aa, aa, aa, aa, aa, aa, aa, dv (.bool (decide (((k : Nat) : Int) < ((b.f_Results.length : Nat) : Int))))], [.live (.box 26 [.d (.val (.int .i64 b.f_Height)), .d (.val (strV b.f_Prev)), .d (dsl tb_ false (k_api_Envelope tb_) b.f_Requests), .d (dsl tb_ false (k_api_Result tb_) b.f_Results)]), .dead, .dead, .live (arrK 29 (kSl false kU8) [leafB (b.f_Requests.getD k z_api_Envelope) (b.f_Results.getD k z_api_Result)]), .live (arrK 29 (kSl false kU8) (((leavesB b).take k) ++ [leafB (b.f_Requests.getD k z_api_Envelope) (b.f_Results.getD k z_api_Result)]))]⟩) (bm 17 65562) (bm 5 31)
        (oC (oS rfl rfl (r_move (av := dv (.int .i64 ((k : Nat) : Int))) (lt_of rfl) trivial))
        (oC (oS rfl rfl (r_bin (u1 := .int .i64 ((k : Nat) : Int)) (u2 := .int .i64 1) (v := .int .i64 ((k + 1 : Nat) : Int)) (b_add (by rw [IntKind.wrap_i64]; omega)) (lt_of rfl) ⟨rfl, trivial⟩))
        (oC (oS rfl rfl (r_assign (av := dv (.int .i64 ((k + 1 : Nat) : Int))) (lt_of rfl) trivial)) (oZ rfl))))
        (by kernel_rfl) (by kernel_rfl) ?_
      refine nL (k + 1) (show (k + 1) ≤ (leavesB b).length from (by omega)) (show ((leavesB b).length - (k + 1) : Nat) < (leavesB b).length - k from (by omega)) (fun _ _ hG => Gs.into2 (s := ⟨[aa, pv 0 0, aa, ownV 4 (kSl false kU8) 0 (((leavesB b).take k) ++ [leafB (b.f_Requests.getD k z_api_Envelope) (b.f_Results.getD k z_api_Result)]).length, dv (.int .i64 ((k + 1 : Nat) : Int)), aa, aa, aa, aa, aa, aa, aa, aa, aa, aa, aa, dv (.bool (decide (((k : Nat) : Int) < ((b.f_Results.length : Nat) : Int))))], [.live (.box 26 [.d (.val (.int .i64 b.f_Height)), .d (.val (strV b.f_Prev)), .d (dsl tb_ false (k_api_Envelope tb_) b.f_Requests), .d (dsl tb_ false (k_api_Result tb_) b.f_Results)]), .dead, .dead, .live (arrK 29 (kSl false kU8) [leafB (b.f_Requests.getD k z_api_Envelope) (b.f_Results.getD k z_api_Result)]), .live (arrK 29 (kSl false kU8) (((leavesB b).take k) ++ [leafB (b.f_Requests.getD k z_api_Envelope) (b.f_Results.getD k z_api_Result)]))]⟩) (s' := ⟨[aa, pv 0 0, aa, ownV 1 (kSl false kU8) 0 ((leavesB b).take (k + 1)).length, dv (.int .i64 ((k + 1 : Nat) : Int))], [.live (.box 26 [.d (.val (.int .i64 b.f_Height)), .d (.val (strV b.f_Prev)), .d (dsl tb_ false (k_api_Envelope tb_) b.f_Requests), .d (dsl tb_ false (k_api_Result tb_) b.f_Results)]), .live (arrK 29 (kSl false kU8) ((leavesB b).take (k + 1)))]⟩) [0, 4] (bm 5 26) (t1 := [aa, pv 0 0, aa, ownV 4 (kSl false kU8) 0 ((leavesB b).take (k + 1)).length, dv (.int .i64 ((k + 1 : Nat) : Int))]) (t2 := [aa, pv 0 0, aa, ownV 4 (kSl false kU8) 0 (((leavesB b).take k) ++ [leafB (b.f_Requests.getD k z_api_Envelope) (b.f_Results.getD k z_api_Result)]).length, dv (.int .i64 ((k + 1 : Nat) : Int))]) (h1 := [.live (.box 26 [.d (.val (.int .i64 b.f_Height)), .d (.val (strV b.f_Prev)), .d (dsl tb_ false (k_api_Envelope tb_) b.f_Requests), .d (dsl tb_ false (k_api_Result tb_) b.f_Results)]), .live (arrK 29 (kSl false kU8) ((leavesB b).take (k + 1)))]) (h2 := [.live (.box 26 [.d (.val (.int .i64 b.f_Height)), .d (.val (strV b.f_Prev)), .d (dsl tb_ false (k_api_Envelope tb_) b.f_Requests), .d (dsl tb_ false (k_api_Result tb_) b.f_Results)]), .live (arrK 29 (kSl false kU8) (((leavesB b).take k) ++ [leafB (b.f_Requests.getD k z_api_Envelope) (b.f_Results.getD k z_api_Result)]))]) (by have e1 : (((leavesB b).take (k + 1)).length : Nat) = (((leavesB b).take k) ++ [leafB (b.f_Requests.getD k z_api_Envelope) (b.f_Results.getD k z_api_Result)]).length := (by first | rfl | (rw [← leaves_get (by omega) (by omega), tk_succ (z := []) (by omega)])); have hE := congrArg (fun (q1 : Nat) => ([aa, pv 0 0, aa, ownV 4 (kSl false kU8) 0 q1, dv (.int .i64 ((k + 1 : Nat) : Int))] : List AV)) e1; exact hE) (by have e1 : (((leavesB b).take (k + 1)) : List (List UInt8)) = ((leavesB b).take k) ++ [leafB (b.f_Requests.getD k z_api_Envelope) (b.f_Results.getD k z_api_Result)] := (by first | rfl | (rw [← leaves_get (by omega) (by omega), tk_succ (z := []) (by omega)])); have hE := congrArg (fun (q1 : List (List UInt8)) => ([.live (.box 26 [.d (.val (.int .i64 b.f_Height)), .d (.val (strV b.f_Prev)), .d (dsl tb_ false (k_api_Envelope tb_) b.f_Requests), .d (dsl tb_ false (k_api_Result tb_) b.f_Results)]), .live (arrK 29 (kSl false kU8) q1)] : List HS)) e1; exact hE) (by kernel_rfl) (by kernel_rfl) (by kernel_rfl) (by kernel_rfl) (by kernel_rfl) (by kernel_rfl) (by kernel_rfl) (by kernel_rfl) (by kernel_rfl) (by kernel_rfl) (by kernel_rfl) hG)
    · refine T.condF (b := (decide (((k : Nat) : Int) < ((b.f_Results.length : Nat) : Int)))) rfl (decide_eq_false hq2) ?_
      refine T.exit ?_
      refine xT ?_
      refine xT ?_
      refine xH ?_
      refine nT ?_
      refine T.seq ?_
      refine tR (s1 := ⟨[aa, pv 0 0, ownV 1 (kSl false kU8) 0 ((leavesB b).take k).length, ownV 1 (kSl false kU8) 0 ((leavesB b).take k).length, dv (.int .i64 ((k : Nat) : Int)), aa, aa, aa, aa, aa, aa, aa, aa, aa, aa, aa, dv (.bool (decide (((k : Nat) : Int) < ((b.f_Results.length : Nat) : Int))))], [.live (.box 26 [.d (.val (.int .i64 b.f_Height)), .d (.val (strV b.f_Prev)), .d (dsl tb_ false (k_api_Envelope tb_) b.f_Requests), .d (dsl tb_ false (k_api_Result tb_) b.f_Results)]), .live (arrK 29 (kSl false kU8) ((leavesB b).take k))]⟩) (bm 17 65566) [true, true]
        (oC (oS rfl rfl (r_move (av := ownV 1 (kSl false kU8) 0 ((leavesB b).take k).length) (lt_of rfl) trivial))
        (oC (oS rfl rfl (r_assign (av := ownV 1 (kSl false kU8) 0 ((leavesB b).take k).length) (lt_of rfl) trivial)) (oZ rfl)))
        (by kernel_rfl) (by kernel_rfl) ?_
      refine nT ?_
      refine T.ret ?_
      exact tE (.inl rfl) [.t 2 (.one (.own 1 (kSl false kU8).sz 0 ((leavesB b).take k).length))] ⟨⟨rfl, rfl⟩, trivial⟩ [1] (by have e1 : ((leavesB b).length : Nat) = ((leavesB b).take k).length := (by first | rfl | (rw [List.take_of_length_le (by omega)])); have hE := congrArg (fun (q1 : Nat) => (ownV 1 (kSl false kU8) 0 q1 : AV)) e1; exact hE) rfl rfl rfl rfl rfl ⟨⟨rfl, (by have e1 : (((leavesB b).take k) : List (List UInt8)) = (leavesB b) := (by first | rfl | (rw [List.take_of_length_le (by omega)])); have hE := congrArg (fun (q1 : List (List UInt8)) => (.live (arrK 29 (kSl false kU8) q1) : HS)) e1; exact hE)⟩, trivial⟩
  · refine tR (s1 := ⟨[aa, pv 0 0, aa, ownV 1 (kSl false kU8) 0 ((leavesB b).take k).length, dv (.int .i64 ((k : Nat) : Int)), aa, aa, aa, aa, aa, aa, aa, aa, aa, aa, aa, dv (.bool false)], [.live (.box 26 [.d (.val (.int .i64 b.f_Height)), .d (.val (strV b.f_Prev)), .d (dsl tb_ false (k_api_Envelope tb_) b.f_Requests), .d (dsl tb_ false (k_api_Result tb_) b.f_Results)]), .live (arrK 29 (kSl false kU8) ((leavesB b).take k))]⟩) (bm 17 65562) [true, true]
      (oC (oS rfl rfl (r_move (av := dv (.int .i64 ((k : Nat) : Int))) (lt_of rfl) trivial))
      (oC (oS rfl rfl (r_fieldAddr (l := 0) (off := 0) fld_26_2 (lt_of rfl) trivial))
      (oC (oS rfl rfl (r_loadB (l := 0) (off := 2) (T := 26) (cs := [.d (.val (.int .i64 b.f_Height)), .d (.val (strV b.f_Prev)), .d (dsl tb_ false (k_api_Envelope tb_) b.f_Requests), .d (dsl tb_ false (k_api_Result tb_) b.f_Results)]) (c := .d (dsl tb_ false (k_api_Envelope tb_) b.f_Requests)) wide_23 rfl (lt_of rfl) trivial))
      (oC (oS rfl rfl (q_len tb_ false (k_api_Envelope tb_) b.f_Requests Try.underlying23 (lt_of rfl) trivial))
      (oC (oS rfl rfl (r_bin (u1 := .int .i64 ((k : Nat) : Int)) (u2 := .int .i64 ((b.f_Requests.length : Nat) : Int)) (v := .bool (decide (((k : Nat) : Int) < ((b.f_Requests.length : Nat) : Int)))) b_lss (lt_of rfl) trivial))
      (oC (oS rfl rfl (r_move (av := dv (.bool (decide (((k : Nat) : Int) < ((b.f_Requests.length : Nat) : Int))))) (lt_of rfl) trivial))
      (oC (oN (b := (decide (((k : Nat) : Int) < ((b.f_Requests.length : Nat) : Int)))) rfl rfl rfl rfl (lt_of rfl) (decide_eq_false hq1) rfl (lt_of rfl))
      (oC (oN (b := (decide (((k : Nat) : Int) < ((b.f_Requests.length : Nat) : Int)))) rfl rfl rfl rfl (lt_of rfl) (decide_eq_false hq1) rfl (lt_of rfl))
      (oC (oN (b := (decide (((k : Nat) : Int) < ((b.f_Requests.length : Nat) : Int)))) rfl rfl rfl rfl (lt_of rfl) (decide_eq_false hq1) rfl (lt_of rfl))
      (oC (oN (b := (decide (((k : Nat) : Int) < ((b.f_Requests.length : Nat) : Int)))) rfl rfl rfl rfl (lt_of rfl) (decide_eq_false hq1) rfl (lt_of rfl))
      (oC (oN (b := (decide (((k : Nat) : Int) < ((b.f_Requests.length : Nat) : Int)))) rfl rfl rfl rfl (lt_of rfl) (decide_eq_false hq1) rfl (lt_of rfl))
      (oC (oS rfl rfl (r_pickF (b := (decide (((k : Nat) : Int) < ((b.f_Requests.length : Nat) : Int)))) (av := dv (.bool false)) (lt_of rfl) ⟨rfl, trivial⟩ (decide_eq_false hq1))) (oZ rfl)))))))))))))
      (by kernel_rfl) (by kernel_rfl) ?_
    refine nT ?_
    refine T.condF (b := false) rfl rfl ?_
    refine T.exit ?_
    refine xT ?_
    refine xT ?_
    refine xH ?_
    refine nT ?_
    refine T.seq ?_
    refine tR (s1 := ⟨[aa, pv 0 0, ownV 1 (kSl false kU8) 0 ((leavesB b).take k).length, ownV 1 (kSl false kU8) 0 ((leavesB b).take k).length, dv (.int .i64 ((k : Nat) : Int)), aa, aa, aa, aa, aa, aa, aa, aa, aa, aa, aa, dv (.bool false)], [.live (.box 26 [.d (.val (.int .i64 b.f_Height)), .d (.val (strV b.f_Prev)), .d (dsl tb_ false (k_api_Envelope tb_) b.f_Requests), .d (dsl tb_ false (k_api_Result tb_) b.f_Results)]), .live (arrK 29 (kSl false kU8) ((leavesB b).take k))]⟩) (bm 17 65566) [true, true]
      (oC (oS rfl rfl (r_move (av := ownV 1 (kSl false kU8) 0 ((leavesB b).take k).length) (lt_of rfl) trivial))
      (oC (oS rfl rfl (r_assign (av := ownV 1 (kSl false kU8) 0 ((leavesB b).take k).length) (lt_of rfl) trivial)) (oZ rfl)))
      (by kernel_rfl) (by kernel_rfl) ?_
    refine nT ?_
    refine T.ret ?_
    exact tE (.inl rfl) [.t 2 (.one (.own 1 (kSl false kU8).sz 0 ((leavesB b).take k).length))] ⟨⟨rfl, rfl⟩, trivial⟩ [1] (by have e1 : ((leavesB b).length : Nat) = ((leavesB b).take k).length := (by first | rfl | (rw [List.take_of_length_le (by omega)])); have hE := congrArg (fun (q1 : Nat) => (ownV 1 (kSl false kU8) 0 q1 : AV)) e1; exact hE) rfl rfl rfl rfl rfl ⟨⟨rfl, (by have e1 : (((leavesB b).take k) : List (List UInt8)) = (leavesB b) := (by first | rfl | (rw [List.take_of_length_le (by omega)])); have hE := congrArg (fun (q1 : List (List UInt8)) => (.live (arrK 29 (kSl false kU8) q1) : HS)) e1; exact hE)⟩, trivial⟩
end Go.Proofs.Ytacikihlgpnjhaa.Q
