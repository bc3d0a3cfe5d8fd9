import Derived.Test.YtlabmehgcfgigaaC04n8
namespace Go.Proofs.Ytlabmehgcfgigaa.Q
open Go Go.RowKit
set_option linter.unusedVariables false
set_option linter.unusedSimpArgs false
set_option maxRecDepth 100000
set_option maxHeartbeats 4000000
-- quaestor/value.Reckon
theorem value_ReckonI (op : Int) (a : api_Value) (b : api_Value) (hn : ¬ (bothV a b ∧ a.f_Kind = 4)) (hai : inR a.f_Int) (hbi : inR b.f_Int) : Holds Try.prog 20 ⟨[dv (.int .i64 op), .tv (.agg [.d (.val (.int .i64 a.f_Kind)), .d (.val (.int .i64 a.f_Int)), .d (.val (.bool a.f_Bool)), .d (.val (strV a.f_Text)), .d (.val (.float .f64 a.f_Num))]), .tv (.agg [.d (.val (.int .i64 b.f_Kind)), .d (.val (.int .i64 b.f_Int)), .d (.val (.bool b.f_Bool)), .d (.val (strV b.f_Text)), .d (.val (.float .f64 b.f_Num))])], [], .tup [.agg [.d (.val (.int .i64 (reckV op a b).f_Kind)), .d (.val (.int .i64 (reckV op a b).f_Int)), .d (.val (.bool (reckV op a b).f_Bool)), .d (.val (strV (reckV op a b).f_Text)), .d (.val (.float .f64 (reckV op a b).f_Num))], .one (.d (.val (.int .i64 (reckE op a b))))], []⟩ := by
  refine Holds.of Try.func20 rfl (N := 60) Try.ntmps20 rfl fun w0 B0 S0 U0 => ?_
  show T _ (mkBase 60 0 w0 S0 U0 B0) ⟨[dv (.int .i64 op), .tv (.agg [.d (.val (.int .i64 a.f_Kind)), .d (.val (.int .i64 a.f_Int)), .d (.val (.bool a.f_Bool)), .d (.val (strV a.f_Text)), .d (.val (.float .f64 a.f_Num))]), .tv (.agg [.d (.val (.int .i64 b.f_Kind)), .d (.val (.int .i64 b.f_Int)), .d (.val (.bool b.f_Bool)), .d (.val (strV b.f_Text)), .d (.val (.float .f64 b.f_Num))])], []⟩ _ _
  refine T.seq ?_
  refine xR [] (by kernel_rfl) (by kernel_rfl) ?_
  refine nT ?_
  refine T.seq ?_
  refine T.seq ?_
  refine xR [] (by kernel_rfl) (by kernel_rfl) ?_
  refine nT ?_
  refine T.block ?_
  refine T.seq ?_
  refine T.seq ?_
  refine xR [] (by kernel_rfl) (by kernel_rfl) ?_
  refine nT ?_
  by_cases hq1 : op = 4
  · refine T.condT (by kernel_rfl) (decide_eq_true hq1) ?_
    refine T.skip ?_
    refine nT ?_
    refine T.condT (by kernel_rfl) (decide_eq_true hq1) ?_
    refine T.skip ?_
    refine nB ?_
    refine nT ?_
    refine T.seq ?_
    refine T.block ?_
    refine T.seq ?_
    by_cases hq2 : bothV a b
    · refine xR [hR 2 rfl rfl (r_call (value_both a b ) Try.func51 rfl (by decide) [] [] (l := [(.tmp 20, .tv (.agg [.d (.val (.int .i64 a.f_Kind)), .d (.val (.int .i64 a.f_Int)), .d (.val (.bool a.f_Bool)), .d (.val (strV a.f_Text)), .d (.val (.float .f64 a.f_Num))])), (.tmp 21, .tv (.agg [.d (.val (.int .i64 b.f_Kind)), .d (.val (.int .i64 b.f_Int)), .d (.val (.bool b.f_Bool)), .d (.val (strV b.f_Text)), .d (.val (.float .f64 b.f_Num))]))]) [] rfl 0 0 rfl rfl rfl rfl rfl rfl rfl rfl rfl ⟨⟨.inl ⟨rfl, rfl⟩, ⟨.inl ⟨rfl, rfl⟩, ⟨.inl ⟨rfl, rfl⟩, ⟨.inl ⟨rfl, rfl⟩, ⟨.inl ⟨rfl, rfl⟩, trivial⟩⟩⟩⟩⟩, ⟨⟨.inl ⟨rfl, rfl⟩, ⟨.inl ⟨rfl, rfl⟩, ⟨.inl ⟨rfl, rfl⟩, ⟨.inl ⟨rfl, rfl⟩, ⟨.inl ⟨rfl, rfl⟩, trivial⟩⟩⟩⟩⟩, trivial⟩⟩ rfl (fun b hb => by cases hb) (.inl rfl) (lt_of rfl) trivial),
        hY 4 (decide_eq_true hq2),
        hY 5 (decide_eq_true hq2),
        hY 6 (decide_eq_true hq2),
        hP 7 (decide_eq_true hq2)] (by kernel_rfl) (by kernel_rfl) ?_
      refine nT ?_
      by_cases hq3 : a.f_Kind = 4
      · exact absurd ⟨by assumption, hq3⟩ hn
      · refine T.condF (by kernel_rfl) (decide_eq_false hq3) ?_
        refine T.seq ?_
        refine xR [hR 2 rfl rfl (r_call (value_both a b ) Try.func51 rfl (by decide) [] [] (l := [(.tmp 36, .tv (.agg [.d (.val (.int .i64 a.f_Kind)), .d (.val (.int .i64 a.f_Int)), .d (.val (.bool a.f_Bool)), .d (.val (strV a.f_Text)), .d (.val (.float .f64 a.f_Num))])), (.tmp 37, .tv (.agg [.d (.val (.int .i64 b.f_Kind)), .d (.val (.int .i64 b.f_Int)), .d (.val (.bool b.f_Bool)), .d (.val (strV b.f_Text)), .d (.val (.float .f64 b.f_Num))]))]) [] rfl 0 0 rfl rfl rfl rfl rfl rfl rfl rfl rfl ⟨⟨.inl ⟨rfl, rfl⟩, ⟨.inl ⟨rfl, rfl⟩, ⟨.inl ⟨rfl, rfl⟩, ⟨.inl ⟨rfl, rfl⟩, ⟨.inl ⟨rfl, rfl⟩, trivial⟩⟩⟩⟩⟩, ⟨⟨.inl ⟨rfl, rfl⟩, ⟨.inl ⟨rfl, rfl⟩, ⟨.inl ⟨rfl, rfl⟩, ⟨.inl ⟨rfl, rfl⟩, ⟨.inl ⟨rfl, rfl⟩, trivial⟩⟩⟩⟩⟩, trivial⟩⟩ rfl (fun b hb => by cases hb) (.inl rfl) (lt_of rfl) trivial),
          hY 4 (decide_eq_true hq2),
          hY 5 (decide_eq_true hq2),
          hY 6 (decide_eq_true hq2),
          hP 7 (decide_eq_true hq2)] (by kernel_rfl) (by kernel_rfl) ?_
        refine nT ?_
        by_cases hq4 : a.f_Kind = 1
        · refine T.condT (by kernel_rfl) (decide_eq_true hq4) ?_
          refine T.seq ?_
          refine xR [hR 5 rfl rfl (r_call (value_ints op a.f_Int b.f_Int (by assumption) (by assumption) (by (unfold okOp; omega))) Try.func54 rfl (by decide) [] [] (l := [(.tmp 45, dv (.int .i64 op)), (.tmp 47, dv (.int .i64 a.f_Int)), (.tmp 49, dv (.int .i64 b.f_Int))]) [] rfl 0 0 rfl rfl rfl rfl rfl rfl rfl rfl rfl ⟨.inl ⟨rfl, rfl⟩, ⟨.inl ⟨rfl, rfl⟩, ⟨.inl ⟨rfl, rfl⟩, trivial⟩⟩⟩ rfl (fun b hb => by cases hb) (.inl rfl) (lt_of rfl) trivial)] (by kernel_rfl) (by kernel_rfl) ?_
          refine nT ?_
          refine T.seq ?_
          refine T.seq ?_
          refine xR [] (by kernel_rfl) (by kernel_rfl) ?_
          refine nT ?_
          by_cases hq5 : (intsE op a.f_Int b.f_Int) ≠ 0
          · refine T.condT (by kernel_rfl) (decide_eq_true hq5) ?_
            refine T.seq ?_
            refine xR [] (by kernel_rfl) (by kernel_rfl) ?_
            refine nT ?_
            refine T.ret ?_
            refine rT ?_
            refine rB ?_
            refine rT ?_
            exact tE (.inl rfl) [.c 6 2 24 0 24 [.d (.val (.int .i64 0)), .d (.val (.int .i64 0)), .d (.val (.bool false)), .d (.val (strV [])), .d (.val (.float .f64 0))] (.agg [.d (.val (.int .i64 0)), .d (.val (.int .i64 0)), .d (.val (.bool false)), .d (.val (strV [])), .d (.val (.float .f64 0))]), .t 7 (.one (.d (.val (.int .i64 (intsE op a.f_Int b.f_Int)))))] ⟨⟨rfl, rfl, by kernel_rfl, by kernel_rfl, .inl ⟨5, wide_24, rfl, Nat.le_of_ble_eq_true rfl⟩⟩, ⟨⟨rfl, by kernel_rfl⟩, trivial⟩⟩ [] (by have e1 : ((reckV op a b).f_Kind : Int) = 0 := (by ((have ho9 : okOp op := (by unfold okOp; omega); (have hr9 := reck_err ho9 (by assumption) (by assumption) (by assumption); (rw [hr9.1]; rfl))))); have e2 : ((reckV op a b).f_Int : Int) = 0 := (by ((have ho9 : okOp op := (by unfold okOp; omega); (have hr9 := reck_err ho9 (by assumption) (by assumption) (by assumption); (rw [hr9.1]; rfl))))); have e3 : ((reckV op a b).f_Bool : Bool) = false := (by ((have ho9 : okOp op := (by unfold okOp; omega); (have hr9 := reck_err ho9 (by assumption) (by assumption) (by assumption); (rw [hr9.1]; rfl))))); have e4 : ((reckV op a b).f_Text : List UInt8) = [] := (by ((have ho9 : okOp op := (by unfold okOp; omega); (have hr9 := reck_err ho9 (by assumption) (by assumption) (by assumption); (rw [hr9.1]; rfl))))); have e5 : ((reckV op a b).f_Num : Nat) = 0 := (by ((have ho9 : okOp op := (by unfold okOp; omega); (have hr9 := reck_err ho9 (by assumption) (by assumption) (by assumption); (rw [hr9.1]; rfl))))); have e6 : (reckE op a b : Int) = intsE op a.f_Int b.f_Int := (by ((have ho9 : okOp op := (by unfold okOp; omega); (have hr9 := reck_err ho9 (by assumption) (by assumption) (by assumption); exact hr9.2)))); have hE := congr (congr (congr (congr (congr (congrArg (fun (q1 : Int) (q2 : Int) (q3 : Bool) (q4 : List UInt8) (q5 : Nat) (q6 : Int) => (.tup [.agg [.d (.val (.int .i64 q1)), .d (.val (.int .i64 q2)), .d (.val (.bool q3)), .d (.val (strV q4)), .d (.val (.float .f64 q5))], .one (.d (.val (.int .i64 q6)))] : AV)) e1) e2) e3) e4) e5) e6; exact hE) rfl rfl rfl rfl rfl trivial
          · refine T.condF (by kernel_rfl) (decide_eq_false hq5) ?_
            refine T.skip ?_
            refine nT ?_
            refine T.seq ?_
            refine xR [hR 1 rfl rfl (r_call (value_ofInt (intsN op a.f_Int b.f_Int) ) Try.func55 rfl (by decide) [] [] (l := [(.tmp 57, dv (.int .i64 (intsN op a.f_Int b.f_Int)))]) [] rfl 0 0 rfl rfl rfl rfl rfl rfl rfl rfl rfl ⟨.inl ⟨rfl, rfl⟩, trivial⟩ rfl (fun b hb => by cases hb) (.inl rfl) (lt_of rfl) trivial)] (by kernel_rfl) (by kernel_rfl) ?_
            refine nT ?_
            refine T.ret ?_
            refine rB ?_
            refine rT ?_
            exact tE (.inl rfl) [.c 6 2 24 0 24 [.d (.val (.int .i64 (intV (intsN op a.f_Int b.f_Int)).f_Kind)), .d (.val (.int .i64 (intV (intsN op a.f_Int b.f_Int)).f_Int)), .d (.val (.bool (intV (intsN op a.f_Int b.f_Int)).f_Bool)), .d (.val (strV (intV (intsN op a.f_Int b.f_Int)).f_Text)), .d (.val (.float .f64 (intV (intsN op a.f_Int b.f_Int)).f_Num))] (.agg [.d (.val (.int .i64 (intV (intsN op a.f_Int b.f_Int)).f_Kind)), .d (.val (.int .i64 (intV (intsN op a.f_Int b.f_Int)).f_Int)), .d (.val (.bool (intV (intsN op a.f_Int b.f_Int)).f_Bool)), .d (.val (strV (intV (intsN op a.f_Int b.f_Int)).f_Text)), .d (.val (.float .f64 (intV (intsN op a.f_Int b.f_Int)).f_Num))]), .t 7 (.one (.d (.val (.int .i64 0))))] ⟨⟨rfl, rfl, by kernel_rfl, by kernel_rfl, .inl ⟨5, wide_24, rfl, Nat.le_of_ble_eq_true rfl⟩⟩, ⟨⟨rfl, by kernel_rfl⟩, trivial⟩⟩ [] (by have e1 : ((reckV op a b).f_Kind : Int) = (intV (intsN op a.f_Int b.f_Int)).f_Kind := (by ((have ho9 : okOp op := (by unfold okOp; omega); (have hr9 := reck_ok ho9 (by assumption) (by assumption) (by assumption); (rw [hr9.1]; done))))); have e2 : ((reckV op a b).f_Int : Int) = (intV (intsN op a.f_Int b.f_Int)).f_Int := (by ((have ho9 : okOp op := (by unfold okOp; omega); (have hr9 := reck_ok ho9 (by assumption) (by assumption) (by assumption); (rw [hr9.1]; done))))); have e3 : ((reckV op a b).f_Bool : Bool) = (intV (intsN op a.f_Int b.f_Int)).f_Bool := (by ((have ho9 : okOp op := (by unfold okOp; omega); (have hr9 := reck_ok ho9 (by assumption) (by assumption) (by assumption); (rw [hr9.1]; done))))); have e4 : ((reckV op a b).f_Text : List UInt8) = (intV (intsN op a.f_Int b.f_Int)).f_Text := (by ((have ho9 : okOp op := (by unfold okOp; omega); (have hr9 := reck_ok ho9 (by assumption) (by assumption) (by assumption); (rw [hr9.1]; done))))); have e5 : ((reckV op a b).f_Num : Nat) = (intV (intsN op a.f_Int b.f_Int)).f_Num := (by ((have ho9 : okOp op := (by unfold okOp; omega); (have hr9 := reck_ok ho9 (by assumption) (by assumption) (by assumption); (rw [hr9.1]; done))))); have e6 : (reckE op a b : Int) = 0 := (by ((have ho9 : okOp op := (by unfold okOp; omega); (have hr9 := reck_ok ho9 (by assumption) (by assumption) (by assumption); exact hr9.2)))); have hE := congr (congr (congr (congr (congr (congrArg (fun (q1 : Int) (q2 : Int) (q3 : Bool) (q4 : List UInt8) (q5 : Nat) (q6 : Int) => (.tup [.agg [.d (.val (.int .i64 q1)), .d (.val (.int .i64 q2)), .d (.val (.bool q3)), .d (.val (strV q4)), .d (.val (.float .f64 q5))], .one (.d (.val (.int .i64 q6)))] : AV)) e1) e2) e3) e4) e5) e6; exact hE) rfl rfl rfl rfl rfl trivial
        · refine T.condF (by kernel_rfl) (decide_eq_false hq4) ?_
          refine T.skip ?_
          refine nB ?_
          refine nT ?_
          refine T.seq ?_
          refine xR [] (by kernel_rfl) (by kernel_rfl) ?_
          refine nT ?_
          refine T.ret ?_
          exact tE (.inl rfl) [.c 6 2 24 0 24 [.d (.val (.int .i64 0)), .d (.val (.int .i64 0)), .d (.val (.bool false)), .d (.val (strV [])), .d (.val (.float .f64 0))] (.agg [.d (.val (.int .i64 0)), .d (.val (.int .i64 0)), .d (.val (.bool false)), .d (.val (strV [])), .d (.val (.float .f64 0))]), .t 7 (.one (.d (.val (.int .i64 40))))] ⟨⟨rfl, rfl, by kernel_rfl, by kernel_rfl, .inl ⟨5, wide_24, rfl, Nat.le_of_ble_eq_true rfl⟩⟩, ⟨⟨rfl, by kernel_rfl⟩, trivial⟩⟩ [] (by have e1 : ((reckV op a b).f_Kind : Int) = 0 := (by ((have ho9 : okOp op := (by unfold okOp; omega); (have hr9 := reck_type (a := a) (b := b) ho9 (fun h9 => by exact absurd h9.2 (by assumption)); (rw [hr9.1]; rfl))))); have e2 : ((reckV op a b).f_Int : Int) = 0 := (by ((have ho9 : okOp op := (by unfold okOp; omega); (have hr9 := reck_type (a := a) (b := b) ho9 (fun h9 => by exact absurd h9.2 (by assumption)); (rw [hr9.1]; rfl))))); have e3 : ((reckV op a b).f_Bool : Bool) = false := (by ((have ho9 : okOp op := (by unfold okOp; omega); (have hr9 := reck_type (a := a) (b := b) ho9 (fun h9 => by exact absurd h9.2 (by assumption)); (rw [hr9.1]; rfl))))); have e4 : ((reckV op a b).f_Text : List UInt8) = [] := (by ((have ho9 : okOp op := (by unfold okOp; omega); (have hr9 := reck_type (a := a) (b := b) ho9 (fun h9 => by exact absurd h9.2 (by assumption)); (rw [hr9.1]; rfl))))); have e5 : ((reckV op a b).f_Num : Nat) = 0 := (by ((have ho9 : okOp op := (by unfold okOp; omega); (have hr9 := reck_type (a := a) (b := b) ho9 (fun h9 => by exact absurd h9.2 (by assumption)); (rw [hr9.1]; rfl))))); have e6 : (reckE op a b : Int) = 40 := (by ((have ho9 : okOp op := (by unfold okOp; omega); (have hr9 := reck_type (a := a) (b := b) ho9 (fun h9 => by exact absurd h9.2 (by assumption)); exact hr9.2)))); have hE := congr (congr (congr (congr (congr (congrArg (fun (q1 : Int) (q2 : Int) (q3 : Bool) (q4 : List UInt8) (q5 : Nat) (q6 : Int) => (.tup [.agg [.d (.val (.int .i64 q1)), .d (.val (.int .i64 q2)), .d (.val (.bool q3)), .d (.val (strV q4)), .d (.val (.float .f64 q5))], .one (.d (.val (.int .i64 q6)))] : AV)) e1) e2) e3) e4) e5) e6; exact hE) rfl rfl rfl rfl rfl trivial
    · refine xR [hR 2 rfl rfl (r_call (value_both a b ) Try.func51 rfl (by decide) [] [] (l := [(.tmp 20, .tv (.agg [.d (.val (.int .i64 a.f_Kind)), .d (.val (.int .i64 a.f_Int)), .d (.val (.bool a.f_Bool)), .d (.val (strV a.f_Text)), .d (.val (.float .f64 a.f_Num))])), (.tmp 21, .tv (.agg [.d (.val (.int .i64 b.f_Kind)), .d (.val (.int .i64 b.f_Int)), .d (.val (.bool b.f_Bool)), .d (.val (strV b.f_Text)), .d (.val (.float .f64 b.f_Num))]))]) [] rfl 0 0 rfl rfl rfl rfl rfl rfl rfl rfl rfl ⟨⟨.inl ⟨rfl, rfl⟩, ⟨.inl ⟨rfl, rfl⟩, ⟨.inl ⟨rfl, rfl⟩, ⟨.inl ⟨rfl, rfl⟩, ⟨.inl ⟨rfl, rfl⟩, trivial⟩⟩⟩⟩⟩, ⟨⟨.inl ⟨rfl, rfl⟩, ⟨.inl ⟨rfl, rfl⟩, ⟨.inl ⟨rfl, rfl⟩, ⟨.inl ⟨rfl, rfl⟩, ⟨.inl ⟨rfl, rfl⟩, trivial⟩⟩⟩⟩⟩, trivial⟩⟩ rfl (fun b hb => by cases hb) (.inl rfl) (lt_of rfl) trivial),
        hN 4 true (decide_eq_false hq2),
        hN 5 true (decide_eq_false hq2),
        hN 6 true (decide_eq_false hq2),
        hP 7 (decide_eq_false hq2)] (by kernel_rfl) (by kernel_rfl) ?_
      refine nT ?_
      refine T.condF (b := false) (by kernel_rfl) rfl ?_
      refine T.seq ?_
      refine xR [hR 2 rfl rfl (r_call (value_both a b ) Try.func51 rfl (by decide) [] [] (l := [(.tmp 36, .tv (.agg [.d (.val (.int .i64 a.f_Kind)), .d (.val (.int .i64 a.f_Int)), .d (.val (.bool a.f_Bool)), .d (.val (strV a.f_Text)), .d (.val (.float .f64 a.f_Num))])), (.tmp 37, .tv (.agg [.d (.val (.int .i64 b.f_Kind)), .d (.val (.int .i64 b.f_Int)), .d (.val (.bool b.f_Bool)), .d (.val (strV b.f_Text)), .d (.val (.float .f64 b.f_Num))]))]) [] rfl 0 0 rfl rfl rfl rfl rfl rfl rfl rfl rfl ⟨⟨.inl ⟨rfl, rfl⟩, ⟨.inl ⟨rfl, rfl⟩, ⟨.inl ⟨rfl, rfl⟩, ⟨.inl ⟨rfl, rfl⟩, ⟨.inl ⟨rfl, rfl⟩, trivial⟩⟩⟩⟩⟩, ⟨⟨.inl ⟨rfl, rfl⟩, ⟨.inl ⟨rfl, rfl⟩, ⟨.inl ⟨rfl, rfl⟩, ⟨.inl ⟨rfl, rfl⟩, ⟨.inl ⟨rfl, rfl⟩, trivial⟩⟩⟩⟩⟩, trivial⟩⟩ rfl (fun b hb => by cases hb) (.inl rfl) (lt_of rfl) trivial),
        hN 4 true (decide_eq_false hq2),
        hN 5 true (decide_eq_false hq2),
        hN 6 true (decide_eq_false hq2),
        hP 7 (decide_eq_false hq2)] (by kernel_rfl) (by kernel_rfl) ?_
      refine nT ?_
      refine T.condF (b := false) (by kernel_rfl) rfl ?_
      refine T.skip ?_
      refine nB ?_
      refine nT ?_
      refine T.seq ?_
      refine xR [] (by kernel_rfl) (by kernel_rfl) ?_
      refine nT ?_
      refine T.ret ?_
      exact tE (.inl rfl) [.c 6 2 24 0 24 [.d (.val (.int .i64 0)), .d (.val (.int .i64 0)), .d (.val (.bool false)), .d (.val (strV [])), .d (.val (.float .f64 0))] (.agg [.d (.val (.int .i64 0)), .d (.val (.int .i64 0)), .d (.val (.bool false)), .d (.val (strV [])), .d (.val (.float .f64 0))]), .t 7 (.one (.d (.val (.int .i64 40))))] ⟨⟨rfl, rfl, by kernel_rfl, by kernel_rfl, .inl ⟨5, wide_24, rfl, Nat.le_of_ble_eq_true rfl⟩⟩, ⟨⟨rfl, by kernel_rfl⟩, trivial⟩⟩ [] (by have e1 : ((reckV op a b).f_Kind : Int) = 0 := (by ((have ho9 : okOp op := (by unfold okOp; omega); (have hr9 := reck_type (a := a) (b := b) ho9 (fun h9 => by exact absurd h9.1 (by assumption)); (rw [hr9.1]; rfl))))); have e2 : ((reckV op a b).f_Int : Int) = 0 := (by ((have ho9 : okOp op := (by unfold okOp; omega); (have hr9 := reck_type (a := a) (b := b) ho9 (fun h9 => by exact absurd h9.1 (by assumption)); (rw [hr9.1]; rfl))))); have e3 : ((reckV op a b).f_Bool : Bool) = false := (by ((have ho9 : okOp op := (by unfold okOp; omega); (have hr9 := reck_type (a := a) (b := b) ho9 (fun h9 => by exact absurd h9.1 (by assumption)); (rw [hr9.1]; rfl))))); have e4 : ((reckV op a b).f_Text : List UInt8) = [] := (by ((have ho9 : okOp op := (by unfold okOp; omega); (have hr9 := reck_type (a := a) (b := b) ho9 (fun h9 => by exact absurd h9.1 (by assumption)); (rw [hr9.1]; rfl))))); have e5 : ((reckV op a b).f_Num : Nat) = 0 := (by ((have ho9 : okOp op := (by unfold okOp; omega); (have hr9 := reck_type (a := a) (b := b) ho9 (fun h9 => by exact absurd h9.1 (by assumption)); (rw [hr9.1]; rfl))))); have e6 : (reckE op a b : Int) = 40 := (by ((have ho9 : okOp op := (by unfold okOp; omega); (have hr9 := reck_type (a := a) (b := b) ho9 (fun h9 => by exact absurd h9.1 (by assumption)); exact hr9.2)))); have hE := congr (congr (congr (congr (congr (congrArg (fun (q1 : Int) (q2 : Int) (q3 : Bool) (q4 : List UInt8) (q5 : Nat) (q6 : Int) => (.tup [.agg [.d (.val (.int .i64 q1)), .d (.val (.int .i64 q2)), .d (.val (.bool q3)), .d (.val (strV q4)), .d (.val (.float .f64 q5))], .one (.d (.val (.int .i64 q6)))] : AV)) e1) e2) e3) e4) e5) e6; exact hE) rfl rfl rfl rfl rfl trivial
  · refine T.condF (by kernel_rfl) (decide_eq_false hq1) ?_
    refine T.seq ?_
    refine xR [] (by kernel_rfl) (by kernel_rfl) ?_
    refine nT ?_
    by_cases hq6 : op = 5
    · refine T.condT (by kernel_rfl) (decide_eq_true hq6) ?_
      refine T.skip ?_
      refine nT ?_
      refine T.condT (by kernel_rfl) (decide_eq_true hq6) ?_
      refine T.skip ?_
      refine nB ?_
      refine nT ?_
      refine T.seq ?_
      refine T.block ?_
      refine T.seq ?_
      by_cases hq7 : bothV a b
      · refine xR [hR 2 rfl rfl (r_call (value_both a b ) Try.func51 rfl (by decide) [] [] (l := [(.tmp 20, .tv (.agg [.d (.val (.int .i64 a.f_Kind)), .d (.val (.int .i64 a.f_Int)), .d (.val (.bool a.f_Bool)), .d (.val (strV a.f_Text)), .d (.val (.float .f64 a.f_Num))])), (.tmp 21, .tv (.agg [.d (.val (.int .i64 b.f_Kind)), .d (.val (.int .i64 b.f_Int)), .d (.val (.bool b.f_Bool)), .d (.val (strV b.f_Text)), .d (.val (.float .f64 b.f_Num))]))]) [] rfl 0 0 rfl rfl rfl rfl rfl rfl rfl rfl rfl ⟨⟨.inl ⟨rfl, rfl⟩, ⟨.inl ⟨rfl, rfl⟩, ⟨.inl ⟨rfl, rfl⟩, ⟨.inl ⟨rfl, rfl⟩, ⟨.inl ⟨rfl, rfl⟩, trivial⟩⟩⟩⟩⟩, ⟨⟨.inl ⟨rfl, rfl⟩, ⟨.inl ⟨rfl, rfl⟩, ⟨.inl ⟨rfl, rfl⟩, ⟨.inl ⟨rfl, rfl⟩, ⟨.inl ⟨rfl, rfl⟩, trivial⟩⟩⟩⟩⟩, trivial⟩⟩ rfl (fun b hb => by cases hb) (.inl rfl) (lt_of rfl) trivial),
          hY 4 (decide_eq_true hq7),
          hY 5 (decide_eq_true hq7),
          hY 6 (decide_eq_true hq7),
          hP 7 (decide_eq_true hq7)] (by kernel_rfl) (by kernel_rfl) ?_
        refine nT ?_
        by_cases hq8 : a.f_Kind = 4
        · exact absurd ⟨by assumption, hq8⟩ hn
        · refine T.condF (by kernel_rfl) (decide_eq_false hq8) ?_
          refine T.seq ?_
          refine xR [hR 2 rfl rfl (r_call (value_both a b ) Try.func51 rfl (by decide) [] [] (l := [(.tmp 36, .tv (.agg [.d (.val (.int .i64 a.f_Kind)), .d (.val (.int .i64 a.f_Int)), .d (.val (.bool a.f_Bool)), .d (.val (strV a.f_Text)), .d (.val (.float .f64 a.f_Num))])), (.tmp 37, .tv (.agg [.d (.val (.int .i64 b.f_Kind)), .d (.val (.int .i64 b.f_Int)), .d (.val (.bool b.f_Bool)), .d (.val (strV b.f_Text)), .d (.val (.float .f64 b.f_Num))]))]) [] rfl 0 0 rfl rfl rfl rfl rfl rfl rfl rfl rfl ⟨⟨.inl ⟨rfl, rfl⟩, ⟨.inl ⟨rfl, rfl⟩, ⟨.inl ⟨rfl, rfl⟩, ⟨.inl ⟨rfl, rfl⟩, ⟨.inl ⟨rfl, rfl⟩, trivial⟩⟩⟩⟩⟩, ⟨⟨.inl ⟨rfl, rfl⟩, ⟨.inl ⟨rfl, rfl⟩, ⟨.inl ⟨rfl, rfl⟩, ⟨.inl ⟨rfl, rfl⟩, ⟨.inl ⟨rfl, rfl⟩, trivial⟩⟩⟩⟩⟩, trivial⟩⟩ rfl (fun b hb => by cases hb) (.inl rfl) (lt_of rfl) trivial),
            hY 4 (decide_eq_true hq7),
            hY 5 (decide_eq_true hq7),
            hY 6 (decide_eq_true hq7),
            hP 7 (decide_eq_true hq7)] (by kernel_rfl) (by kernel_rfl) ?_
          refine nT ?_
          by_cases hq9 : a.f_Kind = 1
          · refine T.condT (by kernel_rfl) (decide_eq_true hq9) ?_
            refine T.seq ?_
            refine xR [hR 5 rfl rfl (r_call (value_ints op a.f_Int b.f_Int (by assumption) (by assumption) (by (unfold okOp; omega))) Try.func54 rfl (by decide) [] [] (l := [(.tmp 45, dv (.int .i64 op)), (.tmp 47, dv (.int .i64 a.f_Int)), (.tmp 49, dv (.int .i64 b.f_Int))]) [] rfl 0 0 rfl rfl rfl rfl rfl rfl rfl rfl rfl ⟨.inl ⟨rfl, rfl⟩, ⟨.inl ⟨rfl, rfl⟩, ⟨.inl ⟨rfl, rfl⟩, trivial⟩⟩⟩ rfl (fun b hb => by cases hb) (.inl rfl) (lt_of rfl) trivial)] (by kernel_rfl) (by kernel_rfl) ?_
            refine nT ?_
            refine T.seq ?_
            refine T.seq ?_
            refine xR [] (by kernel_rfl) (by kernel_rfl) ?_
            refine nT ?_
            by_cases hq10 : (intsE op a.f_Int b.f_Int) ≠ 0
            · refine T.condT (by kernel_rfl) (decide_eq_true hq10) ?_
              refine T.seq ?_
              refine xR [] (by kernel_rfl) (by kernel_rfl) ?_
              refine nT ?_
              refine T.ret ?_
              refine rT ?_
              refine rB ?_
              refine rT ?_
              exact tE (.inl rfl) [.c 6 2 24 0 24 [.d (.val (.int .i64 0)), .d (.val (.int .i64 0)), .d (.val (.bool false)), .d (.val (strV [])), .d (.val (.float .f64 0))] (.agg [.d (.val (.int .i64 0)), .d (.val (.int .i64 0)), .d (.val (.bool false)), .d (.val (strV [])), .d (.val (.float .f64 0))]), .t 7 (.one (.d (.val (.int .i64 (intsE op a.f_Int b.f_Int)))))] ⟨⟨rfl, rfl, by kernel_rfl, by kernel_rfl, .inl ⟨5, wide_24, rfl, Nat.le_of_ble_eq_true rfl⟩⟩, ⟨⟨rfl, by kernel_rfl⟩, trivial⟩⟩ [] (by have e1 : ((reckV op a b).f_Kind : Int) = 0 := (by ((have ho9 : okOp op := (by unfold okOp; omega); (have hr9 := reck_err ho9 (by assumption) (by assumption) (by assumption); (rw [hr9.1]; rfl))))); have e2 : ((reckV op a b).f_Int : Int) = 0 := (by ((have ho9 : okOp op := (by unfold okOp; omega); (have hr9 := reck_err ho9 (by assumption) (by assumption) (by assumption); (rw [hr9.1]; rfl))))); have e3 : ((reckV op a b).f_Bool : Bool) = false := (by ((have ho9 : okOp op := (by unfold okOp; omega); (have hr9 := reck_err ho9 (by assumption) (by assumption) (by assumption); (rw [hr9.1]; rfl))))); have e4 : ((reckV op a b).f_Text : List UInt8) = [] := (by ((have ho9 : okOp op := (by unfold okOp; omega); (have hr9 := reck_err ho9 (by assumption) (by assumption) (by assumption); (rw [hr9.1]; rfl))))); have e5 : ((reckV op a b).f_Num : Nat) = 0 := (by ((have ho9 : okOp op := (by unfold okOp; omega); (have hr9 := reck_err ho9 (by assumption) (by assumption) (by assumption); (rw [hr9.1]; rfl))))); have e6 : (reckE op a b : Int) = intsE op a.f_Int b.f_Int := (by ((have ho9 : okOp op := (by unfold okOp; omega); (have hr9 := reck_err ho9 (by assumption) (by assumption) (by assumption); exact hr9.2)))); have hE := congr (congr (congr (congr (congr (congrArg (fun (q1 : Int) (q2 : Int) (q3 : Bool) (q4 : List UInt8) (q5 : Nat) (q6 : Int) => (.tup [.agg [.d (.val (.int .i64 q1)), .d (.val (.int .i64 q2)), .d (.val (.bool q3)), .d (.val (strV q4)), .d (.val (.float .f64 q5))], .one (.d (.val (.int .i64 q6)))] : AV)) e1) e2) e3) e4) e5) e6; exact hE) rfl rfl rfl rfl rfl trivial
            · refine T.condF (by kernel_rfl) (decide_eq_false hq10) ?_
              refine T.skip ?_
              refine nT ?_
              refine T.seq ?_
              refine xR [hR 1 rfl rfl (r_call (value_ofInt (intsN op a.f_Int b.f_Int) ) Try.func55 rfl (by decide) [] [] (l := [(.tmp 57, dv (.int .i64 (intsN op a.f_Int b.f_Int)))]) [] rfl 0 0 rfl rfl rfl rfl rfl rfl rfl rfl rfl ⟨.inl ⟨rfl, rfl⟩, trivial⟩ rfl (fun b hb => by cases hb) (.inl rfl) (lt_of rfl) trivial)] (by kernel_rfl) (by kernel_rfl) ?_
              refine nT ?_
              refine T.ret ?_
              refine rB ?_
              refine rT ?_
              exact tE (.inl rfl) [.c 6 2 24 0 24 [.d (.val (.int .i64 (intV (intsN op a.f_Int b.f_Int)).f_Kind)), .d (.val (.int .i64 (intV (intsN op a.f_Int b.f_Int)).f_Int)), .d (.val (.bool (intV (intsN op a.f_Int b.f_Int)).f_Bool)), .d (.val (strV (intV (intsN op a.f_Int b.f_Int)).f_Text)), .d (.val (.float .f64 (intV (intsN op a.f_Int b.f_Int)).f_Num))] (.agg [.d (.val (.int .i64 (intV (intsN op a.f_Int b.f_Int)).f_Kind)), .d (.val (.int .i64 (intV (intsN op a.f_Int b.f_Int)).f_Int)), .d (.val (.bool (intV (intsN op a.f_Int b.f_Int)).f_Bool)), .d (.val (strV (intV (intsN op a.f_Int b.f_Int)).f_Text)), .d (.val (.float .f64 (intV (intsN op a.f_Int b.f_Int)).f_Num))]), .t 7 (.one (.d (.val (.int .i64 0))))] ⟨⟨rfl, rfl, by kernel_rfl, by kernel_rfl, .inl ⟨5, wide_24, rfl, Nat.le_of_ble_eq_true rfl⟩⟩, ⟨⟨rfl, by kernel_rfl⟩, trivial⟩⟩ [] (by have e1 : ((reckV op a b).f_Kind : Int) = (intV (intsN op a.f_Int b.f_Int)).f_Kind := (by ((have ho9 : okOp op := (by unfold okOp; omega); (have hr9 := reck_ok ho9 (by assumption) (by assumption) (by assumption); (rw [hr9.1]; done))))); have e2 : ((reckV op a b).f_Int : Int) = (intV (intsN op a.f_Int b.f_Int)).f_Int := (by ((have ho9 : okOp op := (by unfold okOp; omega); (have hr9 := reck_ok ho9 (by assumption) (by assumption) (by assumption); (rw [hr9.1]; done))))); have e3 : ((reckV op a b).f_Bool : Bool) = (intV (intsN op a.f_Int b.f_Int)).f_Bool := (by ((have ho9 : okOp op := (by unfold okOp; omega); (have hr9 := reck_ok ho9 (by assumption) (by assumption) (by assumption); (rw [hr9.1]; done))))); have e4 : ((reckV op a b).f_Text : List UInt8) = (intV (intsN op a.f_Int b.f_Int)).f_Text := (by ((have ho9 : okOp op := (by unfold okOp; omega); (have hr9 := reck_ok ho9 (by assumption) (by assumption) (by assumption); (rw [hr9.1]; done))))); have e5 : ((reckV op a b).f_Num : Nat) = (intV (intsN op a.f_Int b.f_Int)).f_Num := (by ((have ho9 : okOp op := (by unfold okOp; omega); (have hr9 := reck_ok ho9 (by assumption) (by assumption) (by assumption); (rw [hr9.1]; done))))); have e6 : (reckE op a b : Int) = 0 := (by ((have ho9 : okOp op := (by unfold okOp; omega); (have hr9 := reck_ok ho9 (by assumption) (by assumption) (by assumption); exact hr9.2)))); have hE := congr (congr (congr (congr (congr (congrArg (fun (q1 : Int) (q2 : Int) (q3 : Bool) (q4 : List UInt8) (q5 : Nat) (q6 : Int) => (.tup [.agg [.d (.val (.int .i64 q1)), .d (.val (.int .i64 q2)), .d (.val (.bool q3)), .d (.val (strV q4)), .d (.val (.float .f64 q5))], .one (.d (.val (.int .i64 q6)))] : AV)) e1) e2) e3) e4) e5) e6; exact hE) rfl rfl rfl rfl rfl trivial
          · refine T.condF (by kernel_rfl) (decide_eq_false hq9) ?_
            refine T.skip ?_
            refine nB ?_
            refine nT ?_
            refine T.seq ?_
            refine xR [] (by kernel_rfl) (by kernel_rfl) ?_
            refine nT ?_
            refine T.ret ?_
            exact tE (.inl rfl) [.c 6 2 24 0 24 [.d (.val (.int .i64 0)), .d (.val (.int .i64 0)), .d (.val (.bool false)), .d (.val (strV [])), .d (.val (.float .f64 0))] (.agg [.d (.val (.int .i64 0)), .d (.val (.int .i64 0)), .d (.val (.bool false)), .d (.val (strV [])), .d (.val (.float .f64 0))]), .t 7 (.one (.d (.val (.int .i64 40))))] ⟨⟨rfl, rfl, by kernel_rfl, by kernel_rfl, .inl ⟨5, wide_24, rfl, Nat.le_of_ble_eq_true rfl⟩⟩, ⟨⟨rfl, by kernel_rfl⟩, trivial⟩⟩ [] (by have e1 : ((reckV op a b).f_Kind : Int) = 0 := (by ((have ho9 : okOp op := (by unfold okOp; omega); (have hr9 := reck_type (a := a) (b := b) ho9 (fun h9 => by exact absurd h9.2 (by assumption)); (rw [hr9.1]; rfl))))); have e2 : ((reckV op a b).f_Int : Int) = 0 := (by ((have ho9 : okOp op := (by unfold okOp; omega); (have hr9 := reck_type (a := a) (b := b) ho9 (fun h9 => by exact absurd h9.2 (by assumption)); (rw [hr9.1]; rfl))))); have e3 : ((reckV op a b).f_Bool : Bool) = false := (by ((have ho9 : okOp op := (by unfold okOp; omega); (have hr9 := reck_type (a := a) (b := b) ho9 (fun h9 => by exact absurd h9.2 (by assumption)); (rw [hr9.1]; rfl))))); have e4 : ((reckV op a b).f_Text : List UInt8) = [] := (by ((have ho9 : okOp op := (by unfold okOp; omega); (have hr9 := reck_type (a := a) (b := b) ho9 (fun h9 => by exact absurd h9.2 (by assumption)); (rw [hr9.1]; rfl))))); have e5 : ((reckV op a b).f_Num : Nat) = 0 := (by ((have ho9 : okOp op := (by unfold okOp; omega); (have hr9 := reck_type (a := a) (b := b) ho9 (fun h9 => by exact absurd h9.2 (by assumption)); (rw [hr9.1]; rfl))))); have e6 : (reckE op a b : Int) = 40 := (by ((have ho9 : okOp op := (by unfold okOp; omega); (have hr9 := reck_type (a := a) (b := b) ho9 (fun h9 => by exact absurd h9.2 (by assumption)); exact hr9.2)))); have hE := congr (congr (congr (congr (congr (congrArg (fun (q1 : Int) (q2 : Int) (q3 : Bool) (q4 : List UInt8) (q5 : Nat) (q6 : Int) => (.tup [.agg [.d (.val (.int .i64 q1)), .d (.val (.int .i64 q2)), .d (.val (.bool q3)), .d (.val (strV q4)), .d (.val (.float .f64 q5))], .one (.d (.val (.int .i64 q6)))] : AV)) e1) e2) e3) e4) e5) e6; exact hE) rfl rfl rfl rfl rfl trivial
      · refine xR [hR 2 rfl rfl (r_call (value_both a b ) Try.func51 rfl (by decide) [] [] (l := [(.tmp 20, .tv (.agg [.d (.val (.int .i64 a.f_Kind)), .d (.val (.int .i64 a.f_Int)), .d (.val (.bool a.f_Bool)), .d (.val (strV a.f_Text)), .d (.val (.float .f64 a.f_Num))])), (.tmp 21, .tv (.agg [.d (.val (.int .i64 b.f_Kind)), .d (.val (.int .i64 b.f_Int)), .d (.val (.bool b.f_Bool)), .d (.val (strV b.f_Text)), .d (.val (.float .f64 b.f_Num))]))]) [] rfl 0 0 rfl rfl rfl rfl rfl rfl rfl rfl rfl ⟨⟨.inl ⟨rfl, rfl⟩, ⟨.inl ⟨rfl, rfl⟩, ⟨.inl ⟨rfl, rfl⟩, ⟨.inl ⟨rfl, rfl⟩, ⟨.inl ⟨rfl, rfl⟩, trivial⟩⟩⟩⟩⟩, ⟨⟨.inl ⟨rfl, rfl⟩, ⟨.inl ⟨rfl, rfl⟩, ⟨.inl ⟨rfl, rfl⟩, ⟨.inl ⟨rfl, rfl⟩, ⟨.inl ⟨rfl, rfl⟩, trivial⟩⟩⟩⟩⟩, trivial⟩⟩ rfl (fun b hb => by cases hb) (.inl rfl) (lt_of rfl) trivial),
          hN 4 true (decide_eq_false hq7),
          hN 5 true (decide_eq_false hq7),
          hN 6 true (decide_eq_false hq7),
          hP 7 (decide_eq_false hq7)] (by kernel_rfl) (by kernel_rfl) ?_
        refine nT ?_
        refine T.condF (b := false) (by kernel_rfl) rfl ?_
        refine T.seq ?_
        refine xR [hR 2 rfl rfl (r_call (value_both a b ) Try.func51 rfl (by decide) [] [] (l := [(.tmp 36, .tv (.agg [.d (.val (.int .i64 a.f_Kind)), .d (.val (.int .i64 a.f_Int)), .d (.val (.bool a.f_Bool)), .d (.val (strV a.f_Text)), .d (.val (.float .f64 a.f_Num))])), (.tmp 37, .tv (.agg [.d (.val (.int .i64 b.f_Kind)), .d (.val (.int .i64 b.f_Int)), .d (.val (.bool b.f_Bool)), .d (.val (strV b.f_Text)), .d (.val (.float .f64 b.f_Num))]))]) [] rfl 0 0 rfl rfl rfl rfl rfl rfl rfl rfl rfl ⟨⟨.inl ⟨rfl, rfl⟩, ⟨.inl ⟨rfl, rfl⟩, ⟨.inl ⟨rfl, rfl⟩, ⟨.inl ⟨rfl, rfl⟩, ⟨.inl ⟨rfl, rfl⟩, trivial⟩⟩⟩⟩⟩, ⟨⟨.inl ⟨rfl, rfl⟩, ⟨.inl ⟨rfl, rfl⟩, ⟨.inl ⟨rfl, rfl⟩, ⟨.inl ⟨rfl, rfl⟩, ⟨.inl ⟨rfl, rfl⟩, trivial⟩⟩⟩⟩⟩, trivial⟩⟩ rfl (fun b hb => by cases hb) (.inl rfl) (lt_of rfl) trivial),
          hN 4 true (decide_eq_false hq7),
          hN 5 true (decide_eq_false hq7),
          hN 6 true (decide_eq_false hq7),
          hP 7 (decide_eq_false hq7)] (by kernel_rfl) (by kernel_rfl) ?_
        refine nT ?_
        refine T.condF (b := false) (by kernel_rfl) rfl ?_
        refine T.skip ?_
        refine nB ?_
        refine nT ?_
        refine T.seq ?_
        refine xR [] (by kernel_rfl) (by kernel_rfl) ?_
        refine nT ?_
        refine T.ret ?_
        exact tE (.inl rfl) [.c 6 2 24 0 24 [.d (.val (.int .i64 0)), .d (.val (.int .i64 0)), .d (.val (.bool false)), .d (.val (strV [])), .d (.val (.float .f64 0))] (.agg [.d (.val (.int .i64 0)), .d (.val (.int .i64 0)), .d (.val (.bool false)), .d (.val (strV [])), .d (.val (.float .f64 0))]), .t 7 (.one (.d (.val (.int .i64 40))))] ⟨⟨rfl, rfl, by kernel_rfl, by kernel_rfl, .inl ⟨5, wide_24, rfl, Nat.le_of_ble_eq_true rfl⟩⟩, ⟨⟨rfl, by kernel_rfl⟩, trivial⟩⟩ [] (by have e1 : ((reckV op a b).f_Kind : Int) = 0 := (by ((have ho9 : okOp op := (by unfold okOp; omega); (have hr9 := reck_type (a := a) (b := b) ho9 (fun h9 => by exact absurd h9.1 (by assumption)); (rw [hr9.1]; rfl))))); have e2 : ((reckV op a b).f_Int : Int) = 0 := (by ((have ho9 : okOp op := (by unfold okOp; omega); (have hr9 := reck_type (a := a) (b := b) ho9 (fun h9 => by exact absurd h9.1 (by assumption)); (rw [hr9.1]; rfl))))); have e3 : ((reckV op a b).f_Bool : Bool) = false := (by ((have ho9 : okOp op := (by unfold okOp; omega); (have hr9 := reck_type (a := a) (b := b) ho9 (fun h9 => by exact absurd h9.1 (by assumption)); (rw [hr9.1]; rfl))))); have e4 : ((reckV op a b).f_Text : List UInt8) = [] := (by ((have ho9 : okOp op := (by unfold okOp; omega); (have hr9 := reck_type (a := a) (b := b) ho9 (fun h9 => by exact absurd h9.1 (by assumption)); (rw [hr9.1]; rfl))))); have e5 : ((reckV op a b).f_Num : Nat) = 0 := (by ((have ho9 : okOp op := (by unfold okOp; omega); (have hr9 := reck_type (a := a) (b := b) ho9 (fun h9 => by exact absurd h9.1 (by assumption)); (rw [hr9.1]; rfl))))); have e6 : (reckE op a b : Int) = 40 := (by ((have ho9 : okOp op := (by unfold okOp; omega); (have hr9 := reck_type (a := a) (b := b) ho9 (fun h9 => by exact absurd h9.1 (by assumption)); exact hr9.2)))); have hE := congr (congr (congr (congr (congr (congrArg (fun (q1 : Int) (q2 : Int) (q3 : Bool) (q4 : List UInt8) (q5 : Nat) (q6 : Int) => (.tup [.agg [.d (.val (.int .i64 q1)), .d (.val (.int .i64 q2)), .d (.val (.bool q3)), .d (.val (strV q4)), .d (.val (.float .f64 q5))], .one (.d (.val (.int .i64 q6)))] : AV)) e1) e2) e3) e4) e5) e6; exact hE) rfl rfl rfl rfl rfl trivial
    · refine T.condF (by kernel_rfl) (decide_eq_false hq6) ?_
      refine T.seq ?_
      refine xR [] (by kernel_rfl) (by kernel_rfl) ?_
      refine nT ?_
      by_cases hq11 : op = 6
      · refine T.condT (by kernel_rfl) (decide_eq_true hq11) ?_
        refine T.skip ?_
        refine nT ?_
        refine T.condT (by kernel_rfl) (decide_eq_true hq11) ?_
        refine T.skip ?_
        refine nB ?_
        refine nT ?_
        refine T.seq ?_
        refine T.block ?_
        refine T.seq ?_
        by_cases hq12 : bothV a b
        · refine xR [hR 2 rfl rfl (r_call (value_both a b ) Try.func51 rfl (by decide) [] [] (l := [(.tmp 20, .tv (.agg [.d (.val (.int .i64 a.f_Kind)), .d (.val (.int .i64 a.f_Int)), .d (.val (.bool a.f_Bool)), .d (.val (strV a.f_Text)), .d (.val (.float .f64 a.f_Num))])), (.tmp 21, .tv (.agg [.d (.val (.int .i64 b.f_Kind)), .d (.val (.int .i64 b.f_Int)), .d (.val (.bool b.f_Bool)), .d (.val (strV b.f_Text)), .d (.val (.float .f64 b.f_Num))]))]) [] rfl 0 0 rfl rfl rfl rfl rfl rfl rfl rfl rfl ⟨⟨.inl ⟨rfl, rfl⟩, ⟨.inl ⟨rfl, rfl⟩, ⟨.inl ⟨rfl, rfl⟩, ⟨.inl ⟨rfl, rfl⟩, ⟨.inl ⟨rfl, rfl⟩, trivial⟩⟩⟩⟩⟩, ⟨⟨.inl ⟨rfl, rfl⟩, ⟨.inl ⟨rfl, rfl⟩, ⟨.inl ⟨rfl, rfl⟩, ⟨.inl ⟨rfl, rfl⟩, ⟨.inl ⟨rfl, rfl⟩, trivial⟩⟩⟩⟩⟩, trivial⟩⟩ rfl (fun b hb => by cases hb) (.inl rfl) (lt_of rfl) trivial),
            hY 4 (decide_eq_true hq12),
            hY 5 (decide_eq_true hq12),
            hY 6 (decide_eq_true hq12),
            hP 7 (decide_eq_true hq12)] (by kernel_rfl) (by kernel_rfl) ?_
          refine nT ?_
          by_cases hq13 : a.f_Kind = 4
          · exact absurd ⟨by assumption, hq13⟩ hn
          · refine T.condF (by kernel_rfl) (decide_eq_false hq13) ?_
            refine T.seq ?_
            refine xR [hR 2 rfl rfl (r_call (value_both a b ) Try.func51 rfl (by decide) [] [] (l := [(.tmp 36, .tv (.agg [.d (.val (.int .i64 a.f_Kind)), .d (.val (.int .i64 a.f_Int)), .d (.val (.bool a.f_Bool)), .d (.val (strV a.f_Text)), .d (.val (.float .f64 a.f_Num))])), (.tmp 37, .tv (.agg [.d (.val (.int .i64 b.f_Kind)), .d (.val (.int .i64 b.f_Int)), .d (.val (.bool b.f_Bool)), .d (.val (strV b.f_Text)), .d (.val (.float .f64 b.f_Num))]))]) [] rfl 0 0 rfl rfl rfl rfl rfl rfl rfl rfl rfl ⟨⟨.inl ⟨rfl, rfl⟩, ⟨.inl ⟨rfl, rfl⟩, ⟨.inl ⟨rfl, rfl⟩, ⟨.inl ⟨rfl, rfl⟩, ⟨.inl ⟨rfl, rfl⟩, trivial⟩⟩⟩⟩⟩, ⟨⟨.inl ⟨rfl, rfl⟩, ⟨.inl ⟨rfl, rfl⟩, ⟨.inl ⟨rfl, rfl⟩, ⟨.inl ⟨rfl, rfl⟩, ⟨.inl ⟨rfl, rfl⟩, trivial⟩⟩⟩⟩⟩, trivial⟩⟩ rfl (fun b hb => by cases hb) (.inl rfl) (lt_of rfl) trivial),
              hY 4 (decide_eq_true hq12),
              hY 5 (decide_eq_true hq12),
              hY 6 (decide_eq_true hq12),
              hP 7 (decide_eq_true hq12)] (by kernel_rfl) (by kernel_rfl) ?_
            refine nT ?_
            by_cases hq14 : a.f_Kind = 1
            · refine T.condT (by kernel_rfl) (decide_eq_true hq14) ?_
              refine T.seq ?_
              refine xR [hR 5 rfl rfl (r_call (value_ints op a.f_Int b.f_Int (by assumption) (by assumption) (by (unfold okOp; omega))) Try.func54 rfl (by decide) [] [] (l := [(.tmp 45, dv (.int .i64 op)), (.tmp 47, dv (.int .i64 a.f_Int)), (.tmp 49, dv (.int .i64 b.f_Int))]) [] rfl 0 0 rfl rfl rfl rfl rfl rfl rfl rfl rfl ⟨.inl ⟨rfl, rfl⟩, ⟨.inl ⟨rfl, rfl⟩, ⟨.inl ⟨rfl, rfl⟩, trivial⟩⟩⟩ rfl (fun b hb => by cases hb) (.inl rfl) (lt_of rfl) trivial)] (by kernel_rfl) (by kernel_rfl) ?_
              refine nT ?_
              refine T.seq ?_
              refine T.seq ?_
              refine xR [] (by kernel_rfl) (by kernel_rfl) ?_
              refine nT ?_
              by_cases hq15 : (intsE op a.f_Int b.f_Int) ≠ 0
              · refine T.condT (by kernel_rfl) (decide_eq_true hq15) ?_
                refine T.seq ?_
                refine xR [] (by kernel_rfl) (by kernel_rfl) ?_
                refine nT ?_
                refine T.ret ?_
                refine rT ?_
                refine rB ?_
                refine rT ?_
                exact tE (.inl rfl) [.c 6 2 24 0 24 [.d (.val (.int .i64 0)), .d (.val (.int .i64 0)), .d (.val (.bool false)), .d (.val (strV [])), .d (.val (.float .f64 0))] (.agg [.d (.val (.int .i64 0)), .d (.val (.int .i64 0)), .d (.val (.bool false)), .d (.val (strV [])), .d (.val (.float .f64 0))]), .t 7 (.one (.d (.val (.int .i64 (intsE op a.f_Int b.f_Int)))))] ⟨⟨rfl, rfl, by kernel_rfl, by kernel_rfl, .inl ⟨5, wide_24, rfl, Nat.le_of_ble_eq_true rfl⟩⟩, ⟨⟨rfl, by kernel_rfl⟩, trivial⟩⟩ [] (by have e1 : ((reckV op a b).f_Kind : Int) = 0 := (by ((have ho9 : okOp op := (by unfold okOp; omega); (have hr9 := reck_err ho9 (by assumption) (by assumption) (by assumption); (rw [hr9.1]; rfl))))); have e2 : ((reckV op a b).f_Int : Int) = 0 := (by ((have ho9 : okOp op := (by unfold okOp; omega); (have hr9 := reck_err ho9 (by assumption) (by assumption) (by assumption); (rw [hr9.1]; rfl))))); have e3 : ((reckV op a b).f_Bool : Bool) = false := (by ((have ho9 : okOp op := (by unfold okOp; omega); (have hr9 := reck_err ho9 (by assumption) (by assumption) (by assumption); (rw [hr9.1]; rfl))))); have e4 : ((reckV op a b).f_Text : List UInt8) = [] := (by ((have ho9 : okOp op := (by unfold okOp; omega); (have hr9 := reck_err ho9 (by assumption) (by assumption) (by assumption); (rw [hr9.1]; rfl))))); have e5 : ((reckV op a b).f_Num : Nat) = 0 := (by ((have ho9 : okOp op := (by unfold okOp; omega); (have hr9 := reck_err ho9 (by assumption) (by assumption) (by assumption); (rw [hr9.1]; rfl))))); have e6 : (reckE op a b : Int) = intsE op a.f_Int b.f_Int := (by ((have ho9 : okOp op := (by unfold okOp; omega); (have hr9 := reck_err ho9 (by assumption) (by assumption) (by assumption); exact hr9.2)))); have hE := congr (congr (congr (congr (congr (congrArg (fun (q1 : Int) (q2 : Int) (q3 : Bool) (q4 : List UInt8) (q5 : Nat) (q6 : Int) => (.tup [.agg [.d (.val (.int .i64 q1)), .d (.val (.int .i64 q2)), .d (.val (.bool q3)), .d (.val (strV q4)), .d (.val (.float .f64 q5))], .one (.d (.val (.int .i64 q6)))] : AV)) e1) e2) e3) e4) e5) e6; exact hE) rfl rfl rfl rfl rfl trivial
              · refine T.condF (by kernel_rfl) (decide_eq_false hq15) ?_
                refine T.skip ?_
                refine nT ?_
                refine T.seq ?_
                refine xR [hR 1 rfl rfl (r_call (value_ofInt (intsN op a.f_Int b.f_Int) ) Try.func55 rfl (by decide) [] [] (l := [(.tmp 57, dv (.int .i64 (intsN op a.f_Int b.f_Int)))]) [] rfl 0 0 rfl rfl rfl rfl rfl rfl rfl rfl rfl ⟨.inl ⟨rfl, rfl⟩, trivial⟩ rfl (fun b hb => by cases hb) (.inl rfl) (lt_of rfl) trivial)] (by kernel_rfl) (by kernel_rfl) ?_
                refine nT ?_
                refine T.ret ?_
                refine rB ?_
                refine rT ?_
                exact tE (.inl rfl) [.c 6 2 24 0 24 [.d (.val (.int .i64 (intV (intsN op a.f_Int b.f_Int)).f_Kind)), .d (.val (.int .i64 (intV (intsN op a.f_Int b.f_Int)).f_Int)), .d (.val (.bool (intV (intsN op a.f_Int b.f_Int)).f_Bool)), .d (.val (strV (intV (intsN op a.f_Int b.f_Int)).f_Text)), .d (.val (.float .f64 (intV (intsN op a.f_Int b.f_Int)).f_Num))] (.agg [.d (.val (.int .i64 (intV (intsN op a.f_Int b.f_Int)).f_Kind)), .d (.val (.int .i64 (intV (intsN op a.f_Int b.f_Int)).f_Int)), .d (.val (.bool (intV (intsN op a.f_Int b.f_Int)).f_Bool)), .d (.val (strV (intV (intsN op a.f_Int b.f_Int)).f_Text)), .d (.val (.float .f64 (intV (intsN op a.f_Int b.f_Int)).f_Num))]), .t 7 (.one (.d (.val (.int .i64 0))))] ⟨⟨rfl, rfl, by kernel_rfl, by kernel_rfl, .inl ⟨5, wide_24, rfl, Nat.le_of_ble_eq_true rfl⟩⟩, ⟨⟨rfl, by kernel_rfl⟩, trivial⟩⟩ [] (by have e1 : ((reckV op a b).f_Kind : Int) = (intV (intsN op a.f_Int b.f_Int)).f_Kind := (by ((have ho9 : okOp op := (by unfold okOp; omega); (have hr9 := reck_ok ho9 (by assumption) (by assumption) (by assumption); (rw [hr9.1]; done))))); have e2 : ((reckV op a b).f_Int : Int) = (intV (intsN op a.f_Int b.f_Int)).f_Int := (by ((have ho9 : okOp op := (by unfold okOp; omega); (have hr9 := reck_ok ho9 (by assumption) (by assumption) (by assumption); (rw [hr9.1]; done))))); have e3 : ((reckV op a b).f_Bool : Bool) = (intV (intsN op a.f_Int b.f_Int)).f_Bool := (by ((have ho9 : okOp op := (by unfold okOp; omega); (have hr9 := reck_ok ho9 (by assumption) (by assumption) (by assumption); (rw [hr9.1]; done))))); have e4 : ((reckV op a b).f_Text : List UInt8) = (intV (intsN op a.f_Int b.f_Int)).f_Text := (by ((have ho9 : okOp op := (by unfold okOp; omega); (have hr9 := reck_ok ho9 (by assumption) (by assumption) (by assumption); (rw [hr9.1]; done))))); have e5 : ((reckV op a b).f_Num : Nat) = (intV (intsN op a.f_Int b.f_Int)).f_Num := (by ((have ho9 : okOp op := (by unfold okOp; omega); (have hr9 := reck_ok ho9 (by assumption) (by assumption) (by assumption); (rw [hr9.1]; done))))); have e6 : (reckE op a b : Int) = 0 := (by ((have ho9 : okOp op := (by unfold okOp; omega); (have hr9 := reck_ok ho9 (by assumption) (by assumption) (by assumption); exact hr9.2)))); have hE := congr (congr (congr (congr (congr (congrArg (fun (q1 : Int) (q2 : Int) (q3 : Bool) (q4 : List UInt8) (q5 : Nat) (q6 : Int) => (.tup [.agg [.d (.val (.int .i64 q1)), .d (.val (.int .i64 q2)), .d (.val (.bool q3)), .d (.val (strV q4)), .d (.val (.float .f64 q5))], .one (.d (.val (.int .i64 q6)))] : AV)) e1) e2) e3) e4) e5) e6; exact hE) rfl rfl rfl rfl rfl trivial
            · refine T.condF (by kernel_rfl) (decide_eq_false hq14) ?_
              refine T.skip ?_
              refine nB ?_
              refine nT ?_
              refine T.seq ?_
              refine xR [] (by kernel_rfl) (by kernel_rfl) ?_
              refine nT ?_
              refine T.ret ?_
              exact tE (.inl rfl) [.c 6 2 24 0 24 [.d (.val (.int .i64 0)), .d (.val (.int .i64 0)), .d (.val (.bool false)), .d (.val (strV [])), .d (.val (.float .f64 0))] (.agg [.d (.val (.int .i64 0)), .d (.val (.int .i64 0)), .d (.val (.bool false)), .d (.val (strV [])), .d (.val (.float .f64 0))]), .t 7 (.one (.d (.val (.int .i64 40))))] ⟨⟨rfl, rfl, by kernel_rfl, by kernel_rfl, .inl ⟨5, wide_24, rfl, Nat.le_of_ble_eq_true rfl⟩⟩, ⟨⟨rfl, by kernel_rfl⟩, trivial⟩⟩ [] (by have e1 : ((reckV op a b).f_Kind : Int) = 0 := (by ((have ho9 : okOp op := (by unfold okOp; omega); (have hr9 := reck_type (a := a) (b := b) ho9 (fun h9 => by exact absurd h9.2 (by assumption)); (rw [hr9.1]; rfl))))); have e2 : ((reckV op a b).f_Int : Int) = 0 := (by ((have ho9 : okOp op := (by unfold okOp; omega); (have hr9 := reck_type (a := a) (b := b) ho9 (fun h9 => by exact absurd h9.2 (by assumption)); (rw [hr9.1]; rfl))))); have e3 : ((reckV op a b).f_Bool : Bool) = false := (by ((have ho9 : okOp op := (by unfold okOp; omega); (have hr9 := reck_type (a := a) (b := b) ho9 (fun h9 => by exact absurd h9.2 (by assumption)); (rw [hr9.1]; rfl))))); have e4 : ((reckV op a b).f_Text : List UInt8) = [] := (by ((have ho9 : okOp op := (by unfold okOp; omega); (have hr9 := reck_type (a := a) (b := b) ho9 (fun h9 => by exact absurd h9.2 (by assumption)); (rw [hr9.1]; rfl))))); have e5 : ((reckV op a b).f_Num : Nat) = 0 := (by ((have ho9 : okOp op := (by unfold okOp; omega); (have hr9 := reck_type (a := a) (b := b) ho9 (fun h9 => by exact absurd h9.2 (by assumption)); (rw [hr9.1]; rfl))))); have e6 : (reckE op a b : Int) = 40 := (by ((have ho9 : okOp op := (by unfold okOp; omega); (have hr9 := reck_type (a := a) (b := b) ho9 (fun h9 => by exact absurd h9.2 (by assumption)); exact hr9.2)))); have hE := congr (congr (congr (congr (congr (congrArg (fun (q1 : Int) (q2 : Int) (q3 : Bool) (q4 : List UInt8) (q5 : Nat) (q6 : Int) => (.tup [.agg [.d (.val (.int .i64 q1)), .d (.val (.int .i64 q2)), .d (.val (.bool q3)), .d (.val (strV q4)), .d (.val (.float .f64 q5))], .one (.d (.val (.int .i64 q6)))] : AV)) e1) e2) e3) e4) e5) e6; exact hE) rfl rfl rfl rfl rfl trivial
        · refine xR [hR 2 rfl rfl (r_call (value_both a b ) Try.func51 rfl (by decide) [] [] (l := [(.tmp 20, .tv (.agg [.d (.val (.int .i64 a.f_Kind)), .d (.val (.int .i64 a.f_Int)), .d (.val (.bool a.f_Bool)), .d (.val (strV a.f_Text)), .d (.val (.float .f64 a.f_Num))])), (.tmp 21, .tv (.agg [.d (.val (.int .i64 b.f_Kind)), .d (.val (.int .i64 b.f_Int)), .d (.val (.bool b.f_Bool)), .d (.val (strV b.f_Text)), .d (.val (.float .f64 b.f_Num))]))]) [] rfl 0 0 rfl rfl rfl rfl rfl rfl rfl rfl rfl ⟨⟨.inl ⟨rfl, rfl⟩, ⟨.inl ⟨rfl, rfl⟩, ⟨.inl ⟨rfl, rfl⟩, ⟨.inl ⟨rfl, rfl⟩, ⟨.inl ⟨rfl, rfl⟩, trivial⟩⟩⟩⟩⟩, ⟨⟨.inl ⟨rfl, rfl⟩, ⟨.inl ⟨rfl, rfl⟩, ⟨.inl ⟨rfl, rfl⟩, ⟨.inl ⟨rfl, rfl⟩, ⟨.inl ⟨rfl, rfl⟩, trivial⟩⟩⟩⟩⟩, trivial⟩⟩ rfl (fun b hb => by cases hb) (.inl rfl) (lt_of rfl) trivial),
            hN 4 true (decide_eq_false hq12),
            hN 5 true (decide_eq_false hq12),
            hN 6 true (decide_eq_false hq12),
            hP 7 (decide_eq_false hq12)] (by kernel_rfl) (by kernel_rfl) ?_
          refine nT ?_
          refine T.condF (b := false) (by kernel_rfl) rfl ?_
          refine T.seq ?_
          refine xR [hR 2 rfl rfl (r_call (value_both a b ) Try.func51 rfl (by decide) [] [] (l := [(.tmp 36, .tv (.agg [.d (.val (.int .i64 a.f_Kind)), .d (.val (.int .i64 a.f_Int)), .d (.val (.bool a.f_Bool)), .d (.val (strV a.f_Text)), .d (.val (.float .f64 a.f_Num))])), (.tmp 37, .tv (.agg [.d (.val (.int .i64 b.f_Kind)), .d (.val (.int .i64 b.f_Int)), .d (.val (.bool b.f_Bool)), .d (.val (strV b.f_Text)), .d (.val (.float .f64 b.f_Num))]))]) [] rfl 0 0 rfl rfl rfl rfl rfl rfl rfl rfl rfl ⟨⟨.inl ⟨rfl, rfl⟩, ⟨.inl ⟨rfl, rfl⟩, ⟨.inl ⟨rfl, rfl⟩, ⟨.inl ⟨rfl, rfl⟩, ⟨.inl ⟨rfl, rfl⟩, trivial⟩⟩⟩⟩⟩, ⟨⟨.inl ⟨rfl, rfl⟩, ⟨.inl ⟨rfl, rfl⟩, ⟨.inl ⟨rfl, rfl⟩, ⟨.inl ⟨rfl, rfl⟩, ⟨.inl ⟨rfl, rfl⟩, trivial⟩⟩⟩⟩⟩, trivial⟩⟩ rfl (fun b hb => by cases hb) (.inl rfl) (lt_of rfl) trivial),
            hN 4 true (decide_eq_false hq12),
            hN 5 true (decide_eq_false hq12),
            hN 6 true (decide_eq_false hq12),
            hP 7 (decide_eq_false hq12)] (by kernel_rfl) (by kernel_rfl) ?_
          refine nT ?_
          refine T.condF (b := false) (by kernel_rfl) rfl ?_
          refine T.skip ?_
          refine nB ?_
          refine nT ?_
          refine T.seq ?_
          refine xR [] (by kernel_rfl) (by kernel_rfl) ?_
          refine nT ?_
          refine T.ret ?_
          exact tE (.inl rfl) [.c 6 2 24 0 24 [.d (.val (.int .i64 0)), .d (.val (.int .i64 0)), .d (.val (.bool false)), .d (.val (strV [])), .d (.val (.float .f64 0))] (.agg [.d (.val (.int .i64 0)), .d (.val (.int .i64 0)), .d (.val (.bool false)), .d (.val (strV [])), .d (.val (.float .f64 0))]), .t 7 (.one (.d (.val (.int .i64 40))))] ⟨⟨rfl, rfl, by kernel_rfl, by kernel_rfl, .inl ⟨5, wide_24, rfl, Nat.le_of_ble_eq_true rfl⟩⟩, ⟨⟨rfl, by kernel_rfl⟩, trivial⟩⟩ [] (by have e1 : ((reckV op a b).f_Kind : Int) = 0 := (by ((have ho9 : okOp op := (by unfold okOp; omega); (have hr9 := reck_type (a := a) (b := b) ho9 (fun h9 => by exact absurd h9.1 (by assumption)); (rw [hr9.1]; rfl))))); have e2 : ((reckV op a b).f_Int : Int) = 0 := (by ((have ho9 : okOp op := (by unfold okOp; omega); (have hr9 := reck_type (a := a) (b := b) ho9 (fun h9 => by exact absurd h9.1 (by assumption)); (rw [hr9.1]; rfl))))); have e3 : ((reckV op a b).f_Bool : Bool) = false := (by ((have ho9 : okOp op := (by unfold okOp; omega); (have hr9 := reck_type (a := a) (b := b) ho9 (fun h9 => by exact absurd h9.1 (by assumption)); (rw [hr9.1]; rfl))))); have e4 : ((reckV op a b).f_Text : List UInt8) = [] := (by ((have ho9 : okOp op := (by unfold okOp; omega); (have hr9 := reck_type (a := a) (b := b) ho9 (fun h9 => by exact absurd h9.1 (by assumption)); (rw [hr9.1]; rfl))))); have e5 : ((reckV op a b).f_Num : Nat) = 0 := (by ((have ho9 : okOp op := (by unfold okOp; omega); (have hr9 := reck_type (a := a) (b := b) ho9 (fun h9 => by exact absurd h9.1 (by assumption)); (rw [hr9.1]; rfl))))); have e6 : (reckE op a b : Int) = 40 := (by ((have ho9 : okOp op := (by unfold okOp; omega); (have hr9 := reck_type (a := a) (b := b) ho9 (fun h9 => by exact absurd h9.1 (by assumption)); exact hr9.2)))); have hE := congr (congr (congr (congr (congr (congrArg (fun (q1 : Int) (q2 : Int) (q3 : Bool) (q4 : List UInt8) (q5 : Nat) (q6 : Int) => (.tup [.agg [.d (.val (.int .i64 q1)), .d (.val (.int .i64 q2)), .d (.val (.bool q3)), .d (.val (strV q4)), .d (.val (.float .f64 q5))], .one (.d (.val (.int .i64 q6)))] : AV)) e1) e2) e3) e4) e5) e6; exact hE) rfl rfl rfl rfl rfl trivial
      · refine T.condF (by kernel_rfl) (decide_eq_false hq11) ?_
        refine T.seq ?_
        refine xR [] (by kernel_rfl) (by kernel_rfl) ?_
        refine nT ?_
        by_cases hq16 : op = 7
        · refine T.condT (by kernel_rfl) (decide_eq_true hq16) ?_
          refine T.skip ?_
          refine nT ?_
          refine T.condT (by kernel_rfl) (decide_eq_true hq16) ?_
          refine T.skip ?_
          refine nB ?_
          refine nT ?_
          refine T.seq ?_
          refine T.block ?_
          refine T.seq ?_
          by_cases hq17 : bothV a b
          · refine xR [hR 2 rfl rfl (r_call (value_both a b ) Try.func51 rfl (by decide) [] [] (l := [(.tmp 20, .tv (.agg [.d (.val (.int .i64 a.f_Kind)), .d (.val (.int .i64 a.f_Int)), .d (.val (.bool a.f_Bool)), .d (.val (strV a.f_Text)), .d (.val (.float .f64 a.f_Num))])), (.tmp 21, .tv (.agg [.d (.val (.int .i64 b.f_Kind)), .d (.val (.int .i64 b.f_Int)), .d (.val (.bool b.f_Bool)), .d (.val (strV b.f_Text)), .d (.val (.float .f64 b.f_Num))]))]) [] rfl 0 0 rfl rfl rfl rfl rfl rfl rfl rfl rfl ⟨⟨.inl ⟨rfl, rfl⟩, ⟨.inl ⟨rfl, rfl⟩, ⟨.inl ⟨rfl, rfl⟩, ⟨.inl ⟨rfl, rfl⟩, ⟨.inl ⟨rfl, rfl⟩, trivial⟩⟩⟩⟩⟩, ⟨⟨.inl ⟨rfl, rfl⟩, ⟨.inl ⟨rfl, rfl⟩, ⟨.inl ⟨rfl, rfl⟩, ⟨.inl ⟨rfl, rfl⟩, ⟨.inl ⟨rfl, rfl⟩, trivial⟩⟩⟩⟩⟩, trivial⟩⟩ rfl (fun b hb => by cases hb) (.inl rfl) (lt_of rfl) trivial),
              hY 4 (decide_eq_true hq17),
              hY 5 (decide_eq_true hq17),
              hY 6 (decide_eq_true hq17),
              hP 7 (decide_eq_true hq17)] (by kernel_rfl) (by kernel_rfl) ?_
            refine nT ?_
            by_cases hq18 : a.f_Kind = 4
            · exact absurd ⟨by assumption, hq18⟩ hn
            · refine T.condF (by kernel_rfl) (decide_eq_false hq18) ?_
              refine T.seq ?_
              refine xR [hR 2 rfl rfl (r_call (value_both a b ) Try.func51 rfl (by decide) [] [] (l := [(.tmp 36, .tv (.agg [.d (.val (.int .i64 a.f_Kind)), .d (.val (.int .i64 a.f_Int)), .d (.val (.bool a.f_Bool)), .d (.val (strV a.f_Text)), .d (.val (.float .f64 a.f_Num))])), (.tmp 37, .tv (.agg [.d (.val (.int .i64 b.f_Kind)), .d (.val (.int .i64 b.f_Int)), .d (.val (.bool b.f_Bool)), .d (.val (strV b.f_Text)), .d (.val (.float .f64 b.f_Num))]))]) [] rfl 0 0 rfl rfl rfl rfl rfl rfl rfl rfl rfl ⟨⟨.inl ⟨rfl, rfl⟩, ⟨.inl ⟨rfl, rfl⟩, ⟨.inl ⟨rfl, rfl⟩, ⟨.inl ⟨rfl, rfl⟩, ⟨.inl ⟨rfl, rfl⟩, trivial⟩⟩⟩⟩⟩, ⟨⟨.inl ⟨rfl, rfl⟩, ⟨.inl ⟨rfl, rfl⟩, ⟨.inl ⟨rfl, rfl⟩, ⟨.inl ⟨rfl, rfl⟩, ⟨.inl ⟨rfl, rfl⟩, trivial⟩⟩⟩⟩⟩, trivial⟩⟩ rfl (fun b hb => by cases hb) (.inl rfl) (lt_of rfl) trivial),
                hY 4 (decide_eq_true hq17),
                hY 5 (decide_eq_true hq17),
                hY 6 (decide_eq_true hq17),
                hP 7 (decide_eq_true hq17)] (by kernel_rfl) (by kernel_rfl) ?_
              refine nT ?_
              by_cases hq19 : a.f_Kind = 1
              · refine T.condT (by kernel_rfl) (decide_eq_true hq19) ?_
                refine T.seq ?_
                refine xR [hR 5 rfl rfl (r_call (value_ints op a.f_Int b.f_Int (by assumption) (by assumption) (by (unfold okOp; omega))) Try.func54 rfl (by decide) [] [] (l := [(.tmp 45, dv (.int .i64 op)), (.tmp 47, dv (.int .i64 a.f_Int)), (.tmp 49, dv (.int .i64 b.f_Int))]) [] rfl 0 0 rfl rfl rfl rfl rfl rfl rfl rfl rfl ⟨.inl ⟨rfl, rfl⟩, ⟨.inl ⟨rfl, rfl⟩, ⟨.inl ⟨rfl, rfl⟩, trivial⟩⟩⟩ rfl (fun b hb => by cases hb) (.inl rfl) (lt_of rfl) trivial)] (by kernel_rfl) (by kernel_rfl) ?_
                refine nT ?_
                refine T.seq ?_
                refine T.seq ?_
                refine xR [] (by kernel_rfl) (by kernel_rfl) ?_
                refine nT ?_
                by_cases hq20 : (intsE op a.f_Int b.f_Int) ≠ 0
                · refine T.condT (by kernel_rfl) (decide_eq_true hq20) ?_
                  refine T.seq ?_
                  refine xR [] (by kernel_rfl) (by kernel_rfl) ?_
                  refine nT ?_
                  refine T.ret ?_
                  refine rT ?_
                  refine rB ?_
                  refine rT ?_
                  exact tE (.inl rfl) [.c 6 2 24 0 24 [.d (.val (.int .i64 0)), .d (.val (.int .i64 0)), .d (.val (.bool false)), .d (.val (strV [])), .d (.val (.float .f64 0))] (.agg [.d (.val (.int .i64 0)), .d (.val (.int .i64 0)), .d (.val (.bool false)), .d (.val (strV [])), .d (.val (.float .f64 0))]), .t 7 (.one (.d (.val (.int .i64 (intsE op a.f_Int b.f_Int)))))] ⟨⟨rfl, rfl, by kernel_rfl, by kernel_rfl, .inl ⟨5, wide_24, rfl, Nat.le_of_ble_eq_true rfl⟩⟩, ⟨⟨rfl, by kernel_rfl⟩, trivial⟩⟩ [] (by have e1 : ((reckV op a b).f_Kind : Int) = 0 := (by ((have ho9 : okOp op := (by unfold okOp; omega); (have hr9 := reck_err ho9 (by assumption) (by assumption) (by assumption); (rw [hr9.1]; rfl))))); have e2 : ((reckV op a b).f_Int : Int) = 0 := (by ((have ho9 : okOp op := (by unfold okOp; omega); (have hr9 := reck_err ho9 (by assumption) (by assumption) (by assumption); (rw [hr9.1]; rfl))))); have e3 : ((reckV op a b).f_Bool : Bool) = false := (by ((have ho9 : okOp op := (by unfold okOp; omega); (have hr9 := reck_err ho9 (by assumption) (by assumption) (by assumption); (rw [hr9.1]; rfl))))); have e4 : ((reckV op a b).f_Text : List UInt8) = [] := (by ((have ho9 : okOp op := (by unfold okOp; omega); (have hr9 := reck_err ho9 (by assumption) (by assumption) (by assumption); (rw [hr9.1]; rfl))))); have e5 : ((reckV op a b).f_Num : Nat) = 0 := (by ((have ho9 : okOp op := (by unfold okOp; omega); (have hr9 := reck_err ho9 (by assumption) (by assumption) (by assumption); (rw [hr9.1]; rfl))))); have e6 : (reckE op a b : Int) = intsE op a.f_Int b.f_Int := (by ((have ho9 : okOp op := (by unfold okOp; omega); (have hr9 := reck_err ho9 (by assumption) (by assumption) (by assumption); exact hr9.2)))); have hE := congr (congr (congr (congr (congr (congrArg (fun (q1 : Int) (q2 : Int) (q3 : Bool) (q4 : List UInt8) (q5 : Nat) (q6 : Int) => (.tup [.agg [.d (.val (.int .i64 q1)), .d (.val (.int .i64 q2)), .d (.val (.bool q3)), .d (.val (strV q4)), .d (.val (.float .f64 q5))], .one (.d (.val (.int .i64 q6)))] : AV)) e1) e2) e3) e4) e5) e6; exact hE) rfl rfl rfl rfl rfl trivial
                · refine T.condF (by kernel_rfl) (decide_eq_false hq20) ?_
                  refine T.skip ?_
                  refine nT ?_
                  refine T.seq ?_
                  refine xR [hR 1 rfl rfl (r_call (value_ofInt (intsN op a.f_Int b.f_Int) ) Try.func55 rfl (by decide) [] [] (l := [(.tmp 57, dv (.int .i64 (intsN op a.f_Int b.f_Int)))]) [] rfl 0 0 rfl rfl rfl rfl rfl rfl rfl rfl rfl ⟨.inl ⟨rfl, rfl⟩, trivial⟩ rfl (fun b hb => by cases hb) (.inl rfl) (lt_of rfl) trivial)] (by kernel_rfl) (by kernel_rfl) ?_
                  refine nT ?_
                  refine T.ret ?_
                  refine rB ?_
                  refine rT ?_
                  exact tE (.inl rfl) [.c 6 2 24 0 24 [.d (.val (.int .i64 (intV (intsN op a.f_Int b.f_Int)).f_Kind)), .d (.val (.int .i64 (intV (intsN op a.f_Int b.f_Int)).f_Int)), .d (.val (.bool (intV (intsN op a.f_Int b.f_Int)).f_Bool)), .d (.val (strV (intV (intsN op a.f_Int b.f_Int)).f_Text)), .d (.val (.float .f64 (intV (intsN op a.f_Int b.f_Int)).f_Num))] (.agg [.d (.val (.int .i64 (intV (intsN op a.f_Int b.f_Int)).f_Kind)), .d (.val (.int .i64 (intV (intsN op a.f_Int b.f_Int)).f_Int)), .d (.val (.bool (intV (intsN op a.f_Int b.f_Int)).f_Bool)), .d (.val (strV (intV (intsN op a.f_Int b.f_Int)).f_Text)), .d (.val (.float .f64 (intV (intsN op a.f_Int b.f_Int)).f_Num))]), .t 7 (.one (.d (.val (.int .i64 0))))] ⟨⟨rfl, rfl, by kernel_rfl, by kernel_rfl, .inl ⟨5, wide_24, rfl, Nat.le_of_ble_eq_true rfl⟩⟩, ⟨⟨rfl, by kernel_rfl⟩, trivial⟩⟩ [] (by have e1 : ((reckV op a b).f_Kind : Int) = (intV (intsN op a.f_Int b.f_Int)).f_Kind := (by ((have ho9 : okOp op := (by unfold okOp; omega); (have hr9 := reck_ok ho9 (by assumption) (by assumption) (by assumption); (rw [hr9.1]; done))))); have e2 : ((reckV op a b).f_Int : Int) = (intV (intsN op a.f_Int b.f_Int)).f_Int := (by ((have ho9 : okOp op := (by unfold okOp; omega); (have hr9 := reck_ok ho9 (by assumption) (by assumption) (by assumption); (rw [hr9.1]; done))))); have e3 : ((reckV op a b).f_Bool : Bool) = (intV (intsN op a.f_Int b.f_Int)).f_Bool := (by ((have ho9 : okOp op := (by unfold okOp; omega); (have hr9 := reck_ok ho9 (by assumption) (by assumption) (by assumption); (rw [hr9.1]; done))))); have e4 : ((reckV op a b).f_Text : List UInt8) = (intV (intsN op a.f_Int b.f_Int)).f_Text := (by ((have ho9 : okOp op := (by unfold okOp; omega); (have hr9 := reck_ok ho9 (by assumption) (by assumption) (by assumption); (rw [hr9.1]; done))))); have e5 : ((reckV op a b).f_Num : Nat) = (intV (intsN op a.f_Int b.f_Int)).f_Num := (by ((have ho9 : okOp op := (by unfold okOp; omega); (have hr9 := reck_ok ho9 (by assumption) (by assumption) (by assumption); (rw [hr9.1]; done))))); have e6 : (reckE op a b : Int) = 0 := (by ((have ho9 : okOp op := (by unfold okOp; omega); (have hr9 := reck_ok ho9 (by assumption) (by assumption) (by assumption); exact hr9.2)))); have hE := congr (congr (congr (congr (congr (congrArg (fun (q1 : Int) (q2 : Int) (q3 : Bool) (q4 : List UInt8) (q5 : Nat) (q6 : Int) => (.tup [.agg [.d (.val (.int .i64 q1)), .d (.val (.int .i64 q2)), .d (.val (.bool q3)), .d (.val (strV q4)), .d (.val (.float .f64 q5))], .one (.d (.val (.int .i64 q6)))] : AV)) e1) e2) e3) e4) e5) e6; exact hE) rfl rfl rfl rfl rfl trivial
              · refine T.condF (by kernel_rfl) (decide_eq_false hq19) ?_
                refine T.skip ?_
                refine nB ?_
                refine nT ?_
                refine T.seq ?_
                refine xR [] (by kernel_rfl) (by kernel_rfl) ?_
                refine nT ?_
                refine T.ret ?_
                exact tE (.inl rfl) [.c 6 2 24 0 24 [.d (.val (.int .i64 0)), .d (.val (.int .i64 0)), .d (.val (.bool false)), .d (.val (strV [])), .d (.val (.float .f64 0))] (.agg [.d (.val (.int .i64 0)), .d (.val (.int .i64 0)), .d (.val (.bool false)), .d (.val (strV [])), .d (.val (.float .f64 0))]), .t 7 (.one (.d (.val (.int .i64 40))))] ⟨⟨rfl, rfl, by kernel_rfl, by kernel_rfl, .inl ⟨5, wide_24, rfl, Nat.le_of_ble_eq_true rfl⟩⟩, ⟨⟨rfl, by kernel_rfl⟩, trivial⟩⟩ [] (by have e1 : ((reckV op a b).f_Kind : Int) = 0 := (by ((have ho9 : okOp op := (by unfold okOp; omega); (have hr9 := reck_type (a := a) (b := b) ho9 (fun h9 => by exact absurd h9.2 (by assumption)); (rw [hr9.1]; rfl))))); have e2 : ((reckV op a b).f_Int : Int) = 0 := (by ((have ho9 : okOp op := (by unfold okOp; omega); (have hr9 := reck_type (a := a) (b := b) ho9 (fun h9 => by exact absurd h9.2 (by assumption)); (rw [hr9.1]; rfl))))); have e3 : ((reckV op a b).f_Bool : Bool) = false := (by ((have ho9 : okOp op := (by unfold okOp; omega); (have hr9 := reck_type (a := a) (b := b) ho9 (fun h9 => by exact absurd h9.2 (by assumption)); (rw [hr9.1]; rfl))))); have e4 : ((reckV op a b).f_Text : List UInt8) = [] := (by ((have ho9 : okOp op := (by unfold okOp; omega); (have hr9 := reck_type (a := a) (b := b) ho9 (fun h9 => by exact absurd h9.2 (by assumption)); (rw [hr9.1]; rfl))))); have e5 : ((reckV op a b).f_Num : Nat) = 0 := (by ((have ho9 : okOp op := (by unfold okOp; omega); (have hr9 := reck_type (a := a) (b := b) ho9 (fun h9 => by exact absurd h9.2 (by assumption)); (rw [hr9.1]; rfl))))); have e6 : (reckE op a b : Int) = 40 := (by ((have ho9 : okOp op := (by unfold okOp; omega); (have hr9 := reck_type (a := a) (b := b) ho9 (fun h9 => by exact absurd h9.2 (by assumption)); exact hr9.2)))); have hE := congr (congr (congr (congr (congr (congrArg (fun (q1 : Int) (q2 : Int) (q3 : Bool) (q4 : List UInt8) (q5 : Nat) (q6 : Int) => (.tup [.agg [.d (.val (.int .i64 q1)), .d (.val (.int .i64 q2)), .d (.val (.bool q3)), .d (.val (strV q4)), .d (.val (.float .f64 q5))], .one (.d (.val (.int .i64 q6)))] : AV)) e1) e2) e3) e4) e5) e6; exact hE) rfl rfl rfl rfl rfl trivial
          · refine xR [hR 2 rfl rfl (r_call (value_both a b ) Try.func51 rfl (by decide) [] [] (l := [(.tmp 20, .tv (.agg [.d (.val (.int .i64 a.f_Kind)), .d (.val (.int .i64 a.f_Int)), .d (.val (.bool a.f_Bool)), .d (.val (strV a.f_Text)), .d (.val (.float .f64 a.f_Num))])), (.tmp 21, .tv (.agg [.d (.val (.int .i64 b.f_Kind)), .d (.val (.int .i64 b.f_Int)), .d (.val (.bool b.f_Bool)), .d (.val (strV b.f_Text)), .d (.val (.float .f64 b.f_Num))]))]) [] rfl 0 0 rfl rfl rfl rfl rfl rfl rfl rfl rfl ⟨⟨.inl ⟨rfl, rfl⟩, ⟨.inl ⟨rfl, rfl⟩, ⟨.inl ⟨rfl, rfl⟩, ⟨.inl ⟨rfl, rfl⟩, ⟨.inl ⟨rfl, rfl⟩, trivial⟩⟩⟩⟩⟩, ⟨⟨.inl ⟨rfl, rfl⟩, ⟨.inl ⟨rfl, rfl⟩, ⟨.inl ⟨rfl, rfl⟩, ⟨.inl ⟨rfl, rfl⟩, ⟨.inl ⟨rfl, rfl⟩, trivial⟩⟩⟩⟩⟩, trivial⟩⟩ rfl (fun b hb => by cases hb) (.inl rfl) (lt_of rfl) trivial),
              hN 4 true (decide_eq_false hq17),
              hN 5 true (decide_eq_false hq17),
              hN 6 true (decide_eq_false hq17),
              hP 7 (decide_eq_false hq17)] (by kernel_rfl) (by kernel_rfl) ?_
            refine nT ?_
            refine T.condF (b := false) (by kernel_rfl) rfl ?_
            refine T.seq ?_
            refine xR [hR 2 rfl rfl (r_call (value_both a b ) Try.func51 rfl (by decide) [] [] (l := [(.tmp 36, .tv (.agg [.d (.val (.int .i64 a.f_Kind)), .d (.val (.int .i64 a.f_Int)), .d (.val (.bool a.f_Bool)), .d (.val (strV a.f_Text)), .d (.val (.float .f64 a.f_Num))])), (.tmp 37, .tv (.agg [.d (.val (.int .i64 b.f_Kind)), .d (.val (.int .i64 b.f_Int)), .d (.val (.bool b.f_Bool)), .d (.val (strV b.f_Text)), .d (.val (.float .f64 b.f_Num))]))]) [] rfl 0 0 rfl rfl rfl rfl rfl rfl rfl rfl rfl ⟨⟨.inl ⟨rfl, rfl⟩, ⟨.inl ⟨rfl, rfl⟩, ⟨.inl ⟨rfl, rfl⟩, ⟨.inl ⟨rfl, rfl⟩, ⟨.inl ⟨rfl, rfl⟩, trivial⟩⟩⟩⟩⟩, ⟨⟨.inl ⟨rfl, rfl⟩, ⟨.inl ⟨rfl, rfl⟩, ⟨.inl ⟨rfl, rfl⟩, ⟨.inl ⟨rfl, rfl⟩, ⟨.inl ⟨rfl, rfl⟩, trivial⟩⟩⟩⟩⟩, trivial⟩⟩ rfl (fun b hb => by cases hb) (.inl rfl) (lt_of rfl) trivial),
              hN 4 true (decide_eq_false hq17),
              hN 5 true (decide_eq_false hq17),
              hN 6 true (decide_eq_false hq17),
              hP 7 (decide_eq_false hq17)] (by kernel_rfl) (by kernel_rfl) ?_
            refine nT ?_
            refine T.condF (b := false) (by kernel_rfl) rfl ?_
            refine T.skip ?_
            refine nB ?_
            refine nT ?_
            refine T.seq ?_
            refine xR [] (by kernel_rfl) (by kernel_rfl) ?_
            refine nT ?_
            refine T.ret ?_
            exact tE (.inl rfl) [.c 6 2 24 0 24 [.d (.val (.int .i64 0)), .d (.val (.int .i64 0)), .d (.val (.bool false)), .d (.val (strV [])), .d (.val (.float .f64 0))] (.agg [.d (.val (.int .i64 0)), .d (.val (.int .i64 0)), .d (.val (.bool false)), .d (.val (strV [])), .d (.val (.float .f64 0))]), .t 7 (.one (.d (.val (.int .i64 40))))] ⟨⟨rfl, rfl, by kernel_rfl, by kernel_rfl, .inl ⟨5, wide_24, rfl, Nat.le_of_ble_eq_true rfl⟩⟩, ⟨⟨rfl, by kernel_rfl⟩, trivial⟩⟩ [] (by have e1 : ((reckV op a b).f_Kind : Int) = 0 := (by ((have ho9 : okOp op := (by unfold okOp; omega); (have hr9 := reck_type (a := a) (b := b) ho9 (fun h9 => by exact absurd h9.1 (by assumption)); (rw [hr9.1]; rfl))))); have e2 : ((reckV op a b).f_Int : Int) = 0 := (by ((have ho9 : okOp op := (by unfold okOp; omega); (have hr9 := reck_type (a := a) (b := b) ho9 (fun h9 => by exact absurd h9.1 (by assumption)); (rw [hr9.1]; rfl))))); have e3 : ((reckV op a b).f_Bool : Bool) = false := (by ((have ho9 : okOp op := (by unfold okOp; omega); (have hr9 := reck_type (a := a) (b := b) ho9 (fun h9 => by exact absurd h9.1 (by assumption)); (rw [hr9.1]; rfl))))); have e4 : ((reckV op a b).f_Text : List UInt8) = [] := (by ((have ho9 : okOp op := (by unfold okOp; omega); (have hr9 := reck_type (a := a) (b := b) ho9 (fun h9 => by exact absurd h9.1 (by assumption)); (rw [hr9.1]; rfl))))); have e5 : ((reckV op a b).f_Num : Nat) = 0 := (by ((have ho9 : okOp op := (by unfold okOp; omega); (have hr9 := reck_type (a := a) (b := b) ho9 (fun h9 => by exact absurd h9.1 (by assumption)); (rw [hr9.1]; rfl))))); have e6 : (reckE op a b : Int) = 40 := (by ((have ho9 : okOp op := (by unfold okOp; omega); (have hr9 := reck_type (a := a) (b := b) ho9 (fun h9 => by exact absurd h9.1 (by assumption)); exact hr9.2)))); have hE := congr (congr (congr (congr (congr (congrArg (fun (q1 : Int) (q2 : Int) (q3 : Bool) (q4 : List UInt8) (q5 : Nat) (q6 : Int) => (.tup [.agg [.d (.val (.int .i64 q1)), .d (.val (.int .i64 q2)), .d (.val (.bool q3)), .d (.val (strV q4)), .d (.val (.float .f64 q5))], .one (.d (.val (.int .i64 q6)))] : AV)) e1) e2) e3) e4) e5) e6; exact hE) rfl rfl rfl rfl rfl trivial
        · refine T.condF (by kernel_rfl) (decide_eq_false hq16) ?_
          refine T.seq ?_
          refine xR [] (by kernel_rfl) (by kernel_rfl) ?_
          refine nT ?_
          by_cases hq21 : op = 14
          · refine T.condT (by kernel_rfl) (decide_eq_true hq21) ?_
            refine T.skip ?_
            refine nT ?_
            refine T.condT (by kernel_rfl) (decide_eq_true hq21) ?_
            refine T.skip ?_
            refine nB ?_
            refine nT ?_
            refine T.seq ?_
            refine T.block ?_
            refine T.seq ?_
            by_cases hq22 : bothV a b
            · refine xR [hR 2 rfl rfl (r_call (value_both a b ) Try.func51 rfl (by decide) [] [] (l := [(.tmp 20, .tv (.agg [.d (.val (.int .i64 a.f_Kind)), .d (.val (.int .i64 a.f_Int)), .d (.val (.bool a.f_Bool)), .d (.val (strV a.f_Text)), .d (.val (.float .f64 a.f_Num))])), (.tmp 21, .tv (.agg [.d (.val (.int .i64 b.f_Kind)), .d (.val (.int .i64 b.f_Int)), .d (.val (.bool b.f_Bool)), .d (.val (strV b.f_Text)), .d (.val (.float .f64 b.f_Num))]))]) [] rfl 0 0 rfl rfl rfl rfl rfl rfl rfl rfl rfl ⟨⟨.inl ⟨rfl, rfl⟩, ⟨.inl ⟨rfl, rfl⟩, ⟨.inl ⟨rfl, rfl⟩, ⟨.inl ⟨rfl, rfl⟩, ⟨.inl ⟨rfl, rfl⟩, trivial⟩⟩⟩⟩⟩, ⟨⟨.inl ⟨rfl, rfl⟩, ⟨.inl ⟨rfl, rfl⟩, ⟨.inl ⟨rfl, rfl⟩, ⟨.inl ⟨rfl, rfl⟩, ⟨.inl ⟨rfl, rfl⟩, trivial⟩⟩⟩⟩⟩, trivial⟩⟩ rfl (fun b hb => by cases hb) (.inl rfl) (lt_of rfl) trivial),
                hY 4 (decide_eq_true hq22),
                hY 5 (decide_eq_true hq22),
                hY 6 (decide_eq_true hq22),
                hP 7 (decide_eq_true hq22)] (by kernel_rfl) (by kernel_rfl) ?_
              refine nT ?_
              by_cases hq23 : a.f_Kind = 4
              · exact absurd ⟨by assumption, hq23⟩ hn
              · refine T.condF (by kernel_rfl) (decide_eq_false hq23) ?_
                refine T.seq ?_
                refine xR [hR 2 rfl rfl (r_call (value_both a b ) Try.func51 rfl (by decide) [] [] (l := [(.tmp 36, .tv (.agg [.d (.val (.int .i64 a.f_Kind)), .d (.val (.int .i64 a.f_Int)), .d (.val (.bool a.f_Bool)), .d (.val (strV a.f_Text)), .d (.val (.float .f64 a.f_Num))])), (.tmp 37, .tv (.agg [.d (.val (.int .i64 b.f_Kind)), .d (.val (.int .i64 b.f_Int)), .d (.val (.bool b.f_Bool)), .d (.val (strV b.f_Text)), .d (.val (.float .f64 b.f_Num))]))]) [] rfl 0 0 rfl rfl rfl rfl rfl rfl rfl rfl rfl ⟨⟨.inl ⟨rfl, rfl⟩, ⟨.inl ⟨rfl, rfl⟩, ⟨.inl ⟨rfl, rfl⟩, ⟨.inl ⟨rfl, rfl⟩, ⟨.inl ⟨rfl, rfl⟩, trivial⟩⟩⟩⟩⟩, ⟨⟨.inl ⟨rfl, rfl⟩, ⟨.inl ⟨rfl, rfl⟩, ⟨.inl ⟨rfl, rfl⟩, ⟨.inl ⟨rfl, rfl⟩, ⟨.inl ⟨rfl, rfl⟩, trivial⟩⟩⟩⟩⟩, trivial⟩⟩ rfl (fun b hb => by cases hb) (.inl rfl) (lt_of rfl) trivial),
                  hY 4 (decide_eq_true hq22),
                  hY 5 (decide_eq_true hq22),
                  hY 6 (decide_eq_true hq22),
                  hP 7 (decide_eq_true hq22)] (by kernel_rfl) (by kernel_rfl) ?_
                refine nT ?_
                by_cases hq24 : a.f_Kind = 1
                · refine T.condT (by kernel_rfl) (decide_eq_true hq24) ?_
                  refine T.seq ?_
                  refine xR [hR 5 rfl rfl (r_call (value_ints op a.f_Int b.f_Int (by assumption) (by assumption) (by (unfold okOp; omega))) Try.func54 rfl (by decide) [] [] (l := [(.tmp 45, dv (.int .i64 op)), (.tmp 47, dv (.int .i64 a.f_Int)), (.tmp 49, dv (.int .i64 b.f_Int))]) [] rfl 0 0 rfl rfl rfl rfl rfl rfl rfl rfl rfl ⟨.inl ⟨rfl, rfl⟩, ⟨.inl ⟨rfl, rfl⟩, ⟨.inl ⟨rfl, rfl⟩, trivial⟩⟩⟩ rfl (fun b hb => by cases hb) (.inl rfl) (lt_of rfl) trivial)] (by kernel_rfl) (by kernel_rfl) ?_
                  refine nT ?_
                  refine T.seq ?_
                  refine T.seq ?_
                  refine xR [] (by kernel_rfl) (by kernel_rfl) ?_
                  refine nT ?_
                  by_cases hq25 : (intsE op a.f_Int b.f_Int) ≠ 0
                  · refine T.condT (by kernel_rfl) (decide_eq_true hq25) ?_
                    refine T.seq ?_
                    refine xR [] (by kernel_rfl) (by kernel_rfl) ?_
                    refine nT ?_
                    refine T.ret ?_
                    refine rT ?_
                    refine rB ?_
                    refine rT ?_
                    exact tE (.inl rfl) [.c 6 2 24 0 24 [.d (.val (.int .i64 0)), .d (.val (.int .i64 0)), .d (.val (.bool false)), .d (.val (strV [])), .d (.val (.float .f64 0))] (.agg [.d (.val (.int .i64 0)), .d (.val (.int .i64 0)), .d (.val (.bool false)), .d (.val (strV [])), .d (.val (.float .f64 0))]), .t 7 (.one (.d (.val (.int .i64 (intsE op a.f_Int b.f_Int)))))] ⟨⟨rfl, rfl, by kernel_rfl, by kernel_rfl, .inl ⟨5, wide_24, rfl, Nat.le_of_ble_eq_true rfl⟩⟩, ⟨⟨rfl, by kernel_rfl⟩, trivial⟩⟩ [] (by have e1 : ((reckV op a b).f_Kind : Int) = 0 := (by ((have ho9 : okOp op := (by unfold okOp; omega); (have hr9 := reck_err ho9 (by assumption) (by assumption) (by assumption); (rw [hr9.1]; rfl))))); have e2 : ((reckV op a b).f_Int : Int) = 0 := (by ((have ho9 : okOp op := (by unfold okOp; omega); (have hr9 := reck_err ho9 (by assumption) (by assumption) (by assumption); (rw [hr9.1]; rfl))))); have e3 : ((reckV op a b).f_Bool : Bool) = false := (by ((have ho9 : okOp op := (by unfold okOp; omega); (have hr9 := reck_err ho9 (by assumption) (by assumption) (by assumption); (rw [hr9.1]; rfl))))); have e4 : ((reckV op a b).f_Text : List UInt8) = [] := (by ((have ho9 : okOp op := (by unfold okOp; omega); (have hr9 := reck_err ho9 (by assumption) (by assumption) (by assumption); (rw [hr9.1]; rfl))))); have e5 : ((reckV op a b).f_Num : Nat) = 0 := (by ((have ho9 : okOp op := (by unfold okOp; omega); (have hr9 := reck_err ho9 (by assumption) (by assumption) (by assumption); (rw [hr9.1]; rfl))))); have e6 : (reckE op a b : Int) = intsE op a.f_Int b.f_Int := (by ((have ho9 : okOp op := (by unfold okOp; omega); (have hr9 := reck_err ho9 (by assumption) (by assumption) (by assumption); exact hr9.2)))); have hE := congr (congr (congr (congr (congr (congrArg (fun (q1 : Int) (q2 : Int) (q3 : Bool) (q4 : List UInt8) (q5 : Nat) (q6 : Int) => (.tup [.agg [.d (.val (.int .i64 q1)), .d (.val (.int .i64 q2)), .d (.val (.bool q3)), .d (.val (strV q4)), .d (.val (.float .f64 q5))], .one (.d (.val (.int .i64 q6)))] : AV)) e1) e2) e3) e4) e5) e6; exact hE) rfl rfl rfl rfl rfl trivial
                  · refine T.condF (by kernel_rfl) (decide_eq_false hq25) ?_
                    refine T.skip ?_
                    refine nT ?_
                    refine T.seq ?_
                    refine xR [hR 1 rfl rfl (r_call (value_ofInt (intsN op a.f_Int b.f_Int) ) Try.func55 rfl (by decide) [] [] (l := [(.tmp 57, dv (.int .i64 (intsN op a.f_Int b.f_Int)))]) [] rfl 0 0 rfl rfl rfl rfl rfl rfl rfl rfl rfl ⟨.inl ⟨rfl, rfl⟩, trivial⟩ rfl (fun b hb => by cases hb) (.inl rfl) (lt_of rfl) trivial)] (by kernel_rfl) (by kernel_rfl) ?_
                    refine nT ?_
                    refine T.ret ?_
                    refine rB ?_
                    refine rT ?_
                    exact tE (.inl rfl) [.c 6 2 24 0 24 [.d (.val (.int .i64 (intV (intsN op a.f_Int b.f_Int)).f_Kind)), .d (.val (.int .i64 (intV (intsN op a.f_Int b.f_Int)).f_Int)), .d (.val (.bool (intV (intsN op a.f_Int b.f_Int)).f_Bool)), .d (.val (strV (intV (intsN op a.f_Int b.f_Int)).f_Text)), .d (.val (.float .f64 (intV (intsN op a.f_Int b.f_Int)).f_Num))] (.agg [.d (.val (.int .i64 (intV (intsN op a.f_Int b.f_Int)).f_Kind)), .d (.val (.int .i64 (intV (intsN op a.f_Int b.f_Int)).f_Int)), .d (.val (.bool (intV (intsN op a.f_Int b.f_Int)).f_Bool)), .d (.val (strV (intV (intsN op a.f_Int b.f_Int)).f_Text)), .d (.val (.float .f64 (intV (intsN op a.f_Int b.f_Int)).f_Num))]), .t 7 (.one (.d (.val (.int .i64 0))))] ⟨⟨rfl, rfl, by kernel_rfl, by kernel_rfl, .inl ⟨5, wide_24, rfl, Nat.le_of_ble_eq_true rfl⟩⟩, ⟨⟨rfl, by kernel_rfl⟩, trivial⟩⟩ [] (by have e1 : ((reckV op a b).f_Kind : Int) = (intV (intsN op a.f_Int b.f_Int)).f_Kind := (by ((have ho9 : okOp op := (by unfold okOp; omega); (have hr9 := reck_ok ho9 (by assumption) (by assumption) (by assumption); (rw [hr9.1]; done))))); have e2 : ((reckV op a b).f_Int : Int) = (intV (intsN op a.f_Int b.f_Int)).f_Int := (by ((have ho9 : okOp op := (by unfold okOp; omega); (have hr9 := reck_ok ho9 (by assumption) (by assumption) (by assumption); (rw [hr9.1]; done))))); have e3 : ((reckV op a b).f_Bool : Bool) = (intV (intsN op a.f_Int b.f_Int)).f_Bool := (by ((have ho9 : okOp op := (by unfold okOp; omega); (have hr9 := reck_ok ho9 (by assumption) (by assumption) (by assumption); (rw [hr9.1]; done))))); have e4 : ((reckV op a b).f_Text : List UInt8) = (intV (intsN op a.f_Int b.f_Int)).f_Text := (by ((have ho9 : okOp op := (by unfold okOp; omega); (have hr9 := reck_ok ho9 (by assumption) (by assumption) (by assumption); (rw [hr9.1]; done))))); have e5 : ((reckV op a b).f_Num : Nat) = (intV (intsN op a.f_Int b.f_Int)).f_Num := (by ((have ho9 : okOp op := (by unfold okOp; omega); (have hr9 := reck_ok ho9 (by assumption) (by assumption) (by assumption); (rw [hr9.1]; done))))); have e6 : (reckE op a b : Int) = 0 := (by ((have ho9 : okOp op := (by unfold okOp; omega); (have hr9 := reck_ok ho9 (by assumption) (by assumption) (by assumption); exact hr9.2)))); have hE := congr (congr (congr (congr (congr (congrArg (fun (q1 : Int) (q2 : Int) (q3 : Bool) (q4 : List UInt8) (q5 : Nat) (q6 : Int) => (.tup [.agg [.d (.val (.int .i64 q1)), .d (.val (.int .i64 q2)), .d (.val (.bool q3)), .d (.val (strV q4)), .d (.val (.float .f64 q5))], .one (.d (.val (.int .i64 q6)))] : AV)) e1) e2) e3) e4) e5) e6; exact hE) rfl rfl rfl rfl rfl trivial
                · refine T.condF (by kernel_rfl) (decide_eq_false hq24) ?_
                  refine T.skip ?_
                  refine nB ?_
                  refine nT ?_
                  refine T.seq ?_
                  refine xR [] (by kernel_rfl) (by kernel_rfl) ?_
                  refine nT ?_
                  refine T.ret ?_
                  exact tE (.inl rfl) [.c 6 2 24 0 24 [.d (.val (.int .i64 0)), .d (.val (.int .i64 0)), .d (.val (.bool false)), .d (.val (strV [])), .d (.val (.float .f64 0))] (.agg [.d (.val (.int .i64 0)), .d (.val (.int .i64 0)), .d (.val (.bool false)), .d (.val (strV [])), .d (.val (.float .f64 0))]), .t 7 (.one (.d (.val (.int .i64 40))))] ⟨⟨rfl, rfl, by kernel_rfl, by kernel_rfl, .inl ⟨5, wide_24, rfl, Nat.le_of_ble_eq_true rfl⟩⟩, ⟨⟨rfl, by kernel_rfl⟩, trivial⟩⟩ [] (by have e1 : ((reckV op a b).f_Kind : Int) = 0 := (by ((have ho9 : okOp op := (by unfold okOp; omega); (have hr9 := reck_type (a := a) (b := b) ho9 (fun h9 => by exact absurd h9.2 (by assumption)); (rw [hr9.1]; rfl))))); have e2 : ((reckV op a b).f_Int : Int) = 0 := (by ((have ho9 : okOp op := (by unfold okOp; omega); (have hr9 := reck_type (a := a) (b := b) ho9 (fun h9 => by exact absurd h9.2 (by assumption)); (rw [hr9.1]; rfl))))); have e3 : ((reckV op a b).f_Bool : Bool) = false := (by ((have ho9 : okOp op := (by unfold okOp; omega); (have hr9 := reck_type (a := a) (b := b) ho9 (fun h9 => by exact absurd h9.2 (by assumption)); (rw [hr9.1]; rfl))))); have e4 : ((reckV op a b).f_Text : List UInt8) = [] := (by ((have ho9 : okOp op := (by unfold okOp; omega); (have hr9 := reck_type (a := a) (b := b) ho9 (fun h9 => by exact absurd h9.2 (by assumption)); (rw [hr9.1]; rfl))))); have e5 : ((reckV op a b).f_Num : Nat) = 0 := (by ((have ho9 : okOp op := (by unfold okOp; omega); (have hr9 := reck_type (a := a) (b := b) ho9 (fun h9 => by exact absurd h9.2 (by assumption)); (rw [hr9.1]; rfl))))); have e6 : (reckE op a b : Int) = 40 := (by ((have ho9 : okOp op := (by unfold okOp; omega); (have hr9 := reck_type (a := a) (b := b) ho9 (fun h9 => by exact absurd h9.2 (by assumption)); exact hr9.2)))); have hE := congr (congr (congr (congr (congr (congrArg (fun (q1 : Int) (q2 : Int) (q3 : Bool) (q4 : List UInt8) (q5 : Nat) (q6 : Int) => (.tup [.agg [.d (.val (.int .i64 q1)), .d (.val (.int .i64 q2)), .d (.val (.bool q3)), .d (.val (strV q4)), .d (.val (.float .f64 q5))], .one (.d (.val (.int .i64 q6)))] : AV)) e1) e2) e3) e4) e5) e6; exact hE) rfl rfl rfl rfl rfl trivial
            · refine xR [hR 2 rfl rfl (r_call (value_both a b ) Try.func51 rfl (by decide) [] [] (l := [(.tmp 20, .tv (.agg [.d (.val (.int .i64 a.f_Kind)), .d (.val (.int .i64 a.f_Int)), .d (.val (.bool a.f_Bool)), .d (.val (strV a.f_Text)), .d (.val (.float .f64 a.f_Num))])), (.tmp 21, .tv (.agg [.d (.val (.int .i64 b.f_Kind)), .d (.val (.int .i64 b.f_Int)), .d (.val (.bool b.f_Bool)), .d (.val (strV b.f_Text)), .d (.val (.float .f64 b.f_Num))]))]) [] rfl 0 0 rfl rfl rfl rfl rfl rfl rfl rfl rfl ⟨⟨.inl ⟨rfl, rfl⟩, ⟨.inl ⟨rfl, rfl⟩, ⟨.inl ⟨rfl, rfl⟩, ⟨.inl ⟨rfl, rfl⟩, ⟨.inl ⟨rfl, rfl⟩, trivial⟩⟩⟩⟩⟩, ⟨⟨.inl ⟨rfl, rfl⟩, ⟨.inl ⟨rfl, rfl⟩, ⟨.inl ⟨rfl, rfl⟩, ⟨.inl ⟨rfl, rfl⟩, ⟨.inl ⟨rfl, rfl⟩, trivial⟩⟩⟩⟩⟩, trivial⟩⟩ rfl (fun b hb => by cases hb) (.inl rfl) (lt_of rfl) trivial),
                hN 4 true (decide_eq_false hq22),
                hN 5 true (decide_eq_false hq22),
                hN 6 true (decide_eq_false hq22),
                hP 7 (decide_eq_false hq22)] (by kernel_rfl) (by kernel_rfl) ?_
              refine nT ?_
              refine T.condF (b := false) (by kernel_rfl) rfl ?_
              refine T.seq ?_
              refine xR [hR 2 rfl rfl (r_call (value_both a b ) Try.func51 rfl (by decide) [] [] (l := [(.tmp 36, .tv (.agg [.d (.val (.int .i64 a.f_Kind)), .d (.val (.int .i64 a.f_Int)), .d (.val (.bool a.f_Bool)), .d (.val (strV a.f_Text)), .d (.val (.float .f64 a.f_Num))])), (.tmp 37, .tv (.agg [.d (.val (.int .i64 b.f_Kind)), .d (.val (.int .i64 b.f_Int)), .d (.val (.bool b.f_Bool)), .d (.val (strV b.f_Text)), .d (.val (.float .f64 b.f_Num))]))]) [] rfl 0 0 rfl rfl rfl rfl rfl rfl rfl rfl rfl ⟨⟨.inl ⟨rfl, rfl⟩, ⟨.inl ⟨rfl, rfl⟩, ⟨.inl ⟨rfl, rfl⟩, ⟨.inl ⟨rfl, rfl⟩, ⟨.inl ⟨rfl, rfl⟩, trivial⟩⟩⟩⟩⟩, ⟨⟨.inl ⟨rfl, rfl⟩, ⟨.inl ⟨rfl, rfl⟩, ⟨.inl ⟨rfl, rfl⟩, ⟨.inl ⟨rfl, rfl⟩, ⟨.inl ⟨rfl, rfl⟩, trivial⟩⟩⟩⟩⟩, trivial⟩⟩ rfl (fun b hb => by cases hb) (.inl rfl) (lt_of rfl) trivial),
                hN 4 true (decide_eq_false hq22),
                hN 5 true (decide_eq_false hq22),
                hN 6 true (decide_eq_false hq22),
                hP 7 (decide_eq_false hq22)] (by kernel_rfl) (by kernel_rfl) ?_
              refine nT ?_
              refine T.condF (b := false) (by kernel_rfl) rfl ?_
              refine T.skip ?_
              refine nB ?_
              refine nT ?_
              refine T.seq ?_
              refine xR [] (by kernel_rfl) (by kernel_rfl) ?_
              refine nT ?_
              refine T.ret ?_
              exact tE (.inl rfl) [.c 6 2 24 0 24 [.d (.val (.int .i64 0)), .d (.val (.int .i64 0)), .d (.val (.bool false)), .d (.val (strV [])), .d (.val (.float .f64 0))] (.agg [.d (.val (.int .i64 0)), .d (.val (.int .i64 0)), .d (.val (.bool false)), .d (.val (strV [])), .d (.val (.float .f64 0))]), .t 7 (.one (.d (.val (.int .i64 40))))] ⟨⟨rfl, rfl, by kernel_rfl, by kernel_rfl, .inl ⟨5, wide_24, rfl, Nat.le_of_ble_eq_true rfl⟩⟩, ⟨⟨rfl, by kernel_rfl⟩, trivial⟩⟩ [] (by have e1 : ((reckV op a b).f_Kind : Int) = 0 := (by ((have ho9 : okOp op := (by unfold okOp; omega); (have hr9 := reck_type (a := a) (b := b) ho9 (fun h9 => by exact absurd h9.1 (by assumption)); (rw [hr9.1]; rfl))))); have e2 : ((reckV op a b).f_Int : Int) = 0 := (by ((have ho9 : okOp op := (by unfold okOp; omega); (have hr9 := reck_type (a := a) (b := b) ho9 (fun h9 => by exact absurd h9.1 (by assumption)); (rw [hr9.1]; rfl))))); have e3 : ((reckV op a b).f_Bool : Bool) = false := (by ((have ho9 : okOp op := (by unfold okOp; omega); (have hr9 := reck_type (a := a) (b := b) ho9 (fun h9 => by exact absurd h9.1 (by assumption)); (rw [hr9.1]; rfl))))); have e4 : ((reckV op a b).f_Text : List UInt8) = [] := (by ((have ho9 : okOp op := (by unfold okOp; omega); (have hr9 := reck_type (a := a) (b := b) ho9 (fun h9 => by exact absurd h9.1 (by assumption)); (rw [hr9.1]; rfl))))); have e5 : ((reckV op a b).f_Num : Nat) = 0 := (by ((have ho9 : okOp op := (by unfold okOp; omega); (have hr9 := reck_type (a := a) (b := b) ho9 (fun h9 => by exact absurd h9.1 (by assumption)); (rw [hr9.1]; rfl))))); have e6 : (reckE op a b : Int) = 40 := (by ((have ho9 : okOp op := (by unfold okOp; omega); (have hr9 := reck_type (a := a) (b := b) ho9 (fun h9 => by exact absurd h9.1 (by assumption)); exact hr9.2)))); have hE := congr (congr (congr (congr (congr (congrArg (fun (q1 : Int) (q2 : Int) (q3 : Bool) (q4 : List UInt8) (q5 : Nat) (q6 : Int) => (.tup [.agg [.d (.val (.int .i64 q1)), .d (.val (.int .i64 q2)), .d (.val (.bool q3)), .d (.val (strV q4)), .d (.val (.float .f64 q5))], .one (.d (.val (.int .i64 q6)))] : AV)) e1) e2) e3) e4) e5) e6; exact hE) rfl rfl rfl rfl rfl trivial
          · refine T.condF (by kernel_rfl) (decide_eq_false hq21) ?_
            refine xR [] (by kernel_rfl) (by kernel_rfl) ?_
            refine nT ?_
            by_cases hq26 : op = 15
            · refine T.condT (by kernel_rfl) (decide_eq_true hq26) ?_
              refine T.skip ?_
              refine nB ?_
              refine nT ?_
              refine T.seq ?_
              refine T.block ?_
              refine T.seq ?_
              by_cases hq27 : bothV a b
              · refine xR [hR 2 rfl rfl (r_call (value_both a b ) Try.func51 rfl (by decide) [] [] (l := [(.tmp 20, .tv (.agg [.d (.val (.int .i64 a.f_Kind)), .d (.val (.int .i64 a.f_Int)), .d (.val (.bool a.f_Bool)), .d (.val (strV a.f_Text)), .d (.val (.float .f64 a.f_Num))])), (.tmp 21, .tv (.agg [.d (.val (.int .i64 b.f_Kind)), .d (.val (.int .i64 b.f_Int)), .d (.val (.bool b.f_Bool)), .d (.val (strV b.f_Text)), .d (.val (.float .f64 b.f_Num))]))]) [] rfl 0 0 rfl rfl rfl rfl rfl rfl rfl rfl rfl ⟨⟨.inl ⟨rfl, rfl⟩, ⟨.inl ⟨rfl, rfl⟩, ⟨.inl ⟨rfl, rfl⟩, ⟨.inl ⟨rfl, rfl⟩, ⟨.inl ⟨rfl, rfl⟩, trivial⟩⟩⟩⟩⟩, ⟨⟨.inl ⟨rfl, rfl⟩, ⟨.inl ⟨rfl, rfl⟩, ⟨.inl ⟨rfl, rfl⟩, ⟨.inl ⟨rfl, rfl⟩, ⟨.inl ⟨rfl, rfl⟩, trivial⟩⟩⟩⟩⟩, trivial⟩⟩ rfl (fun b hb => by cases hb) (.inl rfl) (lt_of rfl) trivial),
                  hY 4 (decide_eq_true hq27),
                  hY 5 (decide_eq_true hq27),
                  hY 6 (decide_eq_true hq27),
                  hP 7 (decide_eq_true hq27)] (by kernel_rfl) (by kernel_rfl) ?_
                refine nT ?_
                by_cases hq28 : a.f_Kind = 4
                · exact absurd ⟨by assumption, hq28⟩ hn
                · refine T.condF (by kernel_rfl) (decide_eq_false hq28) ?_
                  refine T.seq ?_
                  refine xR [hR 2 rfl rfl (r_call (value_both a b ) Try.func51 rfl (by decide) [] [] (l := [(.tmp 36, .tv (.agg [.d (.val (.int .i64 a.f_Kind)), .d (.val (.int .i64 a.f_Int)), .d (.val (.bool a.f_Bool)), .d (.val (strV a.f_Text)), .d (.val (.float .f64 a.f_Num))])), (.tmp 37, .tv (.agg [.d (.val (.int .i64 b.f_Kind)), .d (.val (.int .i64 b.f_Int)), .d (.val (.bool b.f_Bool)), .d (.val (strV b.f_Text)), .d (.val (.float .f64 b.f_Num))]))]) [] rfl 0 0 rfl rfl rfl rfl rfl rfl rfl rfl rfl ⟨⟨.inl ⟨rfl, rfl⟩, ⟨.inl ⟨rfl, rfl⟩, ⟨.inl ⟨rfl, rfl⟩, ⟨.inl ⟨rfl, rfl⟩, ⟨.inl ⟨rfl, rfl⟩, trivial⟩⟩⟩⟩⟩, ⟨⟨.inl ⟨rfl, rfl⟩, ⟨.inl ⟨rfl, rfl⟩, ⟨.inl ⟨rfl, rfl⟩, ⟨.inl ⟨rfl, rfl⟩, ⟨.inl ⟨rfl, rfl⟩, trivial⟩⟩⟩⟩⟩, trivial⟩⟩ rfl (fun b hb => by cases hb) (.inl rfl) (lt_of rfl) trivial),
                    hY 4 (decide_eq_true hq27),
                    hY 5 (decide_eq_true hq27),
                    hY 6 (decide_eq_true hq27),
                    hP 7 (decide_eq_true hq27)] (by kernel_rfl) (by kernel_rfl) ?_
                  refine nT ?_
                  by_cases hq29 : a.f_Kind = 1
                  · refine T.condT (by kernel_rfl) (decide_eq_true hq29) ?_
                    refine T.seq ?_
                    refine xR [hR 5 rfl rfl (r_call (value_ints op a.f_Int b.f_Int (by assumption) (by assumption) (by (unfold okOp; omega))) Try.func54 rfl (by decide) [] [] (l := [(.tmp 45, dv (.int .i64 op)), (.tmp 47, dv (.int .i64 a.f_Int)), (.tmp 49, dv (.int .i64 b.f_Int))]) [] rfl 0 0 rfl rfl rfl rfl rfl rfl rfl rfl rfl ⟨.inl ⟨rfl, rfl⟩, ⟨.inl ⟨rfl, rfl⟩, ⟨.inl ⟨rfl, rfl⟩, trivial⟩⟩⟩ rfl (fun b hb => by cases hb) (.inl rfl) (lt_of rfl) trivial)] (by kernel_rfl) (by kernel_rfl) ?_
                    refine nT ?_
                    refine T.seq ?_
                    refine T.seq ?_
                    refine xR [] (by kernel_rfl) (by kernel_rfl) ?_
                    refine nT ?_
                    by_cases hq30 : (intsE op a.f_Int b.f_Int) ≠ 0
                    · refine T.condT (by kernel_rfl) (decide_eq_true hq30) ?_
                      refine T.seq ?_
                      refine xR [] (by kernel_rfl) (by kernel_rfl) ?_
                      refine nT ?_
                      refine T.ret ?_
                      refine rT ?_
                      refine rB ?_
                      refine rT ?_
                      exact tE (.inl rfl) [.c 6 2 24 0 24 [.d (.val (.int .i64 0)), .d (.val (.int .i64 0)), .d (.val (.bool false)), .d (.val (strV [])), .d (.val (.float .f64 0))] (.agg [.d (.val (.int .i64 0)), .d (.val (.int .i64 0)), .d (.val (.bool false)), .d (.val (strV [])), .d (.val (.float .f64 0))]), .t 7 (.one (.d (.val (.int .i64 (intsE op a.f_Int b.f_Int)))))] ⟨⟨rfl, rfl, by kernel_rfl, by kernel_rfl, .inl ⟨5, wide_24, rfl, Nat.le_of_ble_eq_true rfl⟩⟩, ⟨⟨rfl, by kernel_rfl⟩, trivial⟩⟩ [] (by have e1 : ((reckV op a b).f_Kind : Int) = 0 := (by ((have ho9 : okOp op := (by unfold okOp; omega); (have hr9 := reck_err ho9 (by assumption) (by assumption) (by assumption); (rw [hr9.1]; rfl))))); have e2 : ((reckV op a b).f_Int : Int) = 0 := (by ((have ho9 : okOp op := (by unfold okOp; omega); (have hr9 := reck_err ho9 (by assumption) (by assumption) (by assumption); (rw [hr9.1]; rfl))))); have e3 : ((reckV op a b).f_Bool : Bool) = false := (by ((have ho9 : okOp op := (by unfold okOp; omega); (have hr9 := reck_err ho9 (by assumption) (by assumption) (by assumption); (rw [hr9.1]; rfl))))); have e4 : ((reckV op a b).f_Text : List UInt8) = [] := (by ((have ho9 : okOp op := (by unfold okOp; omega); (have hr9 := reck_err ho9 (by assumption) (by assumption) (by assumption); (rw [hr9.1]; rfl))))); have e5 : ((reckV op a b).f_Num : Nat) = 0 := (by ((have ho9 : okOp op := (by unfold okOp; omega); (have hr9 := reck_err ho9 (by assumption) (by assumption) (by assumption); (rw [hr9.1]; rfl))))); have e6 : (reckE op a b : Int) = intsE op a.f_Int b.f_Int := (by ((have ho9 : okOp op := (by unfold okOp; omega); (have hr9 := reck_err ho9 (by assumption) (by assumption) (by assumption); exact hr9.2)))); have hE := congr (congr (congr (congr (congr (congrArg (fun (q1 : Int) (q2 : Int) (q3 : Bool) (q4 : List UInt8) (q5 : Nat) (q6 : Int) => (.tup [.agg [.d (.val (.int .i64 q1)), .d (.val (.int .i64 q2)), .d (.val (.bool q3)), .d (.val (strV q4)), .d (.val (.float .f64 q5))], .one (.d (.val (.int .i64 q6)))] : AV)) e1) e2) e3) e4) e5) e6; exact hE) rfl rfl rfl rfl rfl trivial
                    · refine T.condF (by kernel_rfl) (decide_eq_false hq30) ?_
                      refine T.skip ?_
                      refine nT ?_
                      refine T.seq ?_
                      refine xR [hR 1 rfl rfl (r_call (value_ofInt (intsN op a.f_Int b.f_Int) ) Try.func55 rfl (by decide) [] [] (l := [(.tmp 57, dv (.int .i64 (intsN op a.f_Int b.f_Int)))]) [] rfl 0 0 rfl rfl rfl rfl rfl rfl rfl rfl rfl ⟨.inl ⟨rfl, rfl⟩, trivial⟩ rfl (fun b hb => by cases hb) (.inl rfl) (lt_of rfl) trivial)] (by kernel_rfl) (by kernel_rfl) ?_
                      refine nT ?_
                      refine T.ret ?_
                      refine rB ?_
                      refine rT ?_
                      exact tE (.inl rfl) [.c 6 2 24 0 24 [.d (.val (.int .i64 (intV (intsN op a.f_Int b.f_Int)).f_Kind)), .d (.val (.int .i64 (intV (intsN op a.f_Int b.f_Int)).f_Int)), .d (.val (.bool (intV (intsN op a.f_Int b.f_Int)).f_Bool)), .d (.val (strV (intV (intsN op a.f_Int b.f_Int)).f_Text)), .d (.val (.float .f64 (intV (intsN op a.f_Int b.f_Int)).f_Num))] (.agg [.d (.val (.int .i64 (intV (intsN op a.f_Int b.f_Int)).f_Kind)), .d (.val (.int .i64 (intV (intsN op a.f_Int b.f_Int)).f_Int)), .d (.val (.bool (intV (intsN op a.f_Int b.f_Int)).f_Bool)), .d (.val (strV (intV (intsN op a.f_Int b.f_Int)).f_Text)), .d (.val (.float .f64 (intV (intsN op a.f_Int b.f_Int)).f_Num))]), .t 7 (.one (.d (.val (.int .i64 0))))] ⟨⟨rfl, rfl, by kernel_rfl, by kernel_rfl, .inl ⟨5, wide_24, rfl, Nat.le_of_ble_eq_true rfl⟩⟩, ⟨⟨rfl, by kernel_rfl⟩, trivial⟩⟩ [] (by have e1 : ((reckV op a b).f_Kind : Int) = (intV (intsN op a.f_Int b.f_Int)).f_Kind := (by ((have ho9 : okOp op := (by unfold okOp; omega); (have hr9 := reck_ok ho9 (by assumption) (by assumption) (by assumption); (rw [hr9.1]; done))))); have e2 : ((reckV op a b).f_Int : Int) = (intV (intsN op a.f_Int b.f_Int)).f_Int := (by ((have ho9 : okOp op := (by unfold okOp; omega); (have hr9 := reck_ok ho9 (by assumption) (by assumption) (by assumption); (rw [hr9.1]; done))))); have e3 : ((reckV op a b).f_Bool : Bool) = (intV (intsN op a.f_Int b.f_Int)).f_Bool := (by ((have ho9 : okOp op := (by unfold okOp; omega); (have hr9 := reck_ok ho9 (by assumption) (by assumption) (by assumption); (rw [hr9.1]; done))))); have e4 : ((reckV op a b).f_Text : List UInt8) = (intV (intsN op a.f_Int b.f_Int)).f_Text := (by ((have ho9 : okOp op := (by unfold okOp; omega); (have hr9 := reck_ok ho9 (by assumption) (by assumption) (by assumption); (rw [hr9.1]; done))))); have e5 : ((reckV op a b).f_Num : Nat) = (intV (intsN op a.f_Int b.f_Int)).f_Num := (by ((have ho9 : okOp op := (by unfold okOp; omega); (have hr9 := reck_ok ho9 (by assumption) (by assumption) (by assumption); (rw [hr9.1]; done))))); have e6 : (reckE op a b : Int) = 0 := (by ((have ho9 : okOp op := (by unfold okOp; omega); (have hr9 := reck_ok ho9 (by assumption) (by assumption) (by assumption); exact hr9.2)))); have hE := congr (congr (congr (congr (congr (congrArg (fun (q1 : Int) (q2 : Int) (q3 : Bool) (q4 : List UInt8) (q5 : Nat) (q6 : Int) => (.tup [.agg [.d (.val (.int .i64 q1)), .d (.val (.int .i64 q2)), .d (.val (.bool q3)), .d (.val (strV q4)), .d (.val (.float .f64 q5))], .one (.d (.val (.int .i64 q6)))] : AV)) e1) e2) e3) e4) e5) e6; exact hE) rfl rfl rfl rfl rfl trivial
                  · refine T.condF (by kernel_rfl) (decide_eq_false hq29) ?_
                    refine T.skip ?_
                    refine nB ?_
                    refine nT ?_
                    refine T.seq ?_
                    refine xR [] (by kernel_rfl) (by kernel_rfl) ?_
                    refine nT ?_
                    refine T.ret ?_
                    exact tE (.inl rfl) [.c 6 2 24 0 24 [.d (.val (.int .i64 0)), .d (.val (.int .i64 0)), .d (.val (.bool false)), .d (.val (strV [])), .d (.val (.float .f64 0))] (.agg [.d (.val (.int .i64 0)), .d (.val (.int .i64 0)), .d (.val (.bool false)), .d (.val (strV [])), .d (.val (.float .f64 0))]), .t 7 (.one (.d (.val (.int .i64 40))))] ⟨⟨rfl, rfl, by kernel_rfl, by kernel_rfl, .inl ⟨5, wide_24, rfl, Nat.le_of_ble_eq_true rfl⟩⟩, ⟨⟨rfl, by kernel_rfl⟩, trivial⟩⟩ [] (by have e1 : ((reckV op a b).f_Kind : Int) = 0 := (by ((have ho9 : okOp op := (by unfold okOp; omega); (have hr9 := reck_type (a := a) (b := b) ho9 (fun h9 => by exact absurd h9.2 (by assumption)); (rw [hr9.1]; rfl))))); have e2 : ((reckV op a b).f_Int : Int) = 0 := (by ((have ho9 : okOp op := (by unfold okOp; omega); (have hr9 := reck_type (a := a) (b := b) ho9 (fun h9 => by exact absurd h9.2 (by assumption)); (rw [hr9.1]; rfl))))); have e3 : ((reckV op a b).f_Bool : Bool) = false := (by ((have ho9 : okOp op := (by unfold okOp; omega); (have hr9 := reck_type (a := a) (b := b) ho9 (fun h9 => by exact absurd h9.2 (by assumption)); (rw [hr9.1]; rfl))))); have e4 : ((reckV op a b).f_Text : List UInt8) = [] := (by ((have ho9 : okOp op := (by unfold okOp; omega); (have hr9 := reck_type (a := a) (b := b) ho9 (fun h9 => by exact absurd h9.2 (by assumption)); (rw [hr9.1]; rfl))))); have e5 : ((reckV op a b).f_Num : Nat) = 0 := (by ((have ho9 : okOp op := (by unfold okOp; omega); (have hr9 := reck_type (a := a) (b := b) ho9 (fun h9 => by exact absurd h9.2 (by assumption)); (rw [hr9.1]; rfl))))); have e6 : (reckE op a b : Int) = 40 := (by ((have ho9 : okOp op := (by unfold okOp; omega); (have hr9 := reck_type (a := a) (b := b) ho9 (fun h9 => by exact absurd h9.2 (by assumption)); exact hr9.2)))); have hE := congr (congr (congr (congr (congr (congrArg (fun (q1 : Int) (q2 : Int) (q3 : Bool) (q4 : List UInt8) (q5 : Nat) (q6 : Int) => (.tup [.agg [.d (.val (.int .i64 q1)), .d (.val (.int .i64 q2)), .d (.val (.bool q3)), .d (.val (strV q4)), .d (.val (.float .f64 q5))], .one (.d (.val (.int .i64 q6)))] : AV)) e1) e2) e3) e4) e5) e6; exact hE) rfl rfl rfl rfl rfl trivial
              · refine xR [hR 2 rfl rfl (r_call (value_both a b ) Try.func51 rfl (by decide) [] [] (l := [(.tmp 20, .tv (.agg [.d (.val (.int .i64 a.f_Kind)), .d (.val (.int .i64 a.f_Int)), .d (.val (.bool a.f_Bool)), .d (.val (strV a.f_Text)), .d (.val (.float .f64 a.f_Num))])), (.tmp 21, .tv (.agg [.d (.val (.int .i64 b.f_Kind)), .d (.val (.int .i64 b.f_Int)), .d (.val (.bool b.f_Bool)), .d (.val (strV b.f_Text)), .d (.val (.float .f64 b.f_Num))]))]) [] rfl 0 0 rfl rfl rfl rfl rfl rfl rfl rfl rfl ⟨⟨.inl ⟨rfl, rfl⟩, ⟨.inl ⟨rfl, rfl⟩, ⟨.inl ⟨rfl, rfl⟩, ⟨.inl ⟨rfl, rfl⟩, ⟨.inl ⟨rfl, rfl⟩, trivial⟩⟩⟩⟩⟩, ⟨⟨.inl ⟨rfl, rfl⟩, ⟨.inl ⟨rfl, rfl⟩, ⟨.inl ⟨rfl, rfl⟩, ⟨.inl ⟨rfl, rfl⟩, ⟨.inl ⟨rfl, rfl⟩, trivial⟩⟩⟩⟩⟩, trivial⟩⟩ rfl (fun b hb => by cases hb) (.inl rfl) (lt_of rfl) trivial),
                  hN 4 true (decide_eq_false hq27),
                  hN 5 true (decide_eq_false hq27),
                  hN 6 true (decide_eq_false hq27),
                  hP 7 (decide_eq_false hq27)] (by kernel_rfl) (by kernel_rfl) ?_
                refine nT ?_
                refine T.condF (b := false) (by kernel_rfl) rfl ?_
                refine T.seq ?_
                refine xR [hR 2 rfl rfl (r_call (value_both a b ) Try.func51 rfl (by decide) [] [] (l := [(.tmp 36, .tv (.agg [.d (.val (.int .i64 a.f_Kind)), .d (.val (.int .i64 a.f_Int)), .d (.val (.bool a.f_Bool)), .d (.val (strV a.f_Text)), .d (.val (.float .f64 a.f_Num))])), (.tmp 37, .tv (.agg [.d (.val (.int .i64 b.f_Kind)), .d (.val (.int .i64 b.f_Int)), .d (.val (.bool b.f_Bool)), .d (.val (strV b.f_Text)), .d (.val (.float .f64 b.f_Num))]))]) [] rfl 0 0 rfl rfl rfl rfl rfl rfl rfl rfl rfl ⟨⟨.inl ⟨rfl, rfl⟩, ⟨.inl ⟨rfl, rfl⟩, ⟨.inl ⟨rfl, rfl⟩, ⟨.inl ⟨rfl, rfl⟩, ⟨.inl ⟨rfl, rfl⟩, trivial⟩⟩⟩⟩⟩, ⟨⟨.inl ⟨rfl, rfl⟩, ⟨.inl ⟨rfl, rfl⟩, ⟨.inl ⟨rfl, rfl⟩, ⟨.inl ⟨rfl, rfl⟩, ⟨.inl ⟨rfl, rfl⟩, trivial⟩⟩⟩⟩⟩, trivial⟩⟩ rfl (fun b hb => by cases hb) (.inl rfl) (lt_of rfl) trivial),
                  hN 4 true (decide_eq_false hq27),
                  hN 5 true (decide_eq_false hq27),
                  hN 6 true (decide_eq_false hq27),
                  hP 7 (decide_eq_false hq27)] (by kernel_rfl) (by kernel_rfl) ?_
                refine nT ?_
                refine T.condF (b := false) (by kernel_rfl) rfl ?_
                refine T.skip ?_
                refine nB ?_
                refine nT ?_
                refine T.seq ?_
                refine xR [] (by kernel_rfl) (by kernel_rfl) ?_
                refine nT ?_
                refine T.ret ?_
                exact tE (.inl rfl) [.c 6 2 24 0 24 [.d (.val (.int .i64 0)), .d (.val (.int .i64 0)), .d (.val (.bool false)), .d (.val (strV [])), .d (.val (.float .f64 0))] (.agg [.d (.val (.int .i64 0)), .d (.val (.int .i64 0)), .d (.val (.bool false)), .d (.val (strV [])), .d (.val (.float .f64 0))]), .t 7 (.one (.d (.val (.int .i64 40))))] ⟨⟨rfl, rfl, by kernel_rfl, by kernel_rfl, .inl ⟨5, wide_24, rfl, Nat.le_of_ble_eq_true rfl⟩⟩, ⟨⟨rfl, by kernel_rfl⟩, trivial⟩⟩ [] (by have e1 : ((reckV op a b).f_Kind : Int) = 0 := (by ((have ho9 : okOp op := (by unfold okOp; omega); (have hr9 := reck_type (a := a) (b := b) ho9 (fun h9 => by exact absurd h9.1 (by assumption)); (rw [hr9.1]; rfl))))); have e2 : ((reckV op a b).f_Int : Int) = 0 := (by ((have ho9 : okOp op := (by unfold okOp; omega); (have hr9 := reck_type (a := a) (b := b) ho9 (fun h9 => by exact absurd h9.1 (by assumption)); (rw [hr9.1]; rfl))))); have e3 : ((reckV op a b).f_Bool : Bool) = false := (by ((have ho9 : okOp op := (by unfold okOp; omega); (have hr9 := reck_type (a := a) (b := b) ho9 (fun h9 => by exact absurd h9.1 (by assumption)); (rw [hr9.1]; rfl))))); have e4 : ((reckV op a b).f_Text : List UInt8) = [] := (by ((have ho9 : okOp op := (by unfold okOp; omega); (have hr9 := reck_type (a := a) (b := b) ho9 (fun h9 => by exact absurd h9.1 (by assumption)); (rw [hr9.1]; rfl))))); have e5 : ((reckV op a b).f_Num : Nat) = 0 := (by ((have ho9 : okOp op := (by unfold okOp; omega); (have hr9 := reck_type (a := a) (b := b) ho9 (fun h9 => by exact absurd h9.1 (by assumption)); (rw [hr9.1]; rfl))))); have e6 : (reckE op a b : Int) = 40 := (by ((have ho9 : okOp op := (by unfold okOp; omega); (have hr9 := reck_type (a := a) (b := b) ho9 (fun h9 => by exact absurd h9.1 (by assumption)); exact hr9.2)))); have hE := congr (congr (congr (congr (congr (congrArg (fun (q1 : Int) (q2 : Int) (q3 : Bool) (q4 : List UInt8) (q5 : Nat) (q6 : Int) => (.tup [.agg [.d (.val (.int .i64 q1)), .d (.val (.int .i64 q2)), .d (.val (.bool q3)), .d (.val (strV q4)), .d (.val (.float .f64 q5))], .one (.d (.val (.int .i64 q6)))] : AV)) e1) e2) e3) e4) e5) e6; exact hE) rfl rfl rfl rfl rfl trivial
            · refine T.condF (by kernel_rfl) (decide_eq_false hq26) ?_
              refine T.seq ?_
              refine xR [] (by kernel_rfl) (by kernel_rfl) ?_
              refine nT ?_
              refine T.ret ?_
              refine rB ?_
              refine rT ?_
              exact tE (.inl rfl) [.c 6 2 24 0 24 [.d (.val (.int .i64 0)), .d (.val (.int .i64 0)), .d (.val (.bool false)), .d (.val (strV [])), .d (.val (.float .f64 0))] (.agg [.d (.val (.int .i64 0)), .d (.val (.int .i64 0)), .d (.val (.bool false)), .d (.val (strV [])), .d (.val (.float .f64 0))]), .t 7 (.one (.d (.val (.int .i64 1))))] ⟨⟨rfl, rfl, by kernel_rfl, by kernel_rfl, .inl ⟨5, wide_24, rfl, Nat.le_of_ble_eq_true rfl⟩⟩, ⟨⟨rfl, by kernel_rfl⟩, trivial⟩⟩ [] (by have e1 : ((reckV op a b).f_Kind : Int) = 0 := (by ((have hr9 := reck_arg (a := a) (b := b) (by unfold okOp; omega : ¬ okOp op); (rw [hr9.1]; rfl)))); have e2 : ((reckV op a b).f_Int : Int) = 0 := (by ((have hr9 := reck_arg (a := a) (b := b) (by unfold okOp; omega : ¬ okOp op); (rw [hr9.1]; rfl)))); have e3 : ((reckV op a b).f_Bool : Bool) = false := (by ((have hr9 := reck_arg (a := a) (b := b) (by unfold okOp; omega : ¬ okOp op); (rw [hr9.1]; rfl)))); have e4 : ((reckV op a b).f_Text : List UInt8) = [] := (by ((have hr9 := reck_arg (a := a) (b := b) (by unfold okOp; omega : ¬ okOp op); (rw [hr9.1]; rfl)))); have e5 : ((reckV op a b).f_Num : Nat) = 0 := (by ((have hr9 := reck_arg (a := a) (b := b) (by unfold okOp; omega : ¬ okOp op); (rw [hr9.1]; rfl)))); have e6 : (reckE op a b : Int) = 1 := (by ((have hr9 := reck_arg (a := a) (b := b) (by unfold okOp; omega : ¬ okOp op); exact hr9.2))); have hE := congr (congr (congr (congr (congr (congrArg (fun (q1 : Int) (q2 : Int) (q3 : Bool) (q4 : List UInt8) (q5 : Nat) (q6 : Int) => (.tup [.agg [.d (.val (.int .i64 q1)), .d (.val (.int .i64 q2)), .d (.val (.bool q3)), .d (.val (strV q4)), .d (.val (.float .f64 q5))], .one (.d (.val (.int .i64 q6)))] : AV)) e1) e2) e3) e4) e5) e6; exact hE) rfl rfl rfl rfl rfl trivial
end Go.Proofs.Ytlabmehgcfgigaa.Q
