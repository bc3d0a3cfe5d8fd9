import Derived.Test.YtdclfhahcfefeaaC11n7
namespace Go.Proofs.Ytdclfhahcfefeaa.Q
open Go Go.RowKit
set_option linter.unusedVariables false
set_option linter.unusedSimpArgs false
set_option maxRecDepth 100000
set_option maxHeartbeats 4000000
theorem fld_76_2 : FieldAt Try.prog 76 2 2 := ⟨_, _, _, Try.underlying76, rfl, iat_29, by decide, rfl⟩
-- (*quaestor/quaestorref11.Ledger).at
theorem ref11_at (h : Int) (d : List UInt8) (L : List api_Block) (n : Nat) (hh : 0 ≤ h ∧ h ≤ 1099511627776) (hl : L.length ≤ 100) (hw : fewLB L) (hn : n ≤ L.length) : Holds Try.prog 62 ⟨[pv 0 0, dv (.int .i64 ((n : Nat) : Int))], [.box 76 [.d (.val (.bool true)), .d (.val (.int .i64 h)), .d (.val (strV d)), .own 1 (k_api_Block false).sz 0 L.length], arrK 33 (k_api_Block false) L], dv (strV (atB d L n)), [.live (.box 76 [.d (.val (.bool true)), .d (.val (.int .i64 h)), .d (.val (strV d)), .own 1 (k_api_Block false).sz 0 L.length]), .live (arrK 33 (k_api_Block false) L)]⟩ := by
  refine Holds.of Try.func62 rfl (N := 21) Try.ntmps62 rfl fun w0 B0 S0 U0 => ?_
  show T _ (mkBase 21 2 w0 S0 U0 B0) ⟨[pv 0 0, dv (.int .i64 ((n : Nat) : Int))], [.live (.box 76 [.d (.val (.bool true)), .d (.val (.int .i64 h)), .d (.val (strV d)), .own 1 (k_api_Block false).sz 0 L.length]), .live (arrK 33 (k_api_Block false) L)]⟩ _ _
  have hwn := fewLB_get hw (n - 1)
  have hhn := head_few hwn
  have hg1 := hhn.1
  have hg2 := hhn.2.1
  refine T.seq ?_
  refine xR [] (by kernel_rfl) (by kernel_rfl) ?_
  refine nT ?_
  refine T.seq ?_
  refine T.seq ?_
  refine xR [] (by kernel_rfl) (by kernel_rfl) ?_
  refine nT ?_
  by_cases hq1 : ((n : Nat) : Int) = 0
  · refine T.condT (by kernel_rfl) (decide_eq_true hq1) ?_
    refine T.seq ?_
    refine xR [] (by kernel_rfl) (by kernel_rfl) ?_
    refine nT ?_
    refine T.ret ?_
    refine rT ?_
    exact tE (.inl rfl) [.t 4 (.one (.d (.val (strV d))))] ⟨⟨rfl, by kernel_rfl⟩, trivial⟩ [0, 1] (by have e1 : ((atB d L n) : List UInt8) = d := (by (unfold atB; rw [if_pos (by omega)])); have hE := congrArg (fun (q1 : List UInt8) => (dv (strV q1) : AV)) e1; exact hE) rfl rfl rfl rfl rfl ⟨⟨rfl, (by kernel_rfl)⟩, ⟨⟨rfl, (by kernel_rfl)⟩, trivial⟩⟩
  · refine T.condF (by kernel_rfl) (decide_eq_false hq1) ?_
    refine T.skip ?_
    refine nT ?_
    refine T.seq ?_
    refine xR [hR 5 rfl rfl (r_bin (u1 := .int .i64 ((n : Nat) : Int)) (u2 := .int .i64 1) (v := .int .i64 ((n - 1 : Nat) : Int)) (b_sub (by rw [IntKind.wrap_i64]; omega)) (lt_of rfl) ⟨rfl, trivial⟩),
      hR 6 rfl rfl (r_indexO (k := .i64) (l := 1) (sz := (k_api_Block false).sz) (off := 0) (n := L.length) (i := ((n - 1 : Nat) : Int)) (m := (n - 1)) (o' := (n - 1) * (k_api_Block false).sz + 0) Try.underlying39 iat_33 rfl rfl (by omega) (by simp) (lt_of rfl) trivial),
      hR 7 rfl rfl (r_loadAs (l := 1) (off := (n - 1) * (k_api_Block false).sz + 0) (i := n - 1) (j := 0) (T := 33) (sz := (k_api_Block false).sz) (n := L.length) (el := elOf (k_api_Block false) L) (ds := [.d (.val (.int .i64 (L.getD (n - 1) z_api_Block).f_Height)), .d (.val (strV (L.getD (n - 1) z_api_Block).f_Prev)), .d (dsl false false (k_api_Envelope false) (L.getD (n - 1) z_api_Block).f_Requests), .d (dsl false false (k_api_Result false) (L.getD (n - 1) z_api_Block).f_Results)]) wide_33 rfl (by omega) (by decide) rfl (lt_of rfl) trivial),
      hR 8 rfl rfl (r_call (ref10_Header false (L.getD (n - 1) z_api_Block) (by assumption)) Try.func82 rfl (by decide) [] [] (l := [(.tmp 18, .tv (.agg [.d (.val (.int .i64 (L.getD (n - 1) z_api_Block).f_Height)), .d (.val (strV (L.getD (n - 1) z_api_Block).f_Prev)), .d (dsl false false (k_api_Envelope false) (L.getD (n - 1) z_api_Block).f_Requests), .d (dsl false false (k_api_Result false) (L.getD (n - 1) z_api_Block).f_Results)]))]) [] rfl 0 0 rfl rfl rfl rfl rfl rfl rfl rfl rfl ⟨⟨.inl ⟨rfl, rfl⟩, ⟨.inl ⟨rfl, rfl⟩, ⟨.inl ⟨rfl, rfl⟩, ⟨.inl ⟨rfl, rfl⟩, trivial⟩⟩⟩⟩, trivial⟩ rfl (fun b hb => by cases hb) (.inl rfl) (lt_of rfl) trivial),
      hR 9 rfl rfl (r_call (ref10_Digest (headB (L.getD (n - 1) z_api_Block)) (by assumption) (by assumption)) Try.func81 rfl (by decide) [] [] (l := [(.tmp 19, .tv (.agg [.d (.val (.int .i64 (headB (L.getD (n - 1) z_api_Block)).f_Height)), .d (.val (strV (headB (L.getD (n - 1) z_api_Block)).f_Prev)), .d (.val (.int .i64 (headB (L.getD (n - 1) z_api_Block)).f_Count)), .d (.val (strV (headB (L.getD (n - 1) z_api_Block)).f_Root))]))]) [] rfl 0 0 rfl rfl rfl rfl rfl rfl rfl rfl rfl ⟨⟨.inl ⟨rfl, rfl⟩, ⟨.inl ⟨rfl, rfl⟩, ⟨.inl ⟨rfl, rfl⟩, ⟨.inl ⟨rfl, rfl⟩, trivial⟩⟩⟩⟩, trivial⟩ rfl (fun b hb => by cases hb) (.inl rfl) (lt_of rfl) trivial)] (by kernel_rfl) (by kernel_rfl) ?_
    refine nT ?_
    refine T.ret ?_
    exact tE (.inl rfl) [.t 4 (.one (.d (.val (strV (digB (headB (L.getD (n - 1) z_api_Block)))))))] ⟨⟨rfl, by kernel_rfl⟩, trivial⟩ [0, 1] (by have e1 : ((atB d L n) : List UInt8) = (digB (headB (L.getD (n - 1) z_api_Block))) := (by (unfold atB; rw [if_neg (by omega)])); have hE := congrArg (fun (q1 : List UInt8) => (dv (strV q1) : AV)) e1; exact hE) rfl rfl rfl rfl rfl ⟨⟨rfl, (by kernel_rfl)⟩, ⟨⟨rfl, (by kernel_rfl)⟩, trivial⟩⟩
end Go.Proofs.Ytdclfhahcfefeaa.Q
namespace Go.Proofs.Ytdclfhahcfefeaa.Q
open Go Go.RowKit
set_option linter.unusedVariables false
set_option linter.unusedSimpArgs false
set_option maxRecDepth 100000
set_option maxHeartbeats 4000000
-- (*quaestor/quaestorref11.Ledger).Head
theorem ref11_Head (h : Int) (d : List UInt8) (L : List api_Block) (hh : 0 ≤ h ∧ h ≤ 1099511627776) (hl : L.length ≤ 100) (hw : fewLB L) : Holds Try.prog 37 ⟨[pv 0 0], [.box 76 [.d (.val (.bool true)), .d (.val (.int .i64 h)), .d (.val (strV d)), .own 1 (k_api_Block false).sz 0 L.length], arrK 33 (k_api_Block false) L], dv (strV (atB d L L.length)), [.live (.box 76 [.d (.val (.bool true)), .d (.val (.int .i64 h)), .d (.val (strV d)), .own 1 (k_api_Block false).sz 0 L.length]), .live (arrK 33 (k_api_Block false) L)]⟩ := by
  refine Holds.of Try.func37 rfl (N := 10) Try.ntmps37 rfl fun w0 B0 S0 U0 => ?_
  show T _ (mkBase 10 2 w0 S0 U0 B0) ⟨[pv 0 0], [.live (.box 76 [.d (.val (.bool true)), .d (.val (.int .i64 h)), .d (.val (strV d)), .own 1 (k_api_Block false).sz 0 L.length]), .live (arrK 33 (k_api_Block false) L)]⟩ _ _
  refine T.seq ?_
  refine xR [] (by kernel_rfl) (by kernel_rfl) ?_
  refine nT ?_
  refine T.seq ?_
  refine xR [hR 6 rfl rfl (r_call (ref11_at h d L L.length (by assumption) (by assumption) (by assumption) (by omega)) Try.func62 rfl (by decide) [0, 1] [] (l := [(.tmp 3, pv 0 0), (.tmp 8, dv (.int .i64 ((L.length : Nat) : Int)))]) [] rfl 2 2 rfl rfl rfl rfl rfl rfl rfl rfl rfl ⟨.inl ⟨rfl, rfl⟩, ⟨.inl ⟨rfl, rfl⟩, trivial⟩⟩ rfl (fun b hb => by cases hb) (.inl rfl) (lt_of rfl) trivial)] (by kernel_rfl) (by kernel_rfl) ?_
  refine nT ?_
  refine T.ret ?_
  exact tE (.inl rfl) [.t 2 (.one (.d (.val (strV (atB d L L.length)))))] ⟨⟨rfl, by kernel_rfl⟩, trivial⟩ [0, 1] rfl rfl rfl rfl rfl rfl ⟨⟨rfl, (by kernel_rfl)⟩, ⟨⟨rfl, (by kernel_rfl)⟩, trivial⟩⟩
end Go.Proofs.Ytdclfhahcfefeaa.Q
namespace Go.Proofs.Ytdclfhahcfefeaa.Q
open Go Go.RowKit
set_option linter.unusedVariables false
set_option linter.unusedSimpArgs false
set_option maxRecDepth 100000
set_option maxHeartbeats 4000000
theorem fld_76_0 : FieldAt Try.prog 76 0 0 := ⟨_, _, _, Try.underlying76, rfl, iat_4, by decide, rfl⟩
theorem elem_39 : Elem Try.prog 39 33 4 72 := ⟨Try.underlying39, _, _, iat_33, rfl, rfl, rfl, rfl, by decide⟩
theorem cells_39 : Cells Try.prog 39 1 := ⟨_, iat_39, rfl⟩
-- (*quaestor/quaestorref11.Ledger).Append
theorem ref11_Append (h : Int) (d : List UInt8) (L : List api_Block) (b : api_Block) (hh : 0 ≤ h ∧ h ≤ 1099511627776) (hl : L.length ≤ 100) (hw : fewLB L) (hf : fewB b) : Holds Try.prog 38 ⟨[pv 0 0, .tv (.agg [.d (.val (.int .i64 b.f_Height)), .d (.val (strV b.f_Prev)), .d (dsl false false (k_api_Envelope false) b.f_Requests), .d (dsl false false (k_api_Result false) b.f_Results)])], [.box 76 [.d (.val (.bool true)), .d (.val (.int .i64 h)), .d (.val (strV d)), .own 1 (k_api_Block false).sz 0 L.length], arrK 33 (k_api_Block false) L], dv (.int .i64 (rappE h d L b)), [.live (.box 76 [.d (.val (.bool true)), .d (.val (.int .i64 h)), .d (.val (strV d)), .own 2 (k_api_Block false).sz 0 (rappL h d L b).length]), .dead, .live (arrK 33 (k_api_Block false) (rappL h d L b))]⟩ := by
  refine Holds.of Try.func38 rfl (N := 38) Try.ntmps38 rfl fun w0 B0 S0 U0 => ?_
  show T _ (mkBase 38 2 w0 S0 U0 B0) ⟨[pv 0 0, .tv (.agg [.d (.val (.int .i64 b.f_Height)), .d (.val (strV b.f_Prev)), .d (dsl false false (k_api_Envelope false) b.f_Requests), .d (dsl false false (k_api_Result false) b.f_Results)])], [.live (.box 76 [.d (.val (.bool true)), .d (.val (.int .i64 h)), .d (.val (strV d)), .own 1 (k_api_Block false).sz 0 L.length]), .live (arrK 33 (k_api_Block false) L)]⟩ _ _
  have hf1 := hf.1.1
  have hf2 := hf.2.1
  have hf3 := hf.2.2
  refine T.seq ?_
  refine xR [] (by kernel_rfl) (by kernel_rfl) ?_
  refine nT ?_
  refine T.seq ?_
  refine T.seq ?_
  refine xR [] (by kernel_rfl) (by kernel_rfl) ?_
  refine nT ?_
  refine T.condF (b := (!true)) (by kernel_rfl) rfl ?_
  refine T.skip ?_
  refine nT ?_
  refine T.seq ?_
  refine xR [hR 1 rfl rfl (r_call (ref10_Check false b (by omega) (by omega)) Try.func63 rfl (by decide) [] [] (l := [(.tmp 11, .tv (.agg [.d (.val (.int .i64 b.f_Height)), .d (.val (strV b.f_Prev)), .d (dsl false false (k_api_Envelope false) b.f_Requests), .d (dsl false false (k_api_Result false) b.f_Results)]))]) [] rfl 0 0 rfl rfl rfl rfl rfl rfl rfl rfl rfl ⟨⟨.inl ⟨rfl, rfl⟩, ⟨.inl ⟨rfl, rfl⟩, ⟨.inl ⟨rfl, rfl⟩, ⟨.inl ⟨rfl, rfl⟩, trivial⟩⟩⟩⟩, trivial⟩ rfl (fun b hb => by cases hb) (.inl rfl) (lt_of rfl) trivial)] (by kernel_rfl) (by kernel_rfl) ?_
  refine nT ?_
  refine T.seq ?_
  refine T.seq ?_
  refine xR [] (by kernel_rfl) (by kernel_rfl) ?_
  refine nT ?_
  by_cases hq1 : (chkB b) ≠ 0
  · refine T.condT (by kernel_rfl) (decide_eq_true hq1) ?_
    refine T.seq ?_
    refine xR [] (by kernel_rfl) (by kernel_rfl) ?_
    refine nT ?_
    refine T.ret ?_
    refine rT ?_
    refine Ends.turn (s' := ⟨[pv 0 0, .tv (.agg [.d (.val (.int .i64 b.f_Height)), .d (.val (strV b.f_Prev)), .d (dsl false false (k_api_Envelope false) b.f_Requests), .d (dsl false false (k_api_Result false) b.f_Results)]), aa, pv 2 0, dv (.int .i64 (chkB b)), dv (.int .i64 (chkB b)), aa, aa, aa, aa, dv (.bool (!true)), aa, aa, aa, dv (.bool (decide ((chkB b) ≠ 0)))], [.live (.box 76 [.d (.val (.bool true)), .d (.val (.int .i64 h)), .d (.val (strV d)), .own 1 (k_api_Block false).sz 0 L.length]), .live (arrK 33 (k_api_Block false) L), .live (.box 33 [.d (.val (.int .i64 b.f_Height)), .d (.val (strV b.f_Prev)), .d (dsl false false (k_api_Envelope false) b.f_Requests), .d (dsl false false (k_api_Result false) b.f_Results)])]⟩) (fun _ _ hG => Gs.norm (by kernel_rfl) hG) ?_
    refine Ends.turn (s' := ⟨[pv 0 0, .tv (.agg [.d (.val (.int .i64 b.f_Height)), .d (.val (strV b.f_Prev)), .d (dsl false false (k_api_Envelope false) b.f_Requests), .d (dsl false false (k_api_Result false) b.f_Results)]), aa, pv 2 0, dv (.int .i64 (chkB b)), dv (.int .i64 (chkB b)), aa, aa, aa, aa, dv (.bool (!true)), aa, aa, aa, dv (.bool (decide ((chkB b) ≠ 0)))], [.live (.box 76 [.d (.val (.bool true)), .d (.val (.int .i64 h)), .d (.val (strV d)), .own 3 (k_api_Block false).sz 0 L.length]), .dead, .live (.box 33 [.d (.val (.int .i64 b.f_Height)), .d (.val (strV b.f_Prev)), .d (dsl false false (k_api_Envelope false) b.f_Requests), .d (dsl false false (k_api_Result false) b.f_Results)]), .live (arrK 33 (k_api_Block false) L)]⟩) (fun _ _ hG => Gs.move (s := ⟨[pv 0 0, .tv (.agg [.d (.val (.int .i64 b.f_Height)), .d (.val (strV b.f_Prev)), .d (dsl false false (k_api_Envelope false) b.f_Requests), .d (dsl false false (k_api_Result false) b.f_Results)]), aa, pv 2 0, dv (.int .i64 (chkB b)), dv (.int .i64 (chkB b)), aa, aa, aa, aa, dv (.bool (!true)), aa, aa, aa, dv (.bool (decide ((chkB b) ≠ 0)))], [.live (.box 76 [.d (.val (.bool true)), .d (.val (.int .i64 h)), .d (.val (strV d)), .own 1 (k_api_Block false).sz 0 L.length]), .live (arrK 33 (k_api_Block false) L), .live (.box 33 [.d (.val (.int .i64 b.f_Height)), .d (.val (strV b.f_Prev)), .d (dsl false false (k_api_Envelope false) b.f_Requests), .d (dsl false false (k_api_Result false) b.f_Results)])]⟩) 1 3 (o := arrK 33 (k_api_Block false) L) rfl rfl rfl ⟨(.inl rfl), ⟨(.inl rfl), ⟨(.inl rfl), ⟨(.inl rfl), ⟨(.inl rfl), ⟨(.inl rfl), ⟨(.inl rfl), ⟨(.inl rfl), ⟨(.inl rfl), ⟨(.inl rfl), ⟨(.inl rfl), ⟨(.inl rfl), ⟨(.inl rfl), ⟨(.inl rfl), ⟨(.inl rfl), trivial⟩⟩⟩⟩⟩⟩⟩⟩⟩⟩⟩⟩⟩⟩⟩ ⟨(.inr (.inr ⟨by decide, by decide, (.inr ⟨rfl, ⟨(.inl rfl), ⟨(.inl rfl), ⟨(.inl rfl), ⟨(.inr rfl), trivial⟩⟩⟩⟩⟩)⟩)), ⟨(.inl ⟨rfl, rfl⟩), ⟨(.inr (.inr ⟨by decide, by decide, (.inl rfl)⟩)), ⟨(.inr (.inl ⟨rfl, rfl⟩)), trivial⟩⟩⟩⟩ hG) ?_
    exact tE (.inl rfl) [.t 4 (.one (.d (.val (.int .i64 (chkB b)))))] ⟨⟨rfl, by kernel_rfl⟩, trivial⟩ [0, 1, 3] (by have e1 : ((rappE h d L b) : Int) = (chkB b) := (by (have hx := rapp_chk (h := h) (d := d) (L := L) (b := b) (by assumption) ; exact hx.1)); have hE := congrArg (fun (q1 : Int) => (dv (.int .i64 q1) : AV)) e1; exact hE) rfl rfl rfl rfl rfl ⟨⟨rfl, (by have e1 : (L.length : Nat) = (rappL h d L b).length := (by (have hx := rapp_chk (h := h) (d := d) (L := L) (b := b) (by assumption) ; (rw [hx.2]; done))); have hE := congrArg (fun (q1 : Nat) => (.live (.box 76 [.d (.val (.bool true)), .d (.val (.int .i64 h)), .d (.val (strV d)), .own 3 (k_api_Block false).sz 0 q1]) : HS)) e1; exact Eq.trans (by kernel_rfl) hE)⟩, ⟨⟨rfl, (by have e1 : (L : List api_Block) = (rappL h d L b) := (by (have hx := rapp_chk (h := h) (d := d) (L := L) (b := b) (by assumption) ; exact hx.2.symm)); have hE := congrArg (fun (q1 : List api_Block) => (.live (arrK 33 (k_api_Block false) q1) : HS)) e1; exact Eq.trans (by kernel_rfl) hE)⟩, trivial⟩⟩
  · have hca := chk_all (Classical.not_not.1 hq1)
    refine T.condF (by kernel_rfl) (decide_eq_false hq1) ?_
    refine T.skip ?_
    refine nT ?_
    refine T.seq ?_
    refine T.seq ?_
    refine xD [[], [0], [], [2], [2, 3], [0, 1, 2, 3, 4]] [hR 3 rfl rfl (r_call (ref11_Height h d L (by assumption) (by assumption)) Try.func36 rfl (by decide) [0, 1] [] (l := [(.tmp 18, pv 0 0)]) [] rfl 2 2 rfl rfl rfl rfl rfl rfl rfl rfl rfl ⟨.inl ⟨rfl, rfl⟩, trivial⟩ rfl (fun b hb => by cases hb) (.inl rfl) (lt_of rfl) trivial),
      hR 4 rfl rfl (r_bin (u1 := .int .i64 (h + ((L.length : Nat) : Int))) (u2 := .int .i64 1) (v := .int .i64 ((h + ((L.length : Nat) : Int)) + 1)) (b_add (by rw [IntKind.wrap_i64]; omega)) (lt_of rfl) ⟨rfl, trivial⟩)] (by kernel_rfl) (by kernel_rfl) (by kernel_rfl) (by kernel_rfl) (by kernel_rfl) (by kernel_rfl) ?_
    refine nT ?_
    by_cases hq2 : b.f_Height ≠ ((h + ((L.length : Nat) : Int)) + 1)
    · refine T.condT (by kernel_rfl) (decide_eq_true hq2) ?_
      refine T.seq ?_
      refine xR [] (by kernel_rfl) (by kernel_rfl) ?_
      refine nT ?_
      refine T.ret ?_
      refine rT ?_
      refine Ends.turn (s' := ⟨[pv 0 0, .tv (.agg [.d (.val (.int .i64 b.f_Height)), .d (.val (strV b.f_Prev)), .d (dsl false false (k_api_Envelope false) b.f_Requests), .d (dsl false false (k_api_Result false) b.f_Results)]), aa, pv 2 0, dv (.int .i64 100), dv (.int .i64 (chkB b)), aa, aa, aa, aa, dv (.bool (!true)), aa, aa, aa, dv (.bool (decide ((chkB b) ≠ 0))), aa, aa, aa, aa, aa, aa, dv (.bool (decide (b.f_Height ≠ ((h + ((L.length : Nat) : Int)) + 1))))], [.live (.box 76 [.d (.val (.bool true)), .d (.val (.int .i64 h)), .d (.val (strV d)), .own 1 (k_api_Block false).sz 0 L.length]), .live (arrK 33 (k_api_Block false) L), .live (.box 33 [.d (.val (.int .i64 b.f_Height)), .d (.val (strV b.f_Prev)), .d (dsl false false (k_api_Envelope false) b.f_Requests), .d (dsl false false (k_api_Result false) b.f_Results)])]⟩) (fun _ _ hG => Gs.norm (by kernel_rfl) hG) ?_
      refine Ends.turn (s' := ⟨[pv 0 0, .tv (.agg [.d (.val (.int .i64 b.f_Height)), .d (.val (strV b.f_Prev)), .d (dsl false false (k_api_Envelope false) b.f_Requests), .d (dsl false false (k_api_Result false) b.f_Results)]), aa, pv 2 0, dv (.int .i64 100), dv (.int .i64 (chkB b)), aa, aa, aa, aa, dv (.bool (!true)), aa, aa, aa, dv (.bool (decide ((chkB b) ≠ 0))), aa, aa, aa, aa, aa, aa, dv (.bool (decide (b.f_Height ≠ ((h + ((L.length : Nat) : Int)) + 1))))], [.live (.box 76 [.d (.val (.bool true)), .d (.val (.int .i64 h)), .d (.val (strV d)), .own 3 (k_api_Block false).sz 0 L.length]), .dead, .live (.box 33 [.d (.val (.int .i64 b.f_Height)), .d (.val (strV b.f_Prev)), .d (dsl false false (k_api_Envelope false) b.f_Requests), .d (dsl false false (k_api_Result false) b.f_Results)]), .live (arrK 33 (k_api_Block false) L)]⟩) (fun _ _ hG => Gs.move (s := ⟨[pv 0 0, .tv (.agg [.d (.val (.int .i64 b.f_Height)), .d (.val (strV b.f_Prev)), .d (dsl false false (k_api_Envelope false) b.f_Requests), .d (dsl false false (k_api_Result false) b.f_Results)]), aa, pv 2 0, dv (.int .i64 100), dv (.int .i64 (chkB b)), aa, aa, aa, aa, dv (.bool (!true)), aa, aa, aa, dv (.bool (decide ((chkB b) ≠ 0))), aa, aa, aa, aa, aa, aa, dv (.bool (decide (b.f_Height ≠ ((h + ((L.length : Nat) : Int)) + 1))))], [.live (.box 76 [.d (.val (.bool true)), .d (.val (.int .i64 h)), .d (.val (strV d)), .own 1 (k_api_Block false).sz 0 L.length]), .live (arrK 33 (k_api_Block false) L), .live (.box 33 [.d (.val (.int .i64 b.f_Height)), .d (.val (strV b.f_Prev)), .d (dsl false false (k_api_Envelope false) b.f_Requests), .d (dsl false false (k_api_Result false) b.f_Results)])]⟩) 1 3 (o := arrK 33 (k_api_Block false) L) rfl rfl rfl ⟨(.inl rfl), ⟨(.inl rfl), ⟨(.inl rfl), ⟨(.inl rfl), ⟨(.inl rfl), ⟨(.inl rfl), ⟨(.inl rfl), ⟨(.inl rfl), ⟨(.inl rfl), ⟨(.inl rfl), ⟨(.inl rfl), ⟨(.inl rfl), ⟨(.inl rfl), ⟨(.inl rfl), ⟨(.inl rfl), ⟨(.inl rfl), ⟨(.inl rfl), ⟨(.inl rfl), ⟨(.inl rfl), ⟨(.inl rfl), ⟨(.inl rfl), ⟨(.inl rfl), trivial⟩⟩⟩⟩⟩⟩⟩⟩⟩⟩⟩⟩⟩⟩⟩⟩⟩⟩⟩⟩⟩⟩ ⟨(.inr (.inr ⟨by decide, by decide, (.inr ⟨rfl, ⟨(.inl rfl), ⟨(.inl rfl), ⟨(.inl rfl), ⟨(.inr rfl), trivial⟩⟩⟩⟩⟩)⟩)), ⟨(.inl ⟨rfl, rfl⟩), ⟨(.inr (.inr ⟨by decide, by decide, (.inl rfl)⟩)), ⟨(.inr (.inl ⟨rfl, rfl⟩)), trivial⟩⟩⟩⟩ hG) ?_
      exact tE (.inl rfl) [.t 4 (.one (.d (.val (.int .i64 100))))] ⟨⟨rfl, by kernel_rfl⟩, trivial⟩ [0, 1, 3] (by have e1 : ((rappE h d L b) : Int) = 100 := (by (have hx := rapp_hgt (h := h) (d := d) (L := L) (b := b) (by assumption) (by assumption) ; exact hx.1)); have hE := congrArg (fun (q1 : Int) => (dv (.int .i64 q1) : AV)) e1; exact hE) rfl rfl rfl rfl rfl ⟨⟨rfl, (by have e1 : (L.length : Nat) = (rappL h d L b).length := (by (have hx := rapp_hgt (h := h) (d := d) (L := L) (b := b) (by assumption) (by assumption) ; (rw [hx.2]; done))); have hE := congrArg (fun (q1 : Nat) => (.live (.box 76 [.d (.val (.bool true)), .d (.val (.int .i64 h)), .d (.val (strV d)), .own 3 (k_api_Block false).sz 0 q1]) : HS)) e1; exact Eq.trans (by kernel_rfl) hE)⟩, ⟨⟨rfl, (by have e1 : (L : List api_Block) = (rappL h d L b) := (by (have hx := rapp_hgt (h := h) (d := d) (L := L) (b := b) (by assumption) (by assumption) ; exact hx.2.symm)); have hE := congrArg (fun (q1 : List api_Block) => (.live (arrK 33 (k_api_Block false) q1) : HS)) e1; exact Eq.trans (by kernel_rfl) hE)⟩, trivial⟩⟩
    · refine T.condF (by kernel_rfl) (decide_eq_false hq2) ?_
      refine T.skip ?_
      refine nT ?_
      refine T.seq ?_
      refine T.seq ?_
      refine xD [[], [0], [], [2], [0, 1, 2, 3]] [hR 3 rfl rfl (r_call (ref11_Head h d L (by assumption) (by assumption) (by assumption)) Try.func37 rfl (by decide) [0, 1] [] (l := [(.tmp 24, pv 0 0)]) [] rfl 2 2 rfl rfl rfl rfl rfl rfl rfl rfl rfl ⟨.inl ⟨rfl, rfl⟩, trivial⟩ rfl (fun b hb => by cases hb) (.inl rfl) (lt_of rfl) trivial)] (by kernel_rfl) (by kernel_rfl) (by kernel_rfl) (by kernel_rfl) (by kernel_rfl) (by kernel_rfl) ?_
      refine nT ?_
      by_cases hq3 : b.f_Prev ≠ (atB d L L.length)
      · refine T.condT (by kernel_rfl) (decide_eq_true hq3) ?_
        refine T.seq ?_
        refine xR [] (by kernel_rfl) (by kernel_rfl) ?_
        refine nT ?_
        refine T.ret ?_
        refine rT ?_
        refine Ends.turn (s' := ⟨[pv 0 0, .tv (.agg [.d (.val (.int .i64 b.f_Height)), .d (.val (strV b.f_Prev)), .d (dsl false false (k_api_Envelope false) b.f_Requests), .d (dsl false false (k_api_Result false) b.f_Results)]), aa, pv 2 0, dv (.int .i64 101), dv (.int .i64 (chkB b)), aa, aa, aa, aa, dv (.bool (!true)), aa, aa, aa, dv (.bool (decide ((chkB b) ≠ 0))), aa, aa, aa, aa, aa, aa, dv (.bool (decide (b.f_Height ≠ ((h + ((L.length : Nat) : Int)) + 1)))), aa, aa, aa, aa, dv (.bool (decide (b.f_Prev ≠ (atB d L L.length))))], [.live (.box 76 [.d (.val (.bool true)), .d (.val (.int .i64 h)), .d (.val (strV d)), .own 1 (k_api_Block false).sz 0 L.length]), .live (arrK 33 (k_api_Block false) L), .live (.box 33 [.d (.val (.int .i64 b.f_Height)), .d (.val (strV b.f_Prev)), .d (dsl false false (k_api_Envelope false) b.f_Requests), .d (dsl false false (k_api_Result false) b.f_Results)])]⟩) (fun _ _ hG => Gs.norm (by kernel_rfl) hG) ?_
        refine Ends.turn (s' := ⟨[pv 0 0, .tv (.agg [.d (.val (.int .i64 b.f_Height)), .d (.val (strV b.f_Prev)), .d (dsl false false (k_api_Envelope false) b.f_Requests), .d (dsl false false (k_api_Result false) b.f_Results)]), aa, pv 2 0, dv (.int .i64 101), dv (.int .i64 (chkB b)), aa, aa, aa, aa, dv (.bool (!true)), aa, aa, aa, dv (.bool (decide ((chkB b) ≠ 0))), aa, aa, aa, aa, aa, aa, dv (.bool (decide (b.f_Height ≠ ((h + ((L.length : Nat) : Int)) + 1)))), aa, aa, aa, aa, dv (.bool (decide (b.f_Prev ≠ (atB d L L.length))))], [.live (.box 76 [.d (.val (.bool true)), .d (.val (.int .i64 h)), .d (.val (strV d)), .own 3 (k_api_Block false).sz 0 L.length]), .dead, .live (.box 33 [.d (.val (.int .i64 b.f_Height)), .d (.val (strV b.f_Prev)), .d (dsl false false (k_api_Envelope false) b.f_Requests), .d (dsl false false (k_api_Result false) b.f_Results)]), .live (arrK 33 (k_api_Block false) L)]⟩) (fun _ _ hG => Gs.move (s := ⟨[pv 0 0, .tv (.agg [.d (.val (.int .i64 b.f_Height)), .d (.val (strV b.f_Prev)), .d (dsl false false (k_api_Envelope false) b.f_Requests), .d (dsl false false (k_api_Result false) b.f_Results)]), aa, pv 2 0, dv (.int .i64 101), dv (.int .i64 (chkB b)), aa, aa, aa, aa, dv (.bool (!true)), aa, aa, aa, dv (.bool (decide ((chkB b) ≠ 0))), aa, aa, aa, aa, aa, aa, dv (.bool (decide (b.f_Height ≠ ((h + ((L.length : Nat) : Int)) + 1)))), aa, aa, aa, aa, dv (.bool (decide (b.f_Prev ≠ (atB d L L.length))))], [.live (.box 76 [.d (.val (.bool true)), .d (.val (.int .i64 h)), .d (.val (strV d)), .own 1 (k_api_Block false).sz 0 L.length]), .live (arrK 33 (k_api_Block false) L), .live (.box 33 [.d (.val (.int .i64 b.f_Height)), .d (.val (strV b.f_Prev)), .d (dsl false false (k_api_Envelope false) b.f_Requests), .d (dsl false false (k_api_Result false) b.f_Results)])]⟩) 1 3 (o := arrK 33 (k_api_Block false) L) rfl rfl rfl ⟨(.inl rfl), ⟨(.inl rfl), ⟨(.inl rfl), ⟨(.inl rfl), ⟨(.inl rfl), ⟨(.inl rfl), ⟨(.inl rfl), ⟨(.inl rfl), ⟨(.inl rfl), ⟨(.inl rfl), ⟨(.inl rfl), ⟨(.inl rfl), ⟨(.inl rfl), ⟨(.inl rfl), ⟨(.inl rfl), ⟨(.inl rfl), ⟨(.inl rfl), ⟨(.inl rfl), ⟨(.inl rfl), ⟨(.inl rfl), ⟨(.inl rfl), ⟨(.inl rfl), ⟨(.inl rfl), ⟨(.inl rfl), ⟨(.inl rfl), ⟨(.inl rfl), ⟨(.inl rfl), trivial⟩⟩⟩⟩⟩⟩⟩⟩⟩⟩⟩⟩⟩⟩⟩⟩⟩⟩⟩⟩⟩⟩⟩⟩⟩⟩⟩ ⟨(.inr (.inr ⟨by decide, by decide, (.inr ⟨rfl, ⟨(.inl rfl), ⟨(.inl rfl), ⟨(.inl rfl), ⟨(.inr rfl), trivial⟩⟩⟩⟩⟩)⟩)), ⟨(.inl ⟨rfl, rfl⟩), ⟨(.inr (.inr ⟨by decide, by decide, (.inl rfl)⟩)), ⟨(.inr (.inl ⟨rfl, rfl⟩)), trivial⟩⟩⟩⟩ hG) ?_
        exact tE (.inl rfl) [.t 4 (.one (.d (.val (.int .i64 101))))] ⟨⟨rfl, by kernel_rfl⟩, trivial⟩ [0, 1, 3] (by have e1 : ((rappE h d L b) : Int) = 101 := (by (have hx := rapp_prv (h := h) (d := d) (L := L) (b := b) (by assumption) (by assumption) (by assumption) ; exact hx.1)); have hE := congrArg (fun (q1 : Int) => (dv (.int .i64 q1) : AV)) e1; exact hE) rfl rfl rfl rfl rfl ⟨⟨rfl, (by have e1 : (L.length : Nat) = (rappL h d L b).length := (by (have hx := rapp_prv (h := h) (d := d) (L := L) (b := b) (by assumption) (by assumption) (by assumption) ; (rw [hx.2]; done))); have hE := congrArg (fun (q1 : Nat) => (.live (.box 76 [.d (.val (.bool true)), .d (.val (.int .i64 h)), .d (.val (strV d)), .own 3 (k_api_Block false).sz 0 q1]) : HS)) e1; exact Eq.trans (by kernel_rfl) hE)⟩, ⟨⟨rfl, (by have e1 : (L : List api_Block) = (rappL h d L b) := (by (have hx := rapp_prv (h := h) (d := d) (L := L) (b := b) (by assumption) (by assumption) (by assumption) ; exact hx.2.symm)); have hE := congrArg (fun (q1 : List api_Block) => (.live (arrK 33 (k_api_Block false) q1) : HS)) e1; exact Eq.trans (by kernel_rfl) hE)⟩, trivial⟩⟩
      · refine T.condF (by kernel_rfl) (decide_eq_false hq3) ?_
        refine T.skip ?_
        refine nT ?_
        refine T.seq ?_
        refine xD [[], [], [1], [1, 2], [1, 2, 3], [], [5], [5, 6], [1, 2, 3, 4, 5, 6, 7], [0, 1, 2, 3, 4, 5, 6, 7, 8], [0, 1, 2, 3, 4, 5, 6, 7, 8, 9], [0, 1, 2, 3, 4, 5, 6, 7, 8, 9, 10]] [hR 6 rfl rfl (r_call (ref11_twin b (by assumption)) Try.func64 rfl (by decide) [] [] (l := [(.tmp 32, .tv (.agg [.d (.val (.int .i64 b.f_Height)), .d (.val (strV b.f_Prev)), .d (dsl false false (k_api_Envelope false) b.f_Requests), .d (dsl false false (k_api_Result false) b.f_Results)]))]) [] rfl 0 0 rfl rfl rfl rfl rfl rfl rfl rfl rfl ⟨⟨.inl ⟨rfl, rfl⟩, ⟨.inl ⟨rfl, rfl⟩, ⟨.inl ⟨rfl, rfl⟩, ⟨.inl ⟨rfl, rfl⟩, trivial⟩⟩⟩⟩, trivial⟩ rfl (fun b hb => by cases hb) (.inl rfl) (lt_of rfl) trivial),
          hR 7 rfl rfl (q_buildSlice 3 33 (k_api_Block false) (k_api_Block_ok false) [b] [⟨0, .tmp 33, .agg [.d (.val (.int .i64 b.f_Height)), .d (.val (strV b.f_Prev)), .d (dsl false false (k_api_Envelope false) b.f_Requests), .d (dsl false false (k_api_Result false) b.f_Results)], 0⟩] (cs := [.d (.val (.int .i64 b.f_Height)), .d (.val (strV b.f_Prev)), .d (dsl false false (k_api_Envelope false) b.f_Requests), .d (dsl false false (k_api_Result false) b.f_Results)]) Try.underlying39 iat_33 rfl zero_33 rfl rfl rfl (Nat.le_of_ble_eq_true rfl) (part_cons rfl rfl (Nat.le_of_ble_eq_true rfl) part_ok) rfl ⟨(.inl rfl), ⟨(.inl rfl), ⟨(.inl rfl), ⟨(.inl rfl), trivial⟩⟩⟩⟩ (lt_of rfl) trivial),
          hR 8 rfl rfl (q_appendO 1 4 33 72 (k_api_Block false) (k_api_Block_ok false) L [b] (L ++ [b]) L.length (sy := (.own 3 (k_api_Block false).sz 0 [b].length)) (rhs := [(3, .live (arrK 33 (k_api_Block false) [b]))]) elem_39 (by omega) (src_own 3 33 (k_api_Block false) [b]) (by rw [List.take_length]) (by (simp [maxLen, -List.getD_eq_getElem?_getD] <;> omega)) (by (simp [maxLen, -List.getD_eq_getElem?_getD] <;> omega)) (lt_of rfl) trivial)] (by kernel_rfl) (by kernel_rfl) (by kernel_rfl) (by kernel_rfl) (by kernel_rfl) (by kernel_rfl) ?_
        refine nT ?_
        refine T.seq ?_
        refine xR [] (by kernel_rfl) (by kernel_rfl) ?_
        refine nT ?_
        refine T.ret ?_
        exact tE (.inl rfl) [.t 4 (.one (.d (.val (.int .i64 0))))] ⟨⟨rfl, by kernel_rfl⟩, trivial⟩ [0, 1, 4] (by have e1 : ((rappE h d L b) : Int) = 0 := (by (have hx := rapp_ok (h := h) (d := d) (L := L) (b := b) (by assumption) (by assumption) (by assumption) ; exact hx.1)); have hE := congrArg (fun (q1 : Int) => (dv (.int .i64 q1) : AV)) e1; exact hE) rfl rfl rfl rfl rfl ⟨⟨rfl, (by have e1 : ((L ++ [b]).length : Nat) = (rappL h d L b).length := (by (have hx := rapp_ok (h := h) (d := d) (L := L) (b := b) (by assumption) (by assumption) (by assumption) ; (rw [hx.2]; done))); have hE := congrArg (fun (q1 : Nat) => (.live (.box 76 [.d (.val (.bool true)), .d (.val (.int .i64 h)), .d (.val (strV d)), .own 4 (k_api_Block false).sz 0 q1]) : HS)) e1; exact Eq.trans (by kernel_rfl) hE)⟩, ⟨⟨rfl, (by have e1 : (L ++ [b] : List api_Block) = (rappL h d L b) := (by (have hx := rapp_ok (h := h) (d := d) (L := L) (b := b) (by assumption) (by assumption) (by assumption) ; exact hx.2.symm)); have hE := congrArg (fun (q1 : List api_Block) => (.live (arrK 33 (k_api_Block false) q1) : HS)) e1; exact Eq.trans (by kernel_rfl) hE)⟩, trivial⟩⟩
end Go.Proofs.Ytdclfhahcfefeaa.Q
namespace Go.Proofs.Ytdclfhahcfefeaa.Q
open Go Go.RowKit
set_option linter.unusedVariables false
set_option linter.unusedSimpArgs false
set_option maxRecDepth 100000
set_option maxHeartbeats 4000000
-- (*quaestor/quaestorref11.Ledger).Block
theorem ref11_Block (h : Int) (d : List UInt8) (L : List api_Block) (x : Int) (hh : 0 ≤ h ∧ h ≤ 1099511627776) (hl : L.length ≤ 100) (hw : fewLB L) : Holds Try.prog 39 ⟨[pv 0 0, dv (.int .i64 x)], [.box 76 [.d (.val (.bool true)), .d (.val (.int .i64 h)), .d (.val (strV d)), .own 1 (k_api_Block false).sz 0 L.length], arrK 33 (k_api_Block false) L], .tup [.agg [.d (.val (.int .i64 (rblk h L x).f_Height)), .d (.val (strV (rblk h L x).f_Prev)), .d (dsl false false (k_api_Envelope false) (rblk h L x).f_Requests), .d (dsl false false (k_api_Result false) (rblk h L x).f_Results)], .one (.d (.val (.int .i64 (blkE h L.length x))))], [.live (.box 76 [.d (.val (.bool true)), .d (.val (.int .i64 h)), .d (.val (strV d)), .own 1 (k_api_Block false).sz 0 L.length]), .live (arrK 33 (k_api_Block false) L)]⟩ := by
  refine Holds.of Try.func39 rfl (N := 33) Try.ntmps39 rfl fun w0 B0 S0 U0 => ?_
  show T _ (mkBase 33 2 w0 S0 U0 B0) ⟨[pv 0 0, dv (.int .i64 x)], [.live (.box 76 [.d (.val (.bool true)), .d (.val (.int .i64 h)), .d (.val (strV d)), .own 1 (k_api_Block false).sz 0 L.length]), .live (arrK 33 (k_api_Block false) L)]⟩ _ _
  refine T.seq ?_
  refine xR [] (by kernel_rfl) (by kernel_rfl) ?_
  refine nT ?_
  refine T.seq ?_
  refine T.seq ?_
  by_cases hq1 : x ≤ h
  · refine xR [hN 7 false (decide_eq_true hq1),
      hN 8 false (decide_eq_true hq1),
      hN 9 false (decide_eq_true hq1),
      hN 10 false (decide_eq_true hq1),
      hP 11 (decide_eq_true hq1)] (by kernel_rfl) (by kernel_rfl) ?_
    refine nT ?_
    refine T.condT (b := true) (by kernel_rfl) rfl ?_
    refine T.seq ?_
    refine xR [] (by kernel_rfl) (by kernel_rfl) ?_
    refine nT ?_
    refine T.ret ?_
    refine rT ?_
    refine Ends.turn (s' := ⟨[pv 0 0, dv (.int .i64 x), aa, aa, pv 2 0, dv (.int .i64 4), aa, aa, aa, aa, aa, aa, aa, aa, aa, aa, aa, dv (.bool true)], [.live (.box 76 [.d (.val (.bool true)), .d (.val (.int .i64 h)), .d (.val (strV d)), .own 1 (k_api_Block false).sz 0 L.length]), .live (arrK 33 (k_api_Block false) L), .live (.box 33 [.d (.val (.int .i64 0)), .d (.val (strV [])), .d (.val (.slice none 0 0)), .d (.val (.slice none 0 0))])]⟩) (fun _ _ hG => Gs.norm (by kernel_rfl) hG) ?_
    refine Ends.turn (s' := ⟨[pv 0 0, dv (.int .i64 x), aa, aa, pv 2 0, dv (.int .i64 4), aa, aa, aa, aa, aa, aa, aa, aa, aa, aa, aa, dv (.bool true)], [.live (.box 76 [.d (.val (.bool true)), .d (.val (.int .i64 h)), .d (.val (strV d)), .own 1 (k_api_Block false).sz 0 L.length]), .live (arrK 33 (k_api_Block false) L), .live (.box 33 [.d (.val (.int .i64 0)), .d (.val (strV [])), .d (dsl false false (k_api_Envelope false) ([] : List api_Envelope)), .d (dsl false false (k_api_Result false) ([] : List api_Result))])]⟩) (fun _ _ hG => Gs.less (s := ⟨[pv 0 0, dv (.int .i64 x), aa, aa, pv 2 0, dv (.int .i64 4), aa, aa, aa, aa, aa, aa, aa, aa, aa, aa, aa, dv (.bool true)], [.live (.box 76 [.d (.val (.bool true)), .d (.val (.int .i64 h)), .d (.val (strV d)), .own 1 (k_api_Block false).sz 0 L.length]), .live (arrK 33 (k_api_Block false) L), .live (.box 33 [.d (.val (.int .i64 0)), .d (.val (strV [])), .d (.val (.slice none 0 0)), .d (.val (.slice none 0 0))])]⟩) ⟨(.inl rfl), ⟨(.inl rfl), ⟨(.inl rfl), ⟨(.inl rfl), ⟨(.inl rfl), ⟨(.inl rfl), ⟨(.inl rfl), ⟨(.inl rfl), ⟨(.inl rfl), ⟨(.inl rfl), ⟨(.inl rfl), ⟨(.inl rfl), ⟨(.inl rfl), ⟨(.inl rfl), ⟨(.inl rfl), ⟨(.inl rfl), ⟨(.inl rfl), ⟨(.inl rfl), trivial⟩⟩⟩⟩⟩⟩⟩⟩⟩⟩⟩⟩⟩⟩⟩⟩⟩⟩ ⟨(.inl rfl), ⟨(.inl rfl), ⟨(.inr ⟨rfl, ⟨(.inl rfl), ⟨(.inl rfl), ⟨(.inr ⟨rfl, rfl, rfl⟩), ⟨(.inr ⟨rfl, rfl, rfl⟩), trivial⟩⟩⟩⟩⟩), trivial⟩⟩⟩ hG) ?_
    exact tE (.inl rfl) [.c 4 2 33 0 33 [.d (.val (.int .i64 0)), .d (.val (strV [])), .d (dsl false false (k_api_Envelope false) ([] : List api_Envelope)), .d (dsl false false (k_api_Result false) ([] : List api_Result))] (.agg [.d (.val (.int .i64 0)), .d (.val (strV [])), .d (dsl false false (k_api_Envelope false) ([] : List api_Envelope)), .d (dsl false false (k_api_Result false) ([] : List api_Result))]), .t 5 (.one (.d (.val (.int .i64 4))))] ⟨⟨rfl, rfl, by kernel_rfl, by kernel_rfl, .inl ⟨4, wide_33, rfl, Nat.le_of_ble_eq_true rfl⟩⟩, ⟨⟨rfl, by kernel_rfl⟩, trivial⟩⟩ [0, 1] (by have e1 : ((rblk h L x).f_Height : Int) = 0 := (by (have hi : ¬ inL h L.length x := (fun q => by have q1 := q.1; have q2 := q.2; omega); (rw [rblk, if_neg hi]; rfl))); have e2 : ((rblk h L x).f_Prev : List UInt8) = [] := (by (have hi : ¬ inL h L.length x := (fun q => by have q1 := q.1; have q2 := q.2; omega); (rw [rblk, if_neg hi]; rfl))); have e3 : ((rblk h L x).f_Requests : List api_Envelope) = ([] : List api_Envelope) := (by (have hi : ¬ inL h L.length x := (fun q => by have q1 := q.1; have q2 := q.2; omega); (rw [rblk, if_neg hi]; rfl))); have e4 : ((rblk h L x).f_Results : List api_Result) = ([] : List api_Result) := (by (have hi : ¬ inL h L.length x := (fun q => by have q1 := q.1; have q2 := q.2; omega); (rw [rblk, if_neg hi]; rfl))); have e5 : ((blkE h L.length x) : Int) = 4 := (by (have hi : ¬ inL h L.length x := (fun q => by have q1 := q.1; have q2 := q.2; omega); (rw [blkE, if_neg hi]))); have hE := congr (congr (congr (congr (congrArg (fun (q1 : Int) (q2 : List UInt8) (q3 : List api_Envelope) (q4 : List api_Result) (q5 : Int) => (.tup [.agg [.d (.val (.int .i64 q1)), .d (.val (strV q2)), .d (dsl false false (k_api_Envelope false) q3), .d (dsl false false (k_api_Result false) q4)], .one (.d (.val (.int .i64 q5)))] : AV)) e1) e2) e3) e4) e5; exact hE) rfl rfl rfl rfl rfl ⟨⟨rfl, (by kernel_rfl)⟩, ⟨⟨rfl, (by kernel_rfl)⟩, trivial⟩⟩
  · refine xR [hY 7 (decide_eq_false hq1),
      hY 8 (decide_eq_false hq1),
      hS 9 (oY rfl rfl rfl rfl (lt_of rfl) (decide_eq_false hq1) (r_call (ref11_Height h d L (by assumption) (by assumption)) Try.func36 rfl (by decide) [0, 1] [] (l := [(.tmp 14, pv 0 0)]) [] rfl 2 2 rfl rfl rfl rfl rfl rfl rfl rfl rfl ⟨.inl ⟨rfl, rfl⟩, trivial⟩ rfl (fun b hb => by cases hb) (.inl rfl) (lt_of rfl) trivial)),
      hY 10 (decide_eq_false hq1),
      hP 11 (decide_eq_false hq1)] (by kernel_rfl) (by kernel_rfl) ?_
    refine nT ?_
    by_cases hq2 : x > (h + ((L.length : Nat) : Int))
    · refine T.condT (by kernel_rfl) (decide_eq_true hq2) ?_
      refine T.seq ?_
      refine xR [] (by kernel_rfl) (by kernel_rfl) ?_
      refine nT ?_
      refine T.ret ?_
      refine rT ?_
      refine Ends.turn (s' := ⟨[pv 0 0, dv (.int .i64 x), aa, aa, pv 2 0, dv (.int .i64 4), aa, aa, aa, aa, aa, aa, aa, aa, aa, aa, aa, dv (.bool (decide (x > (h + ((L.length : Nat) : Int)))))], [.live (.box 76 [.d (.val (.bool true)), .d (.val (.int .i64 h)), .d (.val (strV d)), .own 1 (k_api_Block false).sz 0 L.length]), .live (arrK 33 (k_api_Block false) L), .live (.box 33 [.d (.val (.int .i64 0)), .d (.val (strV [])), .d (.val (.slice none 0 0)), .d (.val (.slice none 0 0))])]⟩) (fun _ _ hG => Gs.norm (by kernel_rfl) hG) ?_
      refine Ends.turn (s' := ⟨[pv 0 0, dv (.int .i64 x), aa, aa, pv 2 0, dv (.int .i64 4), aa, aa, aa, aa, aa, aa, aa, aa, aa, aa, aa, dv (.bool (decide (x > (h + ((L.length : Nat) : Int)))))], [.live (.box 76 [.d (.val (.bool true)), .d (.val (.int .i64 h)), .d (.val (strV d)), .own 1 (k_api_Block false).sz 0 L.length]), .live (arrK 33 (k_api_Block false) L), .live (.box 33 [.d (.val (.int .i64 0)), .d (.val (strV [])), .d (dsl false false (k_api_Envelope false) ([] : List api_Envelope)), .d (dsl false false (k_api_Result false) ([] : List api_Result))])]⟩) (fun _ _ hG => Gs.less (s := ⟨[pv 0 0, dv (.int .i64 x), aa, aa, pv 2 0, dv (.int .i64 4), aa, aa, aa, aa, aa, aa, aa, aa, aa, aa, aa, dv (.bool (decide (x > (h + ((L.length : Nat) : Int)))))], [.live (.box 76 [.d (.val (.bool true)), .d (.val (.int .i64 h)), .d (.val (strV d)), .own 1 (k_api_Block false).sz 0 L.length]), .live (arrK 33 (k_api_Block false) L), .live (.box 33 [.d (.val (.int .i64 0)), .d (.val (strV [])), .d (.val (.slice none 0 0)), .d (.val (.slice none 0 0))])]⟩) ⟨(.inl rfl), ⟨(.inl rfl), ⟨(.inl rfl), ⟨(.inl rfl), ⟨(.inl rfl), ⟨(.inl rfl), ⟨(.inl rfl), ⟨(.inl rfl), ⟨(.inl rfl), ⟨(.inl rfl), ⟨(.inl rfl), ⟨(.inl rfl), ⟨(.inl rfl), ⟨(.inl rfl), ⟨(.inl rfl), ⟨(.inl rfl), ⟨(.inl rfl), ⟨(.inl rfl), trivial⟩⟩⟩⟩⟩⟩⟩⟩⟩⟩⟩⟩⟩⟩⟩⟩⟩⟩ ⟨(.inl rfl), ⟨(.inl rfl), ⟨(.inr ⟨rfl, ⟨(.inl rfl), ⟨(.inl rfl), ⟨(.inr ⟨rfl, rfl, rfl⟩), ⟨(.inr ⟨rfl, rfl, rfl⟩), trivial⟩⟩⟩⟩⟩), trivial⟩⟩⟩ hG) ?_
      exact tE (.inl rfl) [.c 4 2 33 0 33 [.d (.val (.int .i64 0)), .d (.val (strV [])), .d (dsl false false (k_api_Envelope false) ([] : List api_Envelope)), .d (dsl false false (k_api_Result false) ([] : List api_Result))] (.agg [.d (.val (.int .i64 0)), .d (.val (strV [])), .d (dsl false false (k_api_Envelope false) ([] : List api_Envelope)), .d (dsl false false (k_api_Result false) ([] : List api_Result))]), .t 5 (.one (.d (.val (.int .i64 4))))] ⟨⟨rfl, rfl, by kernel_rfl, by kernel_rfl, .inl ⟨4, wide_33, rfl, Nat.le_of_ble_eq_true rfl⟩⟩, ⟨⟨rfl, by kernel_rfl⟩, trivial⟩⟩ [0, 1] (by have e1 : ((rblk h L x).f_Height : Int) = 0 := (by (have hi : ¬ inL h L.length x := (fun q => by have q1 := q.1; have q2 := q.2; omega); (rw [rblk, if_neg hi]; rfl))); have e2 : ((rblk h L x).f_Prev : List UInt8) = [] := (by (have hi : ¬ inL h L.length x := (fun q => by have q1 := q.1; have q2 := q.2; omega); (rw [rblk, if_neg hi]; rfl))); have e3 : ((rblk h L x).f_Requests : List api_Envelope) = ([] : List api_Envelope) := (by (have hi : ¬ inL h L.length x := (fun q => by have q1 := q.1; have q2 := q.2; omega); (rw [rblk, if_neg hi]; rfl))); have e4 : ((rblk h L x).f_Results : List api_Result) = ([] : List api_Result) := (by (have hi : ¬ inL h L.length x := (fun q => by have q1 := q.1; have q2 := q.2; omega); (rw [rblk, if_neg hi]; rfl))); have e5 : ((blkE h L.length x) : Int) = 4 := (by (have hi : ¬ inL h L.length x := (fun q => by have q1 := q.1; have q2 := q.2; omega); (rw [blkE, if_neg hi]))); have hE := congr (congr (congr (congr (congrArg (fun (q1 : Int) (q2 : List UInt8) (q3 : List api_Envelope) (q4 : List api_Result) (q5 : Int) => (.tup [.agg [.d (.val (.int .i64 q1)), .d (.val (strV q2)), .d (dsl false false (k_api_Envelope false) q3), .d (dsl false false (k_api_Result false) q4)], .one (.d (.val (.int .i64 q5)))] : AV)) e1) e2) e3) e4) e5; exact hE) rfl rfl rfl rfl rfl ⟨⟨rfl, (by kernel_rfl)⟩, ⟨⟨rfl, (by kernel_rfl)⟩, trivial⟩⟩
    · refine T.condF (by kernel_rfl) (decide_eq_false hq2) ?_
      refine T.skip ?_
      refine nT ?_
      refine T.seq ?_
      refine xD [[], [0], [0, 1], [0, 1, 2], [], [], [5], [5, 6], [5, 6, 7], [4, 5, 6, 7, 8], [4, 5, 6, 7, 8, 9], [0, 1, 2, 3, 4, 5, 6, 7, 8, 9, 10], [0, 1, 2, 3, 4, 5, 6, 7, 8, 9, 10, 11], [0, 1, 2, 3, 4, 5, 6, 7, 8, 9, 10, 11, 12], [0, 1, 2, 3, 4, 5, 6, 7, 8, 9, 10, 11, 12, 13], [0, 1, 2, 3, 4, 5, 6, 7, 8, 9, 10, 11, 12, 13, 14]] [hR 9 rfl rfl (r_bin (u1 := .int .i64 x) (u2 := .int .i64 h) (v := .int .i64 (x - h)) (b_sub (by rw [IntKind.wrap_i64]; omega)) (lt_of rfl) trivial),
        hR 10 rfl rfl (r_bin (u1 := .int .i64 (x - h)) (u2 := .int .i64 1) (v := .int .i64 ((x - h) - 1)) (b_sub (by rw [IntKind.wrap_i64]; omega)) (lt_of rfl) ⟨rfl, trivial⟩),
        hR 11 rfl rfl (r_indexO (k := .i64) (l := 1) (sz := (k_api_Block false).sz) (off := 0) (n := L.length) (i := ((x - h) - 1)) (m := ((x - h) - 1).toNat) (o' := ((x - h) - 1).toNat * (k_api_Block false).sz + 0) Try.underlying39 iat_33 rfl (by omega) (by omega) (by simp) (lt_of rfl) trivial),
        hR 12 rfl rfl (r_loadAs (l := 1) (off := ((x - h) - 1).toNat * (k_api_Block false).sz + 0) (i := ((x - h) - 1).toNat) (j := 0) (T := 33) (sz := (k_api_Block false).sz) (n := L.length) (el := elOf (k_api_Block false) L) (ds := [.d (.val (.int .i64 (L.getD ((x - h) - 1).toNat z_api_Block).f_Height)), .d (.val (strV (L.getD ((x - h) - 1).toNat z_api_Block).f_Prev)), .d (dsl false false (k_api_Envelope false) (L.getD ((x - h) - 1).toNat z_api_Block).f_Requests), .d (dsl false false (k_api_Result false) (L.getD ((x - h) - 1).toNat z_api_Block).f_Results)]) wide_33 rfl (by omega) (by decide) rfl (lt_of rfl) trivial),
        hR 13 rfl rfl (r_call (ref11_twin (L.getD ((x - h) - 1).toNat z_api_Block) (by exact fewLB_get (by assumption) _)) Try.func64 rfl (by decide) [] [] (l := [(.tmp 31, .tv (.agg [.d (.val (.int .i64 (L.getD ((x - h) - 1).toNat z_api_Block).f_Height)), .d (.val (strV (L.getD ((x - h) - 1).toNat z_api_Block).f_Prev)), .d (dsl false false (k_api_Envelope false) (L.getD ((x - h) - 1).toNat z_api_Block).f_Requests), .d (dsl false false (k_api_Result false) (L.getD ((x - h) - 1).toNat z_api_Block).f_Results)]))]) [] rfl 0 0 rfl rfl rfl rfl rfl rfl rfl rfl rfl ⟨⟨.inl ⟨rfl, rfl⟩, ⟨.inl ⟨rfl, rfl⟩, ⟨.inl ⟨rfl, rfl⟩, ⟨.inl ⟨rfl, rfl⟩, trivial⟩⟩⟩⟩, trivial⟩ rfl (fun b hb => by cases hb) (.inl rfl) (lt_of rfl) trivial)] (by kernel_rfl) (by kernel_rfl) (by kernel_rfl) (by kernel_rfl) (by kernel_rfl) (by kernel_rfl) ?_
      refine nT ?_
      refine T.ret ?_
      exact tE (.inl rfl) [.c 4 2 33 0 33 [.d (.val (.int .i64 (L.getD ((x - h) - 1).toNat z_api_Block).f_Height)), .d (.val (strV (L.getD ((x - h) - 1).toNat z_api_Block).f_Prev)), .d (dsl false false (k_api_Envelope false) (L.getD ((x - h) - 1).toNat z_api_Block).f_Requests), .d (dsl false false (k_api_Result false) (L.getD ((x - h) - 1).toNat z_api_Block).f_Results)] (.agg [.d (.val (.int .i64 (L.getD ((x - h) - 1).toNat z_api_Block).f_Height)), .d (.val (strV (L.getD ((x - h) - 1).toNat z_api_Block).f_Prev)), .d (dsl false false (k_api_Envelope false) (L.getD ((x - h) - 1).toNat z_api_Block).f_Requests), .d (dsl false false (k_api_Result false) (L.getD ((x - h) - 1).toNat z_api_Block).f_Results)]), .t 5 (.one (.d (.val (.int .i64 0))))] ⟨⟨rfl, rfl, by kernel_rfl, by kernel_rfl, .inl ⟨4, wide_33, rfl, Nat.le_of_ble_eq_true rfl⟩⟩, ⟨⟨rfl, by kernel_rfl⟩, trivial⟩⟩ [0, 1] (by have e1 : ((rblk h L x).f_Height : Int) = (L.getD ((x - h) - 1).toNat z_api_Block).f_Height := (by (have hi : inL h L.length x := ⟨by omega, by omega⟩; (rw [rblk, if_pos hi]))); have e2 : ((rblk h L x).f_Prev : List UInt8) = (L.getD ((x - h) - 1).toNat z_api_Block).f_Prev := (by (have hi : inL h L.length x := ⟨by omega, by omega⟩; (rw [rblk, if_pos hi]))); have e3 : ((rblk h L x).f_Requests : List api_Envelope) = (L.getD ((x - h) - 1).toNat z_api_Block).f_Requests := (by (have hi : inL h L.length x := ⟨by omega, by omega⟩; (rw [rblk, if_pos hi]))); have e4 : ((rblk h L x).f_Results : List api_Result) = (L.getD ((x - h) - 1).toNat z_api_Block).f_Results := (by (have hi : inL h L.length x := ⟨by omega, by omega⟩; (rw [rblk, if_pos hi]))); have e5 : ((blkE h L.length x) : Int) = 0 := (by (have hi : inL h L.length x := ⟨by omega, by omega⟩; (rw [blkE, if_pos hi]))); have hE := congr (congr (congr (congr (congrArg (fun (q1 : Int) (q2 : List UInt8) (q3 : List api_Envelope) (q4 : List api_Result) (q5 : Int) => (.tup [.agg [.d (.val (.int .i64 q1)), .d (.val (strV q2)), .d (dsl false false (k_api_Envelope false) q3), .d (dsl false false (k_api_Result false) q4)], .one (.d (.val (.int .i64 q5)))] : AV)) e1) e2) e3) e4) e5; exact hE) rfl rfl rfl rfl rfl ⟨⟨rfl, (by kernel_rfl)⟩, ⟨⟨rfl, (by kernel_rfl)⟩, trivial⟩⟩
end Go.Proofs.Ytdclfhahcfefeaa.Q
namespace Go.Proofs.Ytdclfhahcfefeaa.Q
open Go Go.RowKit
set_option linter.unusedVariables false
set_option linter.unusedSimpArgs false
set_option maxRecDepth 100000
set_option maxHeartbeats 4000000
theorem cells_3 : Cells Try.prog 3 1 := ⟨_, iat_3, rfl⟩
theorem cells_29 : Cells Try.prog 29 1 := ⟨_, iat_29, rfl⟩
-- (*quaestor/quaestorref11.Ledger).Cut
theorem ref11_Cut (h : Int) (d : List UInt8) (L : List api_Block) (x : Int) (hh : 0 ≤ h ∧ h ≤ 1099511627776) (hl : L.length ≤ 100) (hw : fewLB L) : Holds Try.prog 35 ⟨[pv 0 0, dv (.int .i64 x)], [.box 76 [.d (.val (.bool true)), .d (.val (.int .i64 h)), .d (.val (strV d)), .own 1 (k_api_Block false).sz 0 L.length], arrK 33 (k_api_Block false) L], dv (.int .i64 (cutE h L.length x)), [.live (.box 76 [.d (.val (.bool true)), .d (.val (.int .i64 (rcutH h L x))), .d (.val (strV (rcutD h d L x))), .own 2 (k_api_Block false).sz 0 (rcutL h L x).length]), .dead, .live (arrK 33 (k_api_Block false) (rcutL h L x))]⟩ := by
  refine Holds.of Try.func35 rfl (N := 55) Try.ntmps35 rfl fun w0 B0 S0 U0 => ?_
  show T _ (mkBase 55 2 w0 S0 U0 B0) ⟨[pv 0 0, dv (.int .i64 x)], [.live (.box 76 [.d (.val (.bool true)), .d (.val (.int .i64 h)), .d (.val (strV d)), .own 1 (k_api_Block false).sz 0 L.length]), .live (arrK 33 (k_api_Block false) L)]⟩ _ _
  refine T.seq ?_
  refine xR [] (by kernel_rfl) (by kernel_rfl) ?_
  refine nT ?_
  refine T.seq ?_
  refine T.seq ?_
  refine xR [] (by kernel_rfl) (by kernel_rfl) ?_
  refine nT ?_
  refine T.condF (b := (!true)) (by kernel_rfl) rfl ?_
  refine T.skip ?_
  refine nT ?_
  refine T.seq ?_
  refine T.seq ?_
  by_cases hq1 : x < h
  · refine xR [hN 7 false (decide_eq_true hq1),
      hN 8 false (decide_eq_true hq1),
      hN 9 false (decide_eq_true hq1),
      hN 10 false (decide_eq_true hq1),
      hP 11 (decide_eq_true hq1)] (by kernel_rfl) (by kernel_rfl) ?_
    refine nT ?_
    refine T.condT (b := true) (by kernel_rfl) rfl ?_
    refine T.seq ?_
    refine xR [] (by kernel_rfl) (by kernel_rfl) ?_
    refine nT ?_
    refine T.ret ?_
    refine rT ?_
    refine Ends.turn (s' := ⟨[pv 0 0, dv (.int .i64 x), aa, aa, dv (.int .i64 2), aa, aa, aa, aa, aa, dv (.bool (!true)), aa, aa, aa, aa, aa, aa, aa, aa, aa, aa, aa, dv (.bool true)], [.live (.box 76 [.d (.val (.bool true)), .d (.val (.int .i64 h)), .d (.val (strV d)), .own 1 (k_api_Block false).sz 0 L.length]), .live (arrK 33 (k_api_Block false) L)]⟩) (fun _ _ hG => Gs.norm (by kernel_rfl) hG) ?_
    refine Ends.turn (s' := ⟨[pv 0 0, dv (.int .i64 x), aa, aa, dv (.int .i64 2), aa, aa, aa, aa, aa, dv (.bool (!true)), aa, aa, aa, aa, aa, aa, aa, aa, aa, aa, aa, dv (.bool true)], [.live (.box 76 [.d (.val (.bool true)), .d (.val (.int .i64 h)), .d (.val (strV d)), .own 2 (k_api_Block false).sz 0 L.length]), .dead, .live (arrK 33 (k_api_Block false) L)]⟩) (fun _ _ hG => Gs.move (s := ⟨[pv 0 0, dv (.int .i64 x), aa, aa, dv (.int .i64 2), aa, aa, aa, aa, aa, dv (.bool (!true)), aa, aa, aa, aa, aa, aa, aa, aa, aa, aa, aa, dv (.bool true)], [.live (.box 76 [.d (.val (.bool true)), .d (.val (.int .i64 h)), .d (.val (strV d)), .own 1 (k_api_Block false).sz 0 L.length]), .live (arrK 33 (k_api_Block false) L)]⟩) 1 2 (o := arrK 33 (k_api_Block false) L) rfl rfl rfl ⟨(.inl rfl), ⟨(.inl rfl), ⟨(.inl rfl), ⟨(.inl rfl), ⟨(.inl rfl), ⟨(.inl rfl), ⟨(.inl rfl), ⟨(.inl rfl), ⟨(.inl rfl), ⟨(.inl rfl), ⟨(.inl rfl), ⟨(.inl rfl), ⟨(.inl rfl), ⟨(.inl rfl), ⟨(.inl rfl), ⟨(.inl rfl), ⟨(.inl rfl), ⟨(.inl rfl), ⟨(.inl rfl), ⟨(.inl rfl), ⟨(.inl rfl), ⟨(.inl rfl), ⟨(.inl rfl), trivial⟩⟩⟩⟩⟩⟩⟩⟩⟩⟩⟩⟩⟩⟩⟩⟩⟩⟩⟩⟩⟩⟩⟩ ⟨(.inr (.inr ⟨by decide, by decide, (.inr ⟨rfl, ⟨(.inl rfl), ⟨(.inl rfl), ⟨(.inl rfl), ⟨(.inr rfl), trivial⟩⟩⟩⟩⟩)⟩)), ⟨(.inl ⟨rfl, rfl⟩), ⟨(.inr (.inl ⟨rfl, rfl⟩)), trivial⟩⟩⟩ hG) ?_
    exact tE (.inl rfl) [.t 4 (.one (.d (.val (.int .i64 2))))] ⟨⟨rfl, by kernel_rfl⟩, trivial⟩ [0, 1, 2] (by have e1 : ((cutE h L.length x) : Int) = 2 := (by (have hx := rcut_no (h := h) (d := d) (L := L) (x := x) (by omega); exact hx.1)); have hE := congrArg (fun (q1 : Int) => (dv (.int .i64 q1) : AV)) e1; exact hE) rfl rfl rfl rfl rfl ⟨⟨rfl, (by have e1 : (h : Int) = (rcutH h L x) := (by (have hx := rcut_no (h := h) (d := d) (L := L) (x := x) (by omega); exact hx.2.1.symm)); have e2 : (d : List UInt8) = (rcutD h d L x) := (by (have hx := rcut_no (h := h) (d := d) (L := L) (x := x) (by omega); exact hx.2.2.1.symm)); have e3 : (L.length : Nat) = (rcutL h L x).length := (by (have hx := rcut_no (h := h) (d := d) (L := L) (x := x) (by omega); (rw [hx.2.2.2]; done))); have hE := congr (congr (congrArg (fun (q1 : Int) (q2 : List UInt8) (q3 : Nat) => (.live (.box 76 [.d (.val (.bool true)), .d (.val (.int .i64 q1)), .d (.val (strV q2)), .own 2 (k_api_Block false).sz 0 q3]) : HS)) e1) e2) e3; exact Eq.trans (by kernel_rfl) hE)⟩, ⟨⟨rfl, (by have e1 : (L : List api_Block) = (rcutL h L x) := (by (have hx := rcut_no (h := h) (d := d) (L := L) (x := x) (by omega); exact hx.2.2.2.symm)); have hE := congrArg (fun (q1 : List api_Block) => (.live (arrK 33 (k_api_Block false) q1) : HS)) e1; exact Eq.trans (by kernel_rfl) hE)⟩, trivial⟩⟩
  · refine xR [hY 7 (decide_eq_false hq1),
      hY 8 (decide_eq_false hq1),
      hS 9 (oY rfl rfl rfl rfl (lt_of rfl) (decide_eq_false hq1) (r_call (ref11_Height h d L (by assumption) (by assumption)) Try.func36 rfl (by decide) [0, 1] [] (l := [(.tmp 19, pv 0 0)]) [] rfl 2 2 rfl rfl rfl rfl rfl rfl rfl rfl rfl ⟨.inl ⟨rfl, rfl⟩, trivial⟩ rfl (fun b hb => by cases hb) (.inl rfl) (lt_of rfl) trivial)),
      hY 10 (decide_eq_false hq1),
      hP 11 (decide_eq_false hq1)] (by kernel_rfl) (by kernel_rfl) ?_
    refine nT ?_
    by_cases hq2 : x > (h + ((L.length : Nat) : Int))
    · refine T.condT (by kernel_rfl) (decide_eq_true hq2) ?_
      refine T.seq ?_
      refine xR [] (by kernel_rfl) (by kernel_rfl) ?_
      refine nT ?_
      refine T.ret ?_
      refine rT ?_
      refine Ends.turn (s' := ⟨[pv 0 0, dv (.int .i64 x), aa, aa, dv (.int .i64 2), aa, aa, aa, aa, aa, dv (.bool (!true)), aa, aa, aa, aa, aa, aa, aa, aa, aa, aa, aa, dv (.bool (decide (x > (h + ((L.length : Nat) : Int)))))], [.live (.box 76 [.d (.val (.bool true)), .d (.val (.int .i64 h)), .d (.val (strV d)), .own 1 (k_api_Block false).sz 0 L.length]), .live (arrK 33 (k_api_Block false) L)]⟩) (fun _ _ hG => Gs.norm (by kernel_rfl) hG) ?_
      refine Ends.turn (s' := ⟨[pv 0 0, dv (.int .i64 x), aa, aa, dv (.int .i64 2), aa, aa, aa, aa, aa, dv (.bool (!true)), aa, aa, aa, aa, aa, aa, aa, aa, aa, aa, aa, dv (.bool (decide (x > (h + ((L.length : Nat) : Int)))))], [.live (.box 76 [.d (.val (.bool true)), .d (.val (.int .i64 h)), .d (.val (strV d)), .own 2 (k_api_Block false).sz 0 L.length]), .dead, .live (arrK 33 (k_api_Block false) L)]⟩) (fun _ _ hG => Gs.move (s := ⟨[pv 0 0, dv (.int .i64 x), aa, aa, dv (.int .i64 2), aa, aa, aa, aa, aa, dv (.bool (!true)), aa, aa, aa, aa, aa, aa, aa, aa, aa, aa, aa, dv (.bool (decide (x > (h + ((L.length : Nat) : Int)))))], [.live (.box 76 [.d (.val (.bool true)), .d (.val (.int .i64 h)), .d (.val (strV d)), .own 1 (k_api_Block false).sz 0 L.length]), .live (arrK 33 (k_api_Block false) L)]⟩) 1 2 (o := arrK 33 (k_api_Block false) L) rfl rfl rfl ⟨(.inl rfl), ⟨(.inl rfl), ⟨(.inl rfl), ⟨(.inl rfl), ⟨(.inl rfl), ⟨(.inl rfl), ⟨(.inl rfl), ⟨(.inl rfl), ⟨(.inl rfl), ⟨(.inl rfl), ⟨(.inl rfl), ⟨(.inl rfl), ⟨(.inl rfl), ⟨(.inl rfl), ⟨(.inl rfl), ⟨(.inl rfl), ⟨(.inl rfl), ⟨(.inl rfl), ⟨(.inl rfl), ⟨(.inl rfl), ⟨(.inl rfl), ⟨(.inl rfl), ⟨(.inl rfl), trivial⟩⟩⟩⟩⟩⟩⟩⟩⟩⟩⟩⟩⟩⟩⟩⟩⟩⟩⟩⟩⟩⟩⟩ ⟨(.inr (.inr ⟨by decide, by decide, (.inr ⟨rfl, ⟨(.inl rfl), ⟨(.inl rfl), ⟨(.inl rfl), ⟨(.inr rfl), trivial⟩⟩⟩⟩⟩)⟩)), ⟨(.inl ⟨rfl, rfl⟩), ⟨(.inr (.inl ⟨rfl, rfl⟩)), trivial⟩⟩⟩ hG) ?_
      exact tE (.inl rfl) [.t 4 (.one (.d (.val (.int .i64 2))))] ⟨⟨rfl, by kernel_rfl⟩, trivial⟩ [0, 1, 2] (by have e1 : ((cutE h L.length x) : Int) = 2 := (by (have hx := rcut_no (h := h) (d := d) (L := L) (x := x) (by omega); exact hx.1)); have hE := congrArg (fun (q1 : Int) => (dv (.int .i64 q1) : AV)) e1; exact hE) rfl rfl rfl rfl rfl ⟨⟨rfl, (by have e1 : (h : Int) = (rcutH h L x) := (by (have hx := rcut_no (h := h) (d := d) (L := L) (x := x) (by omega); exact hx.2.1.symm)); have e2 : (d : List UInt8) = (rcutD h d L x) := (by (have hx := rcut_no (h := h) (d := d) (L := L) (x := x) (by omega); exact hx.2.2.1.symm)); have e3 : (L.length : Nat) = (rcutL h L x).length := (by (have hx := rcut_no (h := h) (d := d) (L := L) (x := x) (by omega); (rw [hx.2.2.2]; done))); have hE := congr (congr (congrArg (fun (q1 : Int) (q2 : List UInt8) (q3 : Nat) => (.live (.box 76 [.d (.val (.bool true)), .d (.val (.int .i64 q1)), .d (.val (strV q2)), .own 2 (k_api_Block false).sz 0 q3]) : HS)) e1) e2) e3; exact Eq.trans (by kernel_rfl) hE)⟩, ⟨⟨rfl, (by have e1 : (L : List api_Block) = (rcutL h L x) := (by (have hx := rcut_no (h := h) (d := d) (L := L) (x := x) (by omega); exact hx.2.2.2.symm)); have hE := congrArg (fun (q1 : List api_Block) => (.live (arrK 33 (k_api_Block false) q1) : HS)) e1; exact Eq.trans (by kernel_rfl) hE)⟩, trivial⟩⟩
    · refine T.condF (by kernel_rfl) (decide_eq_false hq2) ?_
      refine T.skip ?_
      refine nT ?_
      refine T.seq ?_
      refine xR [hR 6 rfl rfl (r_bin (u1 := .int .i64 x) (u2 := .int .i64 h) (v := .int .i64 (((x - h).toNat : Nat) : Int)) (b_sub (by rw [IntKind.wrap_i64]; omega)) (lt_of rfl) trivial),
        hR 7 rfl rfl (r_call (ref11_at h d L (x - h).toNat (by assumption) (by assumption) (by assumption) (by omega)) Try.func62 rfl (by decide) [0, 1] [] (l := [(.tmp 23, pv 0 0), (.tmp 29, dv (.int .i64 (((x - h).toNat : Nat) : Int)))]) [] rfl 2 2 rfl rfl rfl rfl rfl rfl rfl rfl rfl ⟨.inl ⟨rfl, rfl⟩, ⟨.inl ⟨rfl, rfl⟩, trivial⟩⟩ rfl (fun b hb => by cases hb) (.inl rfl) (lt_of rfl) trivial)] (by kernel_rfl) (by kernel_rfl) ?_
      refine nT ?_
      refine T.seq ?_
      refine xD [[], [], [], [2], [2, 3], [2, 3, 4], [], [], [7], [7, 8], [7, 8, 9], [6, 7, 8, 9, 10], [2, 3, 4, 5, 6, 7, 8, 9, 10, 11], [1, 2, 3, 4, 5, 6, 7, 8, 9, 10, 11, 12], [0, 1, 2, 3, 4, 5, 6, 7, 8, 9, 10, 11, 12, 13], [0, 1, 2, 3, 4, 5, 6, 7, 8, 9, 10, 11, 12, 13, 14], [0, 1, 2, 3, 4, 5, 6, 7, 8, 9, 10, 11, 12, 13, 14, 15]] [hR 1 rfl rfl (q_buildSlice 2 33 (k_api_Block false) (k_api_Block_ok false) ([] : List api_Block) [] (cs := []) Try.underlying39 iat_33 rfl zero_33 rfl rfl rfl (Nat.le_of_ble_eq_true rfl) part_ok rfl trivial (lt_of rfl) trivial),
        hR 11 rfl rfl (r_bin (u1 := .int .i64 x) (u2 := .int .i64 h) (v := .int .i64 (((x - h).toNat : Nat) : Int)) (b_sub (by rw [IntKind.wrap_i64]; omega)) (lt_of rfl) trivial),
        hR 12 rfl rfl (r_sliceO (lo0 := 1) (sz := (k_api_Block false).sz) (off := 0) (n := L.length) (l := (x - h).toNat) (h := L.length) (off' := (x - h).toNat) (n' := (L.length - (x - h).toNat)) (lo := some (.tmp 42, (((x - h).toNat : Nat) : Int))) (hi := none) Try.underlying39 iat_33 rfl rfl rfl rfl rfl (by omega) (by omega) (by omega) (by omega) (lt_of rfl) trivial),
        hR 13 rfl rfl (q_appendO 2 3 33 72 (k_api_Block false) (k_api_Block_ok false) ([] : List api_Block) ((L.take ((x - h).toNat + L.length - (x - h).toNat)).drop (x - h).toNat) ((L.take ((x - h).toNat + L.length - (x - h).toNat)).drop (x - h).toNat) ([] : List api_Block).length (sy := (.own 1 (k_api_Block false).sz (x - h).toNat (L.length - (x - h).toNat))) (rhs := [(1, .live (arrK 33 (k_api_Block false) L))]) elem_39 (by omega) (src_cut 1 33 (k_api_Block false) L ((L.take ((x - h).toNat + L.length - (x - h).toNat)).drop (x - h).toNat) (x - h).toNat ((x - h).toNat + L.length - (x - h).toNat) (by omega) (by omega) (by rfl) (by omega)) (by simp) (by (simp [maxLen, -List.getD_eq_getElem?_getD] <;> omega)) (by (simp [maxLen, -List.getD_eq_getElem?_getD] <;> omega)) (lt_of rfl) trivial)] (by kernel_rfl) (by kernel_rfl) (by kernel_rfl) (by kernel_rfl) (by kernel_rfl) (by kernel_rfl) ?_
      refine nT ?_
      refine T.seq ?_
      refine xR [] (by kernel_rfl) (by kernel_rfl) ?_
      refine nT ?_
      refine T.seq ?_
      refine xR [] (by kernel_rfl) (by kernel_rfl) ?_
      refine nT ?_
      refine T.seq ?_
      refine xR [] (by kernel_rfl) (by kernel_rfl) ?_
      refine nT ?_
      refine T.ret ?_
      exact tE (.inl rfl) [.t 4 (.one (.d (.val (.int .i64 0))))] ⟨⟨rfl, by kernel_rfl⟩, trivial⟩ [0, 1, 3] (by have e1 : ((cutE h L.length x) : Int) = 0 := (by (have hx := rcut_yes (h := h) (d := d) (L := L) (x := x) (by omega); exact hx.1)); have hE := congrArg (fun (q1 : Int) => (dv (.int .i64 q1) : AV)) e1; exact hE) rfl rfl rfl rfl rfl ⟨⟨rfl, (by have e1 : (x : Int) = (rcutH h L x) := (by (have hx := rcut_yes (h := h) (d := d) (L := L) (x := x) (by omega); exact hx.2.1.symm)); have e2 : ((atB d L (x - h).toNat) : List UInt8) = (rcutD h d L x) := (by (have hx := rcut_yes (h := h) (d := d) (L := L) (x := x) (by omega); exact hx.2.2.1.symm)); have e3 : (((L.take ((x - h).toNat + L.length - (x - h).toNat)).drop (x - h).toNat).length : Nat) = (rcutL h L x).length := (by (have hx := rcut_yes (h := h) (d := d) (L := L) (x := x) (by omega); (rw [hx.2.2.2]; (rw [List.take_of_length_le (by omega)])))); have hE := congr (congr (congrArg (fun (q1 : Int) (q2 : List UInt8) (q3 : Nat) => (.live (.box 76 [.d (.val (.bool true)), .d (.val (.int .i64 q1)), .d (.val (strV q2)), .own 3 (k_api_Block false).sz 0 q3]) : HS)) e1) e2) e3; exact Eq.trans (by kernel_rfl) hE)⟩, ⟨⟨rfl, (by have e1 : (((L.take ((x - h).toNat + L.length - (x - h).toNat)).drop (x - h).toNat) : List api_Block) = (rcutL h L x) := (by (have hx := rcut_yes (h := h) (d := d) (L := L) (x := x) (by omega); (rw [hx.2.2.2]; (rw [List.take_of_length_le (by omega)])))); have hE := congrArg (fun (q1 : List api_Block) => (.live (arrK 33 (k_api_Block false) q1) : HS)) e1; exact Eq.trans (by kernel_rfl) hE)⟩, trivial⟩⟩
end Go.Proofs.Ytdclfhahcfefeaa.Q
