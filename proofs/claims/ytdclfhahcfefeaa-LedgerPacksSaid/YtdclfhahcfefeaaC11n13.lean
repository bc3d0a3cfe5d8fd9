import Derived.Test.YtdclfhahcfefeaaC11n12
namespace Go.Proofs.Ytdclfhahcfefeaa.Q
set_option linter.unusedVariables false
set_option linter.unusedSimpArgs false
set_option maxRecDepth 100000

/-! ### Acts, one behind the other -/

structure LSt where
  h : Int
  d : List UInt8
  L : List api_Block
def stepS (s : LSt) (x : Act') : LSt := ⟨stH s.h s.L x, stD s.h s.d s.L x, stL s.h s.d s.L x⟩
def runS (s : LSt) (l : List Act') : Nat → LSt
  | 0 => s
  | k + 1 => stepS (runS s l k) (l.getD k z_quaestorlaw11_Act)
def sNew : LSt := ⟨0, ofB 6 ([] : List (List UInt8)), ([] : List api_Block)⟩
def sFrom (h : Int) (d : List UInt8) : LSt := ⟨h, d, ([] : List api_Block)⟩
def fewA (l : List Act') : Prop := l.length ≤ 30 ∧ ∀ x, x ∈ l → smallB x.f_Block
instance (l : List Act') : Decidable (fewA l) := inferInstanceAs (Decidable (_ ∧ ∀ x, x ∈ l → smallB x.f_Block))
theorem fewA_get {l : List Act'} (h : fewA l) (k : Nat) : smallB (l.getD k z_quaestorlaw11_Act).f_Block := all_getD (p := fun (x : Act') => smallB x.f_Block) h.2 (by decide) k
theorem fewA_no {l : List Act'} {k : Nat} (hk : k < l.length) (h : ¬ smallB (l.getD k z_quaestorlaw11_Act).f_Block) : ¬ fewA l := fun h1 => h (fewA_get h1 k)
theorem fewA_yes {l : List Act'} {k : Nat} (h0 : l.length ≤ 30) (hk : l.length ≤ k) (h : ∀ j, j < k → smallB (l.getD j z_quaestorlaw11_Act).f_Block) : fewA l := ⟨h0, fun x hx => by
  obtain ⟨j, hj, rfl⟩ := List.getElem_of_mem hx
  have := h j (by omega)
  rwa [List.getD_eq_getElem?_getD, List.getElem?_eq_getElem hj] at this⟩

def okBk (m : Nat) (b : api_Block) : Prop := fewG szE 20 500 b.f_Requests ∧ b.f_Results.length ≤ 20 ∧ b.f_Prev.length + 26000 ≤ m
structure okS (k : Nat) (s : LSt) : Prop where
  h0 : 0 ≤ s.h
  h1 : s.h + ((s.L.length : Nat) : Int) ≤ 1099511627776
  len : s.L.length ≤ k
  dl : s.d.length ≤ 5000 + 26000 * k
  bl : ∀ b, b ∈ s.L → okBk (5000 + 26000 * k) b
theorem okBk_few {m : Nat} {b : api_Block} (hm : m ≤ 10000000) (h : okBk m b) : fewB b := ⟨h.1, h.2.1, by have := h.2.2; omega⟩
theorem dig_len {b : api_Block} (h : fewB b) : (digB (headB b)).length ≤ b.f_Prev.length + 26000 := by
  have h2 := few_root (few_leaves h)
  have h3 : (headB b).f_Root.length ≤ 25400 := h2
  have h4 : (headB b).f_Prev = b.f_Prev := rfl
  unfold digB
  rw [ofB_len, sz4, int_len, int_len, h4]
  omega
theorem at_len {k n : Nat} {s : LSt} (hs : okS k s) (hk : k ≤ 90) (hn : n ≤ s.L.length) : (atB s.d s.L n).length ≤ 5000 + 26000 * k := by
  unfold atB
  split
  · exact hs.dl
  · have hb := hs.bl _ (getD_mem (z := z_api_Block) (show n - 1 < s.L.length by omega))
    have h1 := dig_len (okBk_few (by omega) hb)
    have h2 := hb.2.2
    omega
theorem okS_fact {k : Nat} {s : LSt} (hs : okS k s) (hk : k ≤ 90) : (0 ≤ s.h ∧ s.h ≤ 1099511627776) ∧ s.L.length ≤ 90 ∧ fewLB s.L ∧ (atB s.d s.L s.L.length).length ≤ 10000000 := by
  have h0 := hs.h0
  have h1 := hs.h1
  have h2 := hs.len
  refine ⟨⟨h0, by omega⟩, by omega, fun b hb => okBk_few (by omega) (hs.bl b hb), ?_⟩
  have := at_len hs hk (Nat.le_refl _)
  omega
theorem okBk_mono {m n : Nat} {b : api_Block} (h : m ≤ n) (hb : okBk m b) : okBk n b := ⟨hb.1, hb.2.1, by have := hb.2.2; omega⟩
theorem okS_step {k : Nat} {s : LSt} {x : Act'} (hs : okS k s) (hk : k ≤ 90) (hx : fewB x.f_Block) : okS (k + 1) (stepS s x) := by
  have h0 := hs.h0
  have h1 := hs.h1
  have h2 := hs.len
  have h3 := hs.dl
  have hm : ∀ b, b ∈ s.L → okBk (5000 + 26000 * (k + 1)) b := fun b hb => okBk_mono (by omega) (hs.bl b hb)
  by_cases hc : x.f_Cut = true
  · obtain ⟨_, _, _, e1, e2, e3⟩ := st_cut (h := s.h) (d := s.d) (L := s.L) hc
    by_cases hr : x.f_H < s.h ∨ x.f_H > s.h + ((s.L.length : Nat) : Int)
    · obtain ⟨_, r1, r2, r3⟩ := rcut_no (h := s.h) (d := s.d) (L := s.L) hr
      have f1 : (stepS s x).h = s.h := e1.trans r1
      have f2 : (stepS s x).d = s.d := e2.trans r2
      have f3 : (stepS s x).L = s.L := e3.trans r3
      exact ⟨by rw [f1]; exact h0, by rw [f1, f3]; exact h1, by rw [f3]; omega, by rw [f2]; omega, by rw [f3]; exact hm⟩
    · obtain ⟨_, r1, r2, r3⟩ := rcut_yes (h := s.h) (d := s.d) (L := s.L) hr
      have f1 : (stepS s x).h = x.f_H := e1.trans r1
      have f2 : (stepS s x).d = atB s.d s.L (x.f_H - s.h).toNat := e2.trans r2
      have f3 : (stepS s x).L = s.L.drop (x.f_H - s.h).toNat := e3.trans r3
      have hat := at_len hs hk (show (x.f_H - s.h).toNat ≤ s.L.length by omega)
      exact ⟨by rw [f1]; omega, by rw [f1, f3, List.length_drop]; omega, by rw [f3, List.length_drop]; omega, by rw [f2]; omega, by rw [f3]; exact fun b hb => hm b (List.mem_of_mem_drop hb)⟩
  · obtain ⟨e1, e2, _, e3⟩ := st_app (h := s.h) (d := s.d) (L := s.L) (x := x) (Bool.eq_false_iff.2 hc) rfl
    have f1 : (stepS s x).h = s.h := e1
    have f2 : (stepS s x).d = s.d := e2
    have f3 : (stepS s x).L = rappL s.h s.d s.L (actB s.h s.d s.L x) := e3
    by_cases ha : rappE s.h s.d s.L (actB s.h s.d s.L x) = 0
    · have f4 : (stepS s x).L = s.L ++ [actB s.h s.d s.L x] := f3.trans (if_pos ha)
      have ha' := ha
      unfold rappE appE at ha'
      split at ha'
      · rename_i hk0
        split at ha'
        · rename_i hh
          split at ha'
          · rename_i hp
            rw [links_len] at hh
            rw [hd_links] at hp
            have hc4 := (chk_all hk0).2.2
            have hq : (actB s.h s.d s.L x).f_Requests = x.f_Block.f_Requests := by unfold actB; split <;> rfl
            have hq2 : (actB s.h s.d s.L x).f_Results = x.f_Block.f_Results := by unfold actB; split <;> rfl
            have hat := at_len hs hk (Nat.le_refl _)
            refine ⟨by rw [f1]; exact h0, ?_, ?_, by rw [f2]; omega, ?_⟩
            · rw [f1, f4, List.length_append, List.length_singleton]; omega
            · rw [f4, List.length_append, List.length_singleton]; omega
            · rw [f4]
              intro b hb
              rcases List.mem_append.1 hb with hb | hb
              · exact hm b hb
              · obtain rfl := List.mem_singleton.1 hb
                exact ⟨by rw [hq]; exact hx.1, by rw [hq2]; exact hx.2.1, by rw [hp]; omega⟩
          · cases ha'
        · cases ha'
      · rename_i hk0
        exact absurd ha' hk0
    · have f4 : (stepS s x).L = s.L := f3.trans (if_neg ha)
      exact ⟨by rw [f1]; exact h0, by rw [f1, f4]; exact h1, by rw [f4]; omega, by rw [f2]; omega, by rw [f4]; exact hm⟩
theorem okS_new : okS 0 sNew := ⟨by decide, by decide, by decide, by decide, fun b hb => by cases hb⟩
theorem okS_from {h : Int} {d : List UInt8} (h0 : 0 ≤ h ∧ h ≤ 1099511627776) (hd : d.length ≤ 5000) : okS 0 (sFrom h d) := ⟨h0.1, by show h + ((([] : List api_Block).length : Nat) : Int) ≤ _; simp; omega, Nat.le_refl _, by show d.length ≤ _; omega, fun b hb => by cases hb⟩
theorem okS_run {s : LSt} {j : Nat} {l : List Act'} (hs : okS j s) (hf : fewA l) : ∀ k, k + j ≤ 90 → okS (k + j) (runS s l k)
  | 0, _ => by rw [Nat.zero_add]; exact hs
  | k + 1, hk => by
    rw [show k + 1 + j = (k + j) + 1 by omega]
    exact okS_step (okS_run hs hf k (by omega)) (by omega) (fewA_get hf k).1
/-- What a loop's body leans on. -/
theorem run_fact {s : LSt} {l : List Act'} (hs : okS 0 s) (hf : fewA l) {k : Nat} (hk : k ≤ 60) : (0 ≤ (runS s l k).h ∧ (runS s l k).h ≤ 1099511627776) ∧ (runS s l k).L.length ≤ 90 ∧ fewLB (runS s l k).L ∧ (atB (runS s l k).d (runS s l k).L (runS s l k).L.length).length ≤ 10000000 :=
  okS_fact (okS_run hs hf k (by omega)) (by omega)
theorem blk_few {h : Int} {L : List api_Block} {x : Int} (hw : fewLB L) : fewB (blkB h (linksB L) x) := by
  rw [blk_links]
  unfold rblk
  split
  · exact fewLB_get hw _
  · decide
end Go.Proofs.Ytdclfhahcfefeaa.Q
namespace Go.Proofs.Ytdclfhahcfefeaa.Q
open Go Go.RowKit
set_option linter.unusedVariables false
set_option linter.unusedSimpArgs false
set_option maxRecDepth 100000
set_option maxHeartbeats 4000000
theorem iat_35 : Try.prog.info? 35 = some Try.t35 := by kernel_rfl
-- quaestor/quaestorlaw11.few
theorem law_few (l : List quaestorlaw11_Act) (hl : l.length ≤ 9223372036854775807) (hx : ∀ j, (l.getD j z_quaestorlaw11_Act).f_Block.f_Requests.length ≤ 9223372036854775807 ∧ (l.getD j z_quaestorlaw11_Act).f_Block.f_Results.length ≤ 9223372036854775807) : Holds Try.prog 9 ⟨[slV false false (k_quaestorlaw11_Act false) l], [], dv (.bool (decide (fewA l))), []⟩ := by
  refine Holds.of Try.func9 rfl (N := 20) Try.ntmps9 rfl fun w0 B0 S0 U0 => ?_
  show T _ (mkBase 20 0 w0 S0 U0 B0) ⟨[slV false false (k_quaestorlaw11_Act false) l], []⟩ _ _
  refine T.seq ?_
  refine xR [] (by kernel_rfl) (by kernel_rfl) ?_
  refine nT ?_
  refine T.seq ?_
  refine T.seq ?_
  refine xR [] (by kernel_rfl) (by kernel_rfl) ?_
  refine nT ?_
  by_cases hq1 : ((l.length : Nat) : Int) > 30
  · refine T.condT (by kernel_rfl) (decide_eq_true hq1) ?_
    refine T.seq ?_
    refine xR [] (by kernel_rfl) (by kernel_rfl) ?_
    refine nT ?_
    refine T.ret ?_
    refine rT ?_
    exact tE (.inl rfl) [.t 2 (.one (.d (.val (.bool false))))] ⟨⟨rfl, by kernel_rfl⟩, trivial⟩ [] (by have e1 : ((decide (fewA l)) : Bool) = false := (by first | exact decide_eq_false (fun h9 => by have h8 := h9.1; omega) | exact decide_eq_false (fewA_no (k := k) (by omega) (by assumption)) | exact decide_eq_true (fewA_yes (k := k) (by omega) (by omega) hb)); have hE := congrArg (fun (q1 : Bool) => (dv (.bool q1) : AV)) e1; exact hE) rfl rfl rfl rfl rfl trivial
  · refine T.condF (by kernel_rfl) (decide_eq_false hq1) ?_
    refine T.skip ?_
    refine nT ?_
    refine T.seq ?_
    refine T.seq ?_
    refine xR [] (by kernel_rfl) (by kernel_rfl) ?_
    refine nT ?_
    refine T.block ?_
    refine T.loop (ι := Nat) (fun (k : Nat) => ⟨[slV false false (k_quaestorlaw11_Act false) l, aa, dv (.bool false), dv (.int .i64 ((k : Nat) : Int)), aa, aa, dv (.bool (decide (((l.length : Nat) : Int) > 30)))], []⟩) (fun (k : Nat) => (k ≤ l.length) ∧ (∀ j, j < k → smallB (l.getD j z_quaestorlaw11_Act).f_Block)) (fun (k : Nat) => l.length - k) (0) ⟨(Nat.zero_le _), (fun j hj => absurd hj (Nat.not_lt_zero _))⟩ (fun _ _ hG => Gs.into2 (s' := ⟨[slV false false (k_quaestorlaw11_Act false) l, aa, dv (.bool false), dv (.int .i64 0), aa, aa, dv (.bool (decide (((l.length : Nat) : Int) > 30)))], []⟩) [] (bm 7 77) (t1 := [slV false false (k_quaestorlaw11_Act false) l, aa, dv (.bool false), dv (.int .i64 0), aa, aa, dv (.bool (decide (((l.length : Nat) : Int) > 30)))]) (h1 := []) rfl rfl (by kernel_rfl) (by kernel_rfl) (by kernel_rfl) (by kernel_rfl) (by kernel_rfl) (by kernel_rfl) (by kernel_rfl) (by kernel_rfl) (by kernel_rfl) (by kernel_rfl) (by kernel_rfl) hG) ?_
    rintro k ⟨hk, hb⟩
    show T _ _ ⟨[slV false false (k_quaestorlaw11_Act false) l, aa, dv (.bool false), dv (.int .i64 ((k : Nat) : Int)), aa, aa, dv (.bool (decide (((l.length : Nat) : Int) > 30)))], []⟩ _ _
    replace hk : k ≤ l.length := hk
    replace hb : ∀ j, j < k → smallB (l.getD j z_quaestorlaw11_Act).f_Block := hb
    have hxk := (hx k).1
    have hxk2 := (hx k).2
    refine T.seq ?_
    refine T.seq ?_
    refine xR [] (by kernel_rfl) (by kernel_rfl) ?_
    refine nT ?_
    by_cases hq2 : ((k : Nat) : Int) < ((l.length : Nat) : Int)
    · refine T.condT (by kernel_rfl) (decide_eq_true hq2) ?_
      refine T.skip ?_
      refine nT ?_
      refine T.seq ?_
      refine T.block ?_
      refine T.seq ?_
      refine xR [hR 2 rfl rfl (q_index false false (k_quaestorlaw11_Act false) l k (k := .i64) (i := ((k : Nat) : Int)) Try.underlying22 iat_35 rfl rfl (by first | assumption | omega | (unfold maxLen; omega) | (simp [maxLen, -List.getD_eq_getElem?_getD] <;> omega) | decide) (lt_of rfl) trivial),
        hR 5 rfl rfl (r_call (law_Few false (l.getD k z_quaestorlaw11_Act).f_Block (by first | assumption | omega | (unfold maxLen; omega) | (simp [maxLen, -List.getD_eq_getElem?_getD] <;> omega) | decide) (by first | assumption | omega | (unfold maxLen; omega) | (simp [maxLen, -List.getD_eq_getElem?_getD] <;> omega) | decide)) Try.func15 rfl (by decide) [] [] (l := [(.tmp 17, .tv (.agg [.d (.val (.int .i64 (l.getD k z_quaestorlaw11_Act).f_Block.f_Height)), .d (.val (strV (l.getD k z_quaestorlaw11_Act).f_Block.f_Prev)), .d (dsl false false (k_api_Envelope false) (l.getD k z_quaestorlaw11_Act).f_Block.f_Requests), .d (dsl false false (k_api_Result false) (l.getD k z_quaestorlaw11_Act).f_Block.f_Results)]))]) [] rfl 0 0 rfl rfl rfl rfl rfl rfl rfl rfl rfl ⟨⟨.inl ⟨rfl, rfl⟩, ⟨.inl ⟨rfl, rfl⟩, ⟨.inl ⟨rfl, rfl⟩, ⟨.inl ⟨rfl, rfl⟩, trivial⟩⟩⟩⟩, trivial⟩ rfl (fun b hb => by cases hb) (.inl rfl) (lt_of rfl) trivial)] (by kernel_rfl) (by kernel_rfl) ?_
      refine nT ?_
      by_cases hq3 : smallB (l.getD k z_quaestorlaw11_Act).f_Block
      · refine T.condF (by kernel_rfl) (congrArg Bool.not (decide_eq_true hq3)) ?_
        refine T.skip ?_
        refine nB ?_
        refine nT ?_
        refine xR [hR 1 rfl rfl (r_bin (u1 := .int .i64 ((k : Nat) : Int)) (u2 := .int .i64 1) (v := .int .i64 ((k + 1 : Nat) : Int)) (b_add (by rw [IntKind.wrap_i64]; omega)) (lt_of rfl) ⟨rfl, trivial⟩)] (by kernel_rfl) (by kernel_rfl) ?_
        refine nL (k + 1) ⟨(show (k + 1) ≤ l.length from (by omega)), (show ∀ j, j < (k + 1) → smallB (l.getD j z_quaestorlaw11_Act).f_Block from (all_succ hb (by assumption)))⟩ (show (l.length - (k + 1) : Nat) < l.length - k from (by omega)) (fun _ _ hG => Gs.into2 (s' := ⟨[slV false false (k_quaestorlaw11_Act false) l, aa, dv (.bool false), dv (.int .i64 ((k + 1 : Nat) : Int)), aa, aa, dv (.bool (decide (((l.length : Nat) : Int) > 30)))], []⟩) [] (bm 7 77) (t1 := [slV false false (k_quaestorlaw11_Act false) l, aa, dv (.bool false), dv (.int .i64 ((k + 1 : Nat) : Int)), aa, aa, dv (.bool (decide (((l.length : Nat) : Int) > 30)))]) (h1 := []) rfl rfl (by kernel_rfl) (by kernel_rfl) (by kernel_rfl) (by kernel_rfl) (by kernel_rfl) (by kernel_rfl) (by kernel_rfl) (by kernel_rfl) (by kernel_rfl) (by kernel_rfl) (by kernel_rfl) hG)
      · refine T.condT (by kernel_rfl) (congrArg Bool.not (decide_eq_false hq3)) ?_
        refine T.seq ?_
        refine xR [] (by kernel_rfl) (by kernel_rfl) ?_
        refine nT ?_
        refine T.ret ?_
        refine rB ?_
        refine rT ?_
        refine rT ?_
        refine rB ?_
        refine rT ?_
        exact tE (.inl rfl) [.t 2 (.one (.d (.val (.bool false))))] ⟨⟨rfl, by kernel_rfl⟩, trivial⟩ [] (by have e1 : ((decide (fewA l)) : Bool) = false := (by first | exact decide_eq_false (fun h9 => by have h8 := h9.1; omega) | exact decide_eq_false (fewA_no (k := k) (by omega) (by assumption)) | exact decide_eq_true (fewA_yes (k := k) (by omega) (by omega) hb)); have hE := congrArg (fun (q1 : Bool) => (dv (.bool q1) : AV)) e1; exact hE) rfl rfl rfl rfl rfl trivial
    · refine T.condF (by kernel_rfl) (decide_eq_false hq2) ?_
      refine T.exit ?_
      refine xT ?_
      refine xT ?_
      refine xH ?_
      refine nT ?_
      refine T.seq ?_
      refine xR [] (by kernel_rfl) (by kernel_rfl) ?_
      refine nT ?_
      refine T.ret ?_
      exact tE (.inl rfl) [.t 2 (.one (.d (.val (.bool true))))] ⟨⟨rfl, by kernel_rfl⟩, trivial⟩ [] (by have e1 : ((decide (fewA l)) : Bool) = true := (by first | exact decide_eq_false (fun h9 => by have h8 := h9.1; omega) | exact decide_eq_false (fewA_no (k := k) (by omega) (by assumption)) | exact decide_eq_true (fewA_yes (k := k) (by omega) (by omega) hb)); have hE := congrArg (fun (q1 : Bool) => (dv (.bool q1) : AV)) e1; exact hE) rfl rfl rfl rfl rfl trivial
end Go.Proofs.Ytdclfhahcfefeaa.Q
namespace Go.Proofs.Ytdclfhahcfefeaa.Q
open Go Go.RowKit
set_option linter.unusedVariables false
set_option linter.unusedSimpArgs false
set_option maxRecDepth 100000
set_option maxHeartbeats 4000000
-- quaestor/quaestorlaw11.same
theorem law_same (h : Int) (d : List UInt8) (L : List api_Block) (x : Int) (hh : 0 ≤ h ∧ h ≤ 1099511627776) (hl : L.length ≤ 90) (hw : fewLB L) : Holds Try.prog 13 ⟨[pv 0 0, pv 2 0, dv (.int .i64 x)], [.box 74 [.d (.val (.int .i64 h)), .d (.val (strV d)), .d (.val (.bool true)), .own 1 (k_ledger_link false).sz 0 (linksB L).length], arrK 80 (k_ledger_link false) (linksB L), .box 76 [.d (.val (.bool true)), .d (.val (.int .i64 h)), .d (.val (strV d)), .own 3 (k_api_Block false).sz 0 L.length], arrK 33 (k_api_Block false) L], dv (.bool true), [.live (.box 74 [.d (.val (.int .i64 h)), .d (.val (strV d)), .d (.val (.bool true)), .own 1 (k_ledger_link false).sz 0 (linksB L).length]), .live (arrK 80 (k_ledger_link false) (linksB L)), .live (.box 76 [.d (.val (.bool true)), .d (.val (.int .i64 h)), .d (.val (strV d)), .own 3 (k_api_Block false).sz 0 L.length]), .live (arrK 33 (k_api_Block false) L)]⟩ := by
  refine Holds.of Try.func13 rfl (N := 68) Try.ntmps13 rfl fun w0 B0 S0 U0 => ?_
  show T _ (mkBase 68 4 w0 S0 U0 B0) ⟨[pv 0 0, pv 2 0, dv (.int .i64 x)], [.live (.box 74 [.d (.val (.int .i64 h)), .d (.val (strV d)), .d (.val (.bool true)), .own 1 (k_ledger_link false).sz 0 (linksB L).length]), .live (arrK 80 (k_ledger_link false) (linksB L)), .live (.box 76 [.d (.val (.bool true)), .d (.val (.int .i64 h)), .d (.val (strV d)), .own 3 (k_api_Block false).sz 0 L.length]), .live (arrK 33 (k_api_Block false) L)]⟩ _ _
  have hll := links_len L
  have hlk := links_few hw
  have hbf := blk_few (h := h) (x := x) hw
  have hb1 := hbf.1.1
  have hb2 := hbf.2.1
  refine T.seq ?_
  refine xR [] (by kernel_rfl) (by kernel_rfl) ?_
  refine nT ?_
  refine T.seq ?_
  refine xR [hR 1 rfl rfl (r_call (ledger_Base h d (linksB L) (by first | assumption | omega | (unfold maxLen; omega) | (simp [maxLen, -List.getD_eq_getElem?_getD] <;> omega) | decide) (by first | assumption | omega | decide +kernel)) Try.func25 rfl (by decide) [0, 1] [] (l := [(.tmp 14, pv 0 0)]) [] rfl 2 2 rfl rfl rfl rfl rfl rfl rfl rfl rfl ⟨.inl ⟨rfl, rfl⟩, trivial⟩ rfl (fun b hb => by cases hb) (.inl rfl) (lt_of rfl) trivial)] (by kernel_rfl) (by kernel_rfl) ?_
  refine nT ?_
  refine T.seq ?_
  refine xR [hR 2 rfl rfl (r_call (ledger_Block h d (linksB L) x (by first | assumption | omega | (unfold maxLen; omega) | (simp [maxLen, -List.getD_eq_getElem?_getD] <;> omega) | decide) (by first | assumption | omega | decide +kernel) (by first | assumption | exact links_few (by assumption) | exact act_few (by assumption) (by assumption) | decide +kernel)) Try.func19 rfl (by decide) [0, 1] [] (l := [(.tmp 19, pv 0 0), (.tmp 20, dv (.int .i64 x))]) [] rfl 2 2 rfl rfl rfl rfl rfl rfl rfl rfl rfl ⟨.inl ⟨rfl, rfl⟩, ⟨.inl ⟨rfl, rfl⟩, trivial⟩⟩ rfl (fun b hb => by cases hb) (.inl rfl) (lt_of rfl) trivial)] (by kernel_rfl) (by kernel_rfl) ?_
  refine nT ?_
  refine T.seq ?_
  refine xR [hR 2 rfl rfl (r_call (ref11_Block h d L x (by first | assumption | omega | (unfold maxLen; omega) | (simp [maxLen, -List.getD_eq_getElem?_getD] <;> omega) | decide) (by first | assumption | omega | (unfold maxLen; omega) | (simp [maxLen, -List.getD_eq_getElem?_getD] <;> omega) | decide) (by first | assumption | omega | (unfold maxLen; omega) | (simp [maxLen, -List.getD_eq_getElem?_getD] <;> omega) | decide)) Try.func39 rfl (by decide) [2, 3] [] (l := [(.tmp 25, pv 2 0), (.tmp 26, dv (.int .i64 x))]) [] rfl 2 2 rfl rfl rfl rfl rfl rfl rfl rfl rfl ⟨.inl ⟨rfl, rfl⟩, ⟨.inl ⟨rfl, rfl⟩, trivial⟩⟩ rfl (fun b hb => by cases hb) (.inl rfl) (lt_of rfl) trivial)] (by kernel_rfl) (by kernel_rfl) ?_
  refine nT ?_
  refine T.seq ?_
  by_cases hq1 : (h + (((linksB L).length : Nat) : Int)) = (h + ((L.length : Nat) : Int))
  · by_cases hq2 : (hdL d (linksB L)) = (atB d L L.length)
    · by_cases hq3 : (blkB h (linksB L) x) = (rblk h L x)
      · refine xR [hY 7 (show decide (h = h) = true from decide_eq_true (Eq.refl _)),
          hY 8 (show decide (h = h) = true from decide_eq_true (Eq.refl _)),
          hY 9 (show decide (h = h) = true from decide_eq_true (Eq.refl _)),
          hY 10 (show decide (h = h) = true from decide_eq_true (Eq.refl _)),
          hY 11 (show decide (h = h) = true from decide_eq_true (Eq.refl _)),
          hY 12 (show decide (h = h) = true from decide_eq_true (Eq.refl _)),
          hP 13 (show decide (h = h) = true from decide_eq_true (Eq.refl _)),
          hY 15 (show decide (d = d) = true from decide_eq_true (Eq.refl _)),
          hS 16 (oY rfl rfl rfl rfl (lt_of rfl) (show decide (d = d) = true from decide_eq_true (Eq.refl _)) (r_call (ledger_Height h d (linksB L) (by first | assumption | omega | (unfold maxLen; omega) | (simp [maxLen, -List.getD_eq_getElem?_getD] <;> omega) | decide) (by first | assumption | omega | decide +kernel)) Try.func16 rfl (by decide) [0, 1] [] (l := [(.tmp 45, pv 0 0)]) [] rfl 2 2 rfl rfl rfl rfl rfl rfl rfl rfl rfl ⟨.inl ⟨rfl, rfl⟩, trivial⟩ rfl (fun b hb => by cases hb) (.inl rfl) (lt_of rfl) trivial)),
          hY 17 (show decide (d = d) = true from decide_eq_true (Eq.refl _)),
          hS 18 (oY rfl rfl rfl rfl (lt_of rfl) (show decide (d = d) = true from decide_eq_true (Eq.refl _)) (r_call (ref11_Height h d L (by first | assumption | omega | (unfold maxLen; omega) | (simp [maxLen, -List.getD_eq_getElem?_getD] <;> omega) | decide) (by first | assumption | omega | (unfold maxLen; omega) | (simp [maxLen, -List.getD_eq_getElem?_getD] <;> omega) | decide)) Try.func36 rfl (by decide) [2, 3] [] (l := [(.tmp 47, pv 2 0)]) [] rfl 2 2 rfl rfl rfl rfl rfl rfl rfl rfl rfl ⟨.inl ⟨rfl, rfl⟩, trivial⟩ rfl (fun b hb => by cases hb) (.inl rfl) (lt_of rfl) trivial)),
          hY 19 (show decide (d = d) = true from decide_eq_true (Eq.refl _)),
          hP 20 (show decide (d = d) = true from decide_eq_true (Eq.refl _)),
          hY 22 (decide_eq_true hq1),
          hS 23 (oY rfl rfl rfl rfl (lt_of rfl) (decide_eq_true hq1) (r_call (ledger_Head h d (linksB L) (by first | assumption | omega | (unfold maxLen; omega) | (simp [maxLen, -List.getD_eq_getElem?_getD] <;> omega) | decide) (by first | assumption | omega | decide +kernel)) Try.func17 rfl (by decide) [0, 1] [] (l := [(.tmp 52, pv 0 0)]) [] rfl 2 2 rfl rfl rfl rfl rfl rfl rfl rfl rfl ⟨.inl ⟨rfl, rfl⟩, trivial⟩ rfl (fun b hb => by cases hb) (.inl rfl) (lt_of rfl) trivial)),
          hY 24 (decide_eq_true hq1),
          hS 25 (oY rfl rfl rfl rfl (lt_of rfl) (decide_eq_true hq1) (r_call (ref11_Head h d L (by first | assumption | omega | (unfold maxLen; omega) | (simp [maxLen, -List.getD_eq_getElem?_getD] <;> omega) | decide) (by first | assumption | omega | (unfold maxLen; omega) | (simp [maxLen, -List.getD_eq_getElem?_getD] <;> omega) | decide) (by first | assumption | omega | (unfold maxLen; omega) | (simp [maxLen, -List.getD_eq_getElem?_getD] <;> omega) | decide)) Try.func37 rfl (by decide) [2, 3] [] (l := [(.tmp 54, pv 2 0)]) [] rfl 2 2 rfl rfl rfl rfl rfl rfl rfl rfl rfl ⟨.inl ⟨rfl, rfl⟩, trivial⟩ rfl (fun b hb => by cases hb) (.inl rfl) (lt_of rfl) trivial)),
          hY 26 (decide_eq_true hq1),
          hP 27 (decide_eq_true hq1),
          hY 29 (decide_eq_true hq2),
          hY 30 (decide_eq_true hq2),
          hS 31 (oY rfl rfl rfl rfl (lt_of rfl) (decide_eq_true hq2) (r_call (ref10_Same false false (blkB h (linksB L) x) (rblk h L x) (by first | assumption | omega | (unfold maxLen; omega) | (simp [maxLen, -List.getD_eq_getElem?_getD] <;> omega) | decide) (by first | assumption | omega | (unfold maxLen; omega) | (simp [maxLen, -List.getD_eq_getElem?_getD] <;> omega) | decide)) Try.func20 rfl (by decide) [] [] (l := [(.tmp 59, .tv (.agg [.d (.val (.int .i64 (blkB h (linksB L) x).f_Height)), .d (.val (strV (blkB h (linksB L) x).f_Prev)), .d (dsl false false (k_api_Envelope false) (blkB h (linksB L) x).f_Requests), .d (dsl false false (k_api_Result false) (blkB h (linksB L) x).f_Results)])), (.tmp 60, .tv (.agg [.d (.val (.int .i64 (rblk h L x).f_Height)), .d (.val (strV (rblk h L x).f_Prev)), .d (dsl false false (k_api_Envelope false) (rblk h L x).f_Requests), .d (dsl false false (k_api_Result false) (rblk h L x).f_Results)]))]) [] rfl 0 0 rfl rfl rfl rfl rfl rfl rfl rfl rfl ⟨⟨.inl ⟨rfl, rfl⟩, ⟨.inl ⟨rfl, rfl⟩, ⟨.inl ⟨rfl, rfl⟩, ⟨.inl ⟨rfl, rfl⟩, trivial⟩⟩⟩⟩, ⟨⟨.inl ⟨rfl, rfl⟩, ⟨.inl ⟨rfl, rfl⟩, ⟨.inl ⟨rfl, rfl⟩, ⟨.inl ⟨rfl, rfl⟩, trivial⟩⟩⟩⟩, trivial⟩⟩ rfl (fun b hb => by cases hb) (.inl rfl) (lt_of rfl) trivial)),
          hP 32 (decide_eq_true hq2),
          hY 34 (decide_eq_true hq3),
          hY 35 (decide_eq_true hq3),
          hY 36 (decide_eq_true hq3),
          hP 37 (decide_eq_true hq3)] (by kernel_rfl) (by kernel_rfl) ?_
        refine nT ?_
        refine T.ret ?_
        exact tE (.inl rfl) [.t 6 (.one (.d (.val (.bool (decide ((blkE h (linksB L).length x) = (blkE h L.length x)))))))] ⟨⟨rfl, by kernel_rfl⟩, trivial⟩ [0, 1, 2, 3] (by have e1 : (true : Bool) = (decide ((blkE h (linksB L).length x) = (blkE h L.length x))) := (by first | rfl | exact (decide_eq_true (by rw [links_len])).symm); have hE := congrArg (fun (q1 : Bool) => (dv (.bool q1) : AV)) e1; exact hE) rfl rfl rfl rfl rfl ⟨⟨rfl, (by kernel_rfl)⟩, ⟨⟨rfl, (by kernel_rfl)⟩, ⟨⟨rfl, (by kernel_rfl)⟩, ⟨⟨rfl, (by kernel_rfl)⟩, trivial⟩⟩⟩⟩
      · exact absurd (by first | rfl | (rw [links_len]; done) | exact hd_links .. | exact blk_links .. | (rw [links_len])) hq3
    · exact absurd (by first | rfl | (rw [links_len]; done) | exact hd_links .. | exact blk_links .. | (rw [links_len])) hq2
  · exact absurd (by first | rfl | (rw [links_len]; done) | exact hd_links .. | exact blk_links .. | (rw [links_len])) hq1
end Go.Proofs.Ytdclfhahcfefeaa.Q
namespace Go.Proofs.Ytdclfhahcfefeaa.Q
set_option linter.unusedVariables false
set_option linter.unusedSimpArgs false
set_option maxRecDepth 100000

/-! ### Blocks that are forgotten -/

def cutS (s : LSt) (x : Int) : LSt := ⟨rcutH s.h s.L x, rcutD s.h s.d s.L x, rcutL s.h s.L x⟩
def app1 (s : LSt) (b : api_Block) : LSt := ⟨s.h, s.d, rappL s.h s.d s.L b⟩
theorem okS_cut {k : Nat} {s : LSt} {x : Int} (hs : okS k s) (hk : k ≤ 90) : okS (k + 1) (cutS s x) := by
  have h := okS_step (x := ⟨true, false, x, z_api_Block⟩) hs hk (show fewB z_api_Block by decide)
  obtain ⟨_, _, _, e1, e2, e3⟩ := st_cut (h := s.h) (d := s.d) (L := s.L) (x := ⟨true, false, x, z_api_Block⟩) rfl
  have e : stepS s ⟨true, false, x, z_api_Block⟩ = cutS s x := by unfold stepS cutS; rw [e1, e2, e3]
  rw [← e]; exact h
theorem okS_app {k : Nat} {s : LSt} {b : api_Block} (hs : okS k s) (hk : k ≤ 90) (hb : fewB b) : okS (k + 1) (app1 s b) := by
  have h := okS_step (x := ⟨false, false, 0, b⟩) hs hk hb
  obtain ⟨e1, e2, _, e3⟩ := st_app (h := s.h) (d := s.d) (L := s.L) (x := ⟨false, false, 0, b⟩) (b := b) rfl rfl
  have e : stepS s ⟨false, false, 0, b⟩ = app1 s b := by unfold stepS app1; rw [e1, e2, e3]
  rw [← e]; exact h
def rel2 (a c : LSt) : Prop := a.h + ((a.L.length : Nat) : Int) = c.h + ((c.L.length : Nat) : Int) ∧ atB a.d a.L a.L.length = atB c.d c.L c.L.length
theorem at_drop {d : List UInt8} {L : List api_Block} {n : Nat} (hn : n ≤ L.length) : atB (atB d L n) (L.drop n) (L.drop n).length = atB d L L.length := by
  rw [List.length_drop]
  unfold atB
  by_cases h1 : L.length - n = 0
  · have : n = L.length := by omega
    rw [if_pos h1, this]
  · rw [if_neg h1, if_neg (by omega)]
    rw [List.getD_eq_getElem?_getD, List.getD_eq_getElem?_getD, List.getElem?_drop, show n + (L.length - n - 1) = L.length - 1 by omega]
theorem rel_cut (s : LSt) (x : Int) : rel2 s (cutS s x) := by
  by_cases hr : x < s.h ∨ x > s.h + ((s.L.length : Nat) : Int)
  · obtain ⟨_, r1, r2, r3⟩ := rcut_no (h := s.h) (d := s.d) (L := s.L) hr
    unfold cutS rel2
    simp only []
    rw [r1, r2, r3]
    exact ⟨rfl, rfl⟩
  · obtain ⟨_, r1, r2, r3⟩ := rcut_yes (h := s.h) (d := s.d) (L := s.L) hr
    unfold cutS rel2
    simp only []
    rw [r1, r2, r3]
    exact ⟨by rw [List.length_drop]; omega, (at_drop (by omega)).symm⟩
theorem rel_err {a c : LSt} {b : api_Block} (h : rel2 a c) : rappE a.h a.d a.L b = rappE c.h c.d c.L b := by
  unfold rappE appE
  rw [links_len, links_len, hd_links, hd_links, h.1, h.2]
theorem app1_yes {s : LSt} {b : api_Block} (h : rappE s.h s.d s.L b = 0) : app1 s b = ⟨s.h, s.d, s.L ++ [b]⟩ := by unfold app1 rappL; rw [if_pos h]
theorem app1_no {s : LSt} {b : api_Block} (h : ¬ rappE s.h s.d s.L b = 0) : app1 s b = s := by unfold app1 rappL; rw [if_neg h]
theorem at_snoc (d : List UInt8) (L : List api_Block) (b : api_Block) : atB d (L ++ [b]) (L ++ [b]).length = digB (headB b) := by
  unfold atB
  rw [if_neg (by simp), List.length_append, List.length_singleton, Nat.add_sub_cancel, List.getD_eq_getElem?_getD, List.getElem?_append_right (Nat.le_refl _), Nat.sub_self]
  rfl
theorem rel_app {a c : LSt} {b : api_Block} (h : rel2 a c) : rel2 (app1 a b) (app1 c b) := by
  by_cases he : rappE a.h a.d a.L b = 0
  · rw [app1_yes he, app1_yes ((rel_err h).symm.trans he)]
    refine ⟨?_, ?_⟩
    · show a.h + (((a.L ++ [b]).length : Nat) : Int) = c.h + (((c.L ++ [b]).length : Nat) : Int)
      have := h.1
      rw [List.length_append, List.length_append, List.length_singleton]
      omega
    · show atB a.d (a.L ++ [b]) (a.L ++ [b]).length = atB c.d (c.L ++ [b]) (c.L ++ [b]).length
      rw [at_snoc, at_snoc]
  · rw [app1_no he, app1_no (fun e => he ((rel_err h).trans e))]
    exact h
def actS (s : LSt) (x : Act') : api_Block := actB s.h s.d s.L x
def run2 (s t : LSt) (m : List Act') : Nat → LSt × LSt
  | 0 => (s, t)
  | k + 1 => (app1 (run2 s t m k).1 (actS (run2 s t m k).1 (m.getD k z_quaestorlaw11_Act)), app1 (run2 s t m k).2 (actS (run2 s t m k).1 (m.getD k z_quaestorlaw11_Act)))
theorem actS_few {k : Nat} {s : LSt} {x : Act'} (hs : okS k s) (hk : k ≤ 90) (hx : fewB x.f_Block) : fewB (actS s x) := by
  unfold actS actB
  split
  · exact act_few hx (okS_fact hs hk).2.2.2
  · exact hx
theorem run2_ok {s t : LSt} {j : Nat} {m : List Act'} (hs : okS j s) (ht : okS (j + 1) t) (hr : rel2 s t) (hf : fewA m) : ∀ k, k + j + 1 ≤ 90 → okS (k + j) (run2 s t m k).1 ∧ okS (k + j + 1) (run2 s t m k).2 ∧ rel2 (run2 s t m k).1 (run2 s t m k).2
  | 0, _ => by rw [Nat.zero_add]; exact ⟨hs, ht, hr⟩
  | k + 1, hk => by
    obtain ⟨h1, h2, h3⟩ := run2_ok hs ht hr hf k (by omega)
    have hb := actS_few h1 (by omega) (fewA_get hf k).1
    rw [show k + 1 + j = k + j + 1 by omega]
    exact ⟨okS_app h1 (by omega) hb, okS_app h2 (by omega) hb, rel_app h3⟩
theorem run2_base (s t : LSt) (m : List Act') : ∀ k, (run2 s t m k).2.h = t.h
  | 0 => rfl
  | k + 1 => run2_base s t m k
theorem rel_head {a c : LSt} (h : rel2 a c) : hdL a.d (linksB a.L) = hdL c.d (linksB c.L) := by rw [hd_links, hd_links]; exact h.2
/-- What the second loop leans on. -/
theorem two_fact {l m : List Act'} {x : Int} (hf : fewA l) (hg : fewA m) {k j : Nat} (hk : k ≤ 30) (hj : j ≤ 30) :
    let a := (run2 (runS sNew l k) (cutS (runS sNew l k) x) m j).1
    let c := (run2 (runS sNew l k) (cutS (runS sNew l k) x) m j).2
    ((0 ≤ a.h ∧ a.h ≤ 1099511627776) ∧ a.L.length ≤ 90 ∧ fewLB a.L ∧ (atB a.d a.L a.L.length).length ≤ 10000000) ∧ ((0 ≤ c.h ∧ c.h ≤ 1099511627776) ∧ c.L.length ≤ 90 ∧ fewLB c.L ∧ (atB c.d c.L c.L.length).length ≤ 10000000) ∧ rel2 a c := by
  have h0 := okS_run okS_new hf k (by omega)
  obtain ⟨h1, h2, h3⟩ := run2_ok h0 (okS_cut h0 (by omega)) (rel_cut _ x) hg j (by omega)
  exact ⟨okS_fact h1 (by omega), okS_fact h2 (by omega), h3⟩
theorem lk_app {s : LSt} {b : api_Block} : appL s.h s.d (linksB s.L) b = linksB (app1 s b).L := app_links s.h s.d s.L b
theorem cutE_links (h : Int) (L : List api_Block) (x : Int) : cutE h (linksB L).length x = cutE h L.length x := by rw [links_len]
theorem cut_base {h : Int} {L : List api_Block} {x : Int} (he : cutE h (linksB L).length x = 0) : rcutH h L x = x := by
  rw [links_len] at he
  exact if_pos he
end Go.Proofs.Ytdclfhahcfefeaa.Q
namespace Go.Proofs.Ytdclfhahcfefeaa.Q
set_option linter.unusedVariables false
set_option linter.unusedSimpArgs false
set_option maxRecDepth 100000

/-! ### Two chains -/

abbrev d0 : List UInt8 := ofB 6 ([] : List (List UInt8))
inductive Chn : List api_Block → Prop
  | nil : Chn []
  | snoc {L : List api_Block} {b : api_Block} : Chn L → chkB b = 0 → b.f_Prev = atB d0 L L.length → fewB b → rangeB b → Chn (L ++ [b])
theorem chn_inj {L : List api_Block} (hL : Chn L) : ∀ {M : List api_Block}, Chn M → atB d0 L L.length = atB d0 M M.length → L = M := by
  have zero : ∀ {L : List api_Block} {b : api_Block}, fewB b → atB d0 (L ++ [b]) (L ++ [b]).length = d0 → False := fun {L b} hf h => by
    rw [at_snoc] at h
    have hk := head_few hf
    have := (ofB_inj (s := 5) (t := 6) (m := []) (by rw [sz4, int_len, int_len]; omega) (by decide)).1 h
    exact absurd this.1 (by decide)
  induction hL with
  | nil =>
    intro M hM h
    cases hM with
    | nil => rfl
    | snoc h1 h2 h3 h4 h5 => exact (zero h4 h.symm).elim
  | snoc h1 h2 h3 h4 h5 ih =>
    intro M hM h
    cases hM with
    | nil => exact (zero h4 h).elim
    | snoc g1 g2 g3 g4 g5 =>
      rw [at_snoc, at_snoc] at h
      have e := (apart10 h4 g4 h5 g5 h2 g2).1 h
      subst e
      rw [ih g1 (h3.symm.trans g3)]

def xC (b : api_Block) : Act' := ⟨false, true, 0, b⟩
def runC (l : List api_Block) : Nat → LSt
  | 0 => sNew
  | k + 1 => app1 (runC l k) (actS (runC l k) (xC (l.getD k z_api_Block)))
def okC (l : List api_Block) (k : Nat) : Prop := okS k (runC l k) ∧ (runC l k).h = 0 ∧ (runC l k).d = d0 ∧ Chn (runC l k).L
theorem app_facts {h : Int} {d : List UInt8} {L : List api_Block} {b : api_Block} (he : rappE h d L b = 0) : chkB b = 0 ∧ b.f_Prev = atB d L L.length := by
  unfold rappE appE at he
  split at he
  · rename_i hk0
    split at he
    · split at he
      · rename_i hp
        rw [hd_links] at hp
        exact ⟨hk0, hp⟩
      · cases he
    · cases he
  · rename_i hk0
    exact absurd he hk0
theorem okC_run {l : List api_Block} (hr : ∀ j, rangeB (l.getD j z_api_Block)) : ∀ {k : Nat}, k ≤ 60 → (∀ j, j < k → smallB (l.getD j z_api_Block)) → okC l k
  | 0, _, _ => ⟨okS_new, rfl, rfl, Chn.nil⟩
  | k + 1, hk, hs => by
    obtain ⟨h1, h2, h3, h4⟩ := okC_run (l := l) hr (k := k) (by omega) (fun j hj => hs j (by omega))
    have hb : fewB (actS (runC l k) (xC (l.getD k z_api_Block))) := actS_few (x := xC (l.getD k z_api_Block)) h1 (by omega) (hs k (by omega)).1
    refine ⟨okS_app h1 (by omega) hb, h2, h3, ?_⟩
    by_cases he : rappE (runC l k).h (runC l k).d (runC l k).L (actS (runC l k) (xC (l.getD k z_api_Block))) = 0
    · show Chn (app1 _ _).L
      rw [app1_yes he]
      obtain ⟨c1, c2⟩ := app_facts he
      rw [h3] at c2
      have hh := (chk_all c1).2.2
      exact Chn.snoc h4 c1 c2 hb ⟨⟨by omega, by omega⟩, (hr k).2⟩
    · show Chn (app1 _ _).L
      rw [app1_no he]
      exact h4
theorem okC_fact {l : List api_Block} {k : Nat} (h : okC l k) (hk : k ≤ 60) : (0 ≤ (runC l k).h ∧ (runC l k).h ≤ 1099511627776) ∧ (runC l k).L.length ≤ 90 ∧ fewLB (runC l k).L ∧ (atB (runC l k).d (runC l k).L (runC l k).L.length).length ≤ 10000000 :=
  okS_fact h.1 (by omega)
def alikeL (L M : List api_Block) (k : Nat) : Bool := decide (L.length = M.length ∧ ∀ j, j < k → L.getD j z_api_Block = M.getD j z_api_Block)
theorem alike_0 {L M : List api_Block} {a b : Int} (h : a = ((L.length : Nat) : Int)) (g : b = ((M.length : Nat) : Int)) : alikeL L M 0 = decide (a = b) := by
  unfold alikeL
  rw [decide_eq_decide]
  exact ⟨fun q => by have := q.1; omega, fun q => ⟨by omega, fun j hj => absurd hj (Nat.not_lt_zero _)⟩⟩
theorem alike_t {L M : List api_Block} {k : Nat} {p : Prop} [Decidable p] (h : alikeL L M k = true) (hp : p ↔ L.getD k z_api_Block = M.getD k z_api_Block) : alikeL L M (k + 1) = decide p := by
  have h := of_decide_eq_true h
  unfold alikeL
  rw [decide_eq_decide]
  exact ⟨fun q => hp.2 (q.2 k (by omega)), fun q => ⟨h.1, all_succ h.2 (hp.1 q)⟩⟩
theorem alike_f {L M : List api_Block} {k : Nat} (h : alikeL L M k = false) : alikeL L M (k + 1) = false := by
  have h := of_decide_eq_false h
  exact decide_eq_false fun q => h ⟨q.1, fun j hj => q.2 j (by omega)⟩
theorem blk_at {s : LSt} {k : Nat} (h0 : s.h = 0) (hk : k < s.L.length) : blkB s.h (linksB s.L) ((k + 1 : Nat) : Int) = s.L.getD k z_api_Block ∧ blkE s.h (linksB s.L).length ((k + 1 : Nat) : Int) = 0 := by
  have hi : inL s.h s.L.length ((k + 1 : Nat) : Int) := ⟨by omega, by omega⟩
  refine ⟨?_, ?_⟩
  · rw [blk_links, rblk, if_pos hi, h0, show (((k + 1 : Nat) : Int) - 0 - 1).toNat = k by omega]
  · rw [links_len]; exact if_pos hi
theorem chain_end {l m : List api_Block} {k j n : Nat} (ha : okC l k) (hb : okC m j) (hn : (runC l k).L.length ≤ n ∨ (runC m j).L.length ≤ n) :
    decide (hdL (runC l k).d (linksB (runC l k).L) = hdL (runC m j).d (linksB (runC m j).L)) = alikeL (runC l k).L (runC m j).L n := by
  unfold alikeL
  rw [decide_eq_decide, hd_links, hd_links, ha.2.2.1, hb.2.2.1]
  constructor
  · intro h
    have := chn_inj ha.2.2.2 hb.2.2.2 h
    rw [this]
    exact ⟨rfl, fun _ _ => rfl⟩
  · intro h
    have := rows_eq (z := z_api_Block) (k := n) h.1 (by have := h.1; omega) h.2
    rw [this]

/-! ### Of what is handed in -/

theorem big_of {n : Nat} (h : n ≤ maxLen) : n ≤ 9223372036854775807 := by simp only [maxLen] at h; omega
theorem blk_lens {b : api_Block} (h : ok_api_Block b) : (b.f_Requests.length ≤ 9223372036854775807 ∧ b.f_Results.length ≤ 9223372036854775807) ∧ rangeB b :=
  ⟨⟨big_of h.2.2.1.1, big_of h.2.2.2.1⟩, ⟨wf_i64 h.1, fun e he => wf_i64 (h.2.2.1.2 e he).1, fun r hr => ⟨wf_i64 (h.2.2.2.2 r hr).1, wf_i64 (h.2.2.2.2 r hr).2⟩⟩⟩
theorem z_blk : (z_api_Block.f_Requests.length ≤ 9223372036854775807 ∧ z_api_Block.f_Results.length ≤ 9223372036854775807) ∧ rangeB z_api_Block :=
  ⟨⟨by decide, by decide⟩, ⟨⟨by decide, by decide⟩, fun e he => (by cases he), fun r hr => (by cases hr)⟩⟩
theorem blks_lens {l : List api_Block} (h : ∀ x, x ∈ l → ok_api_Block x) (j : Nat) : ((l.getD j z_api_Block).f_Requests.length ≤ 9223372036854775807 ∧ (l.getD j z_api_Block).f_Results.length ≤ 9223372036854775807) ∧ rangeB (l.getD j z_api_Block) :=
  all_getD (p := fun (b : api_Block) => (b.f_Requests.length ≤ 9223372036854775807 ∧ b.f_Results.length ≤ 9223372036854775807) ∧ rangeB b) (fun x hx => blk_lens (h x hx)) z_blk j
theorem acts_lens {l : List Act'} (h : ∀ x, x ∈ l → ok_quaestorlaw11_Act x) (j : Nat) : (l.getD j z_quaestorlaw11_Act).f_Block.f_Requests.length ≤ 9223372036854775807 ∧ (l.getD j z_quaestorlaw11_Act).f_Block.f_Results.length ≤ 9223372036854775807 :=
  all_getD (p := fun (x : Act') => x.f_Block.f_Requests.length ≤ 9223372036854775807 ∧ x.f_Block.f_Results.length ≤ 9223372036854775807) (fun x hx => (blk_lens (h x hx).2.2.2).1) z_blk.1 j
end Go.Proofs.Ytdclfhahcfefeaa.Q
