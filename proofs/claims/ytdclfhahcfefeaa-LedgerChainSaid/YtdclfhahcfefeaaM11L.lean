import Derived.Test.YtdclfhahcfefeaaC11n13
namespace Go.Proofs.Ytdclfhahcfefeaa.Q
set_option linter.unusedVariables false
set_option linter.unusedSimpArgs false
set_option maxRecDepth 100000

/-! ### Acts, one behind the other -/

structure LSt where
  h : Int
  d : List UInt8
  L : List api_Block
def stepS (s : LSt) (x : Act') : LSt := ⟨stH s.h s.L x, stD s.h s.d s.L x, stL s.h s.d s.L x⟩
def runS (s : LSt) (l : List Act') : Nat → LSt
  | 0 => s
  | k + 1 => stepS (runS s l k) (l.getD k z_quaestorlaw11_Act)
def sNew : LSt := ⟨0, ofB 6 ([] : List (List UInt8)), ([] : List api_Block)⟩
def sFrom (h : Int) (d : List UInt8) : LSt := ⟨h, d, ([] : List api_Block)⟩
def fewA (l : List Act') : Prop := l.length ≤ 30 ∧ ∀ x, x ∈ l → smallB x.f_Block
instance (l : List Act') : Decidable (fewA l) := inferInstanceAs (Decidable (_ ∧ ∀ x, x ∈ l → smallB x.f_Block))
theorem fewA_get {l : List Act'} (h : fewA l) (k : Nat) : smallB (l.getD k z_quaestorlaw11_Act).f_Block := all_getD (p := fun (x : Act') => smallB x.f_Block) h.2 (by decide) k
theorem fewA_no {l : List Act'} {k : Nat} (hk : k < l.length) (h : ¬ smallB (l.getD k z_quaestorlaw11_Act).f_Block) : ¬ fewA l := fun h1 => h (fewA_get h1 k)
theorem fewA_yes {l : List Act'} {k : Nat} (h0 : l.length ≤ 30) (hk : l.length ≤ k) (h : ∀ j, j < k → smallB (l.getD j z_quaestorlaw11_Act).f_Block) : fewA l := ⟨h0, fun x hx => by
  obtain ⟨j, hj, rfl⟩ := List.getElem_of_mem hx
  have := h j (by omega)
  rwa [List.getD_eq_getElem?_getD, List.getElem?_eq_getElem hj] at this⟩

def okBk (m : Nat) (b : api_Block) : Prop := fewG szE 20 500 b.f_Requests ∧ b.f_Results.length ≤ 20 ∧ b.f_Prev.length + 26000 ≤ m
structure okS (k : Nat) (s : LSt) : Prop where
  h0 : 0 ≤ s.h
  h1 : s.h + ((s.L.length : Nat) : Int) ≤ 1099511627776
  len : s.L.length ≤ k
  dl : s.d.length ≤ 5000 + 26000 * k
  bl : ∀ b, b ∈ s.L → okBk (5000 + 26000 * k) b
theorem okBk_few {m : Nat} {b : api_Block} (hm : m ≤ 10000000) (h : okBk m b) : fewB b := ⟨h.1, h.2.1, by have := h.2.2; omega⟩
theorem dig_len {b : api_Block} (h : fewB b) : (digB (headB b)).length ≤ b.f_Prev.length + 26000 := by
  have h2 := few_root (few_leaves h)
  have h3 : (headB b).f_Root.length ≤ 25400 := h2
  have h4 : (headB b).f_Prev = b.f_Prev := rfl
  unfold digB
  rw [ofB_len, sz4, int_len, int_len, h4]
  omega
theorem at_len {k n : Nat} {s : LSt} (hs : okS k s) (hk : k ≤ 90) (hn : n ≤ s.L.length) : (atB s.d s.L n).length ≤ 5000 + 26000 * k := by
  unfold atB
  split
  · exact hs.dl
  · have hb := hs.bl _ (getD_mem (z := z_api_Block) (show n - 1 < s.L.length by omega))
    have h1 := dig_len (okBk_few (by omega) hb)
    have h2 := hb.2.2
    omega
theorem okS_fact {k : Nat} {s : LSt} (hs : okS k s) (hk : k ≤ 90) : (0 ≤ s.h ∧ s.h ≤ 1099511627776) ∧ s.L.length ≤ 90 ∧ fewLB s.L ∧ (atB s.d s.L s.L.length).length ≤ 10000000 := by
  have h0 := hs.h0
  have h1 := hs.h1
  have h2 := hs.len
  refine ⟨⟨h0, by omega⟩, by omega, fun b hb => okBk_few (by omega) (hs.bl b hb), ?_⟩
  have := at_len hs hk (Nat.le_refl _)
  omega
theorem okBk_mono {m n : Nat} {b : api_Block} (h : m ≤ n) (hb : okBk m b) : okBk n b := ⟨hb.1, hb.2.1, by have := hb.2.2; omega⟩
theorem okS_step {k : Nat} {s : LSt} {x : Act'} (hs : okS k s) (hk : k ≤ 90) (hx : fewB x.f_Block) : okS (k + 1) (stepS s x) := by
  have h0 := hs.h0
  have h1 := hs.h1
  have h2 := hs.len
  have h3 := hs.dl
  have hm : ∀ b, b ∈ s.L → okBk (5000 + 26000 * (k + 1)) b := fun b hb => okBk_mono (by omega) (hs.bl b hb)
  by_cases hc : x.f_Cut = true
  · obtain ⟨_, _, _, e1, e2, e3⟩ := st_cut (h := s.h) (d := s.d) (L := s.L) hc
    by_cases hr : x.f_H < s.h ∨ x.f_H > s.h + ((s.L.length : Nat) : Int)
    · obtain ⟨_, r1, r2, r3⟩ := rcut_no (h := s.h) (d := s.d) (L := s.L) hr
      have f1 : (stepS s x).h = s.h := e1.trans r1
      have f2 : (stepS s x).d = s.d := e2.trans r2
      have f3 : (stepS s x).L = s.L := e3.trans r3
      exact ⟨by rw [f1]; exact h0, by rw [f1, f3]; exact h1, by rw [f3]; omega, by rw [f2]; omega, by rw [f3]; exact hm⟩
    · obtain ⟨_, r1, r2, r3⟩ := rcut_yes (h := s.h) (d := s.d) (L := s.L) hr
      have f1 : (stepS s x).h = x.f_H := e1.trans r1
      have f2 : (stepS s x).d = atB s.d s.L (x.f_H - s.h).toNat := e2.trans r2
      have f3 : (stepS s x).L = s.L.drop (x.f_H - s.h).toNat := e3.trans r3
      have hat := at_len hs hk (show (x.f_H - s.h).toNat ≤ s.L.length by omega)
      exact ⟨by rw [f1]; omega, by rw [f1, f3, List.length_drop]; omega, by rw [f3, List.length_drop]; omega, by rw [f2]; omega, by rw [f3]; exact fun b hb => hm b (List.mem_of_mem_drop hb)⟩
  · obtain ⟨e1, e2, _, e3⟩ := st_app (h := s.h) (d := s.d) (L := s.L) (x := x) (Bool.eq_false_iff.2 hc) rfl
    have f1 : (stepS s x).h = s.h := e1
    have f2 : (stepS s x).d = s.d := e2
    have f3 : (stepS s x).L = rappL s.h s.d s.L (actB s.h s.d s.L x) := e3
    by_cases ha : rappE s.h s.d s.L (actB s.h s.d s.L x) = 0
    · have f4 : (stepS s x).L = s.L ++ [actB s.h s.d s.L x] := f3.trans (if_pos ha)
      have ha' := ha
      unfold rappE appE at ha'
      split at ha'
      · rename_i hk0
        split at ha'
        · rename_i hh
          split at ha'
          · rename_i hp
            rw [links_len] at hh
            rw [hd_links] at hp
            have hc4 := (chk_all hk0).2.2
            have hq : (actB s.h s.d s.L x).f_Requests = x.f_Block.f_Requests := by unfold actB; split <;> rfl
            have hq2 : (actB s.h s.d s.L x).f_Results = x.f_Block.f_Results := by unfold actB; split <;> rfl
            have hat := at_len hs hk (Nat.le_refl _)
            refine ⟨by rw [f1]; exact h0, ?_, ?_, by rw [f2]; omega, ?_⟩
            · rw [f1, f4, List.length_append, List.length_singleton]; omega
            · rw [f4, List.length_append, List.length_singleton]; omega
            · rw [f4]
              intro b hb
              rcases List.mem_append.1 hb with hb | hb
              · exact hm b hb
              · obtain rfl := List.mem_singleton.1 hb
                exact ⟨by rw [hq]; exact hx.1, by rw [hq2]; exact hx.2.1, by rw [hp]; omega⟩
          · cases ha'
        · cases ha'
      · rename_i hk0
        exact absurd ha' hk0
    · have f4 : (stepS s x).L = s.L := f3.trans (if_neg ha)
      exact ⟨by rw [f1]; exact h0, by rw [f1, f4]; exact h1, by rw [f4]; omega, by rw [f2]; omega, by rw [f4]; exact hm⟩
theorem okS_new : okS 0 sNew := ⟨by decide, by decide, by decide, by decide, fun b hb => by cases hb⟩
theorem okS_from {h : Int} {d : List UInt8} (h0 : 0 ≤ h ∧ h ≤ 1099511627776) (hd : d.length ≤ 5000) : okS 0 (sFrom h d) := ⟨h0.1, by show h + ((([] : List api_Block).length : Nat) : Int) ≤ _; simp; omega, Nat.le_refl _, by show d.length ≤ _; omega, fun b hb => by cases hb⟩
theorem okS_run {s : LSt} {j : Nat} {l : List Act'} (hs : okS j s) (hf : fewA l) : ∀ k, k + j ≤ 90 → okS (k + j) (runS s l k)
  | 0, _ => by rw [Nat.zero_add]; exact hs
  | k + 1, hk => by
    rw [show k + 1 + j = (k + j) + 1 by omega]
    exact okS_step (okS_run hs hf k (by omega)) (by omega) (fewA_get hf k).1
/-- What a loop's body leans on. -/
theorem run_fact {s : LSt} {l : List Act'} (hs : okS 0 s) (hf : fewA l) {k : Nat} (hk : k ≤ 60) : (0 ≤ (runS s l k).h ∧ (runS s l k).h ≤ 1099511627776) ∧ (runS s l k).L.length ≤ 90 ∧ fewLB (runS s l k).L ∧ (atB (runS s l k).d (runS s l k).L (runS s l k).L.length).length ≤ 10000000 :=
  okS_fact (okS_run hs hf k (by omega)) (by omega)
theorem blk_few {h : Int} {L : List api_Block} {x : Int} (hw : fewLB L) : fewB (blkB h (linksB L) x) := by
  rw [blk_links]
  unfold rblk
  split
  · exact fewLB_get hw _
  · decide
end Go.Proofs.Ytdclfhahcfefeaa.Q
