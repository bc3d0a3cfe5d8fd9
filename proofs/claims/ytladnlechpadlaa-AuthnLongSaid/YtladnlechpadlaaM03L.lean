import Derived.Test.YtladnlechpadlaaM03
namespace Go.Proofs.Ytladnlechpadlaa.Q
set_option linter.unusedVariables false
set_option linter.unusedSimpArgs false

def fewD (l : List quaestorlaw03_Deed) : Prop := l.length ≤ 100 ∧ ∀ x, x ∈ l → x.f_Body.length ≤ 1000
instance (l : List quaestorlaw03_Deed) : Decidable (fewD l) := inferInstanceAs (Decidable (_ ∧ ∀ x, x ∈ l → x.f_Body.length ≤ 1000))
theorem few_no1 {l : List quaestorlaw03_Deed} (h : ((l.length : Nat) : Int) > 100) : ¬ fewD l := fun h1 => by have := h1.1; omega
theorem few_no2 {l : List quaestorlaw03_Deed} {k : Nat} {z : quaestorlaw03_Deed} (hk : k < l.length) (h : (((l.getD k z).f_Body.length : Nat) : Int) > 1000) : ¬ fewD l := fun h1 => by
  have := h1.2 _ (getD_mem (z := z) hk)
  omega
theorem few_yes {l : List quaestorlaw03_Deed} {k : Nat} {z : quaestorlaw03_Deed} (h0 : ¬ ((l.length : Nat) : Int) > 100) (hk : l.length ≤ k) (h : ∀ j, j < k → (l.getD j z).f_Body.length ≤ 1000) : fewD l := ⟨by omega, fun x hx => by
  obtain ⟨j, hj, rfl⟩ := List.getElem_of_mem hx
  have := h j (by omega)
  rw [List.getD_eq_getElem?_getD, List.getElem?_eq_getElem hj] at this
  exact this⟩
theorem few_get {l : List quaestorlaw03_Deed} (hf : fewD l) (k : Nat) : (l.getD k z_quaestorlaw03_Deed).f_Body.length ≤ 1000 := all_getD hf.2 (by decide) k

def rangeD (l : List quaestorlaw03_Deed) : Prop := ∀ d, d ∈ l → -9223372036854775808 ≤ d.f_Signer ∧ d.f_Signer ≤ 9223372036854775807
theorem range_get {l : List quaestorlaw03_Deed} (h : rangeD l) (k : Nat) : -9223372036854775808 ≤ (l.getD k z_quaestorlaw03_Deed).f_Signer ∧ (l.getD k z_quaestorlaw03_Deed).f_Signer ≤ 9223372036854775807 := all_getD h (by decide) k

/-! ### Deeds, one by one -/

def stepA (f u : Int) (L : List api_Envelope) (d : quaestorlaw03_Deed) : List api_Envelope := if d.f_Ask = true then L else signL f u L d.f_Signer d.f_Body
def runA (f u : Int) (l : List quaestorlaw03_Deed) (k : Nat) : List api_Envelope := (l.take k).foldl (stepA f u) []
theorem runA_ask {f u : Int} {l : List quaestorlaw03_Deed} {k : Nat} (hk : k < l.length) (h : (l.getD k z_quaestorlaw03_Deed).f_Ask = true) : runA f u l (k + 1) = runA f u l k := by
  rw [runA, foldl_succ (z := z_quaestorlaw03_Deed) hk, stepA, if_pos h]; rfl
theorem runA_sign {f u : Int} {l : List quaestorlaw03_Deed} {k : Nat} (hk : k < l.length) (h : (l.getD k z_quaestorlaw03_Deed).f_Ask = false) : runA f u l (k + 1) = signL f u (runA f u l k) (l.getD k z_quaestorlaw03_Deed).f_Signer (l.getD k z_quaestorlaw03_Deed).f_Body := by
  rw [runA, foldl_succ (z := z_quaestorlaw03_Deed) hk, stepA, if_neg (by rw [h]; decide)]; rfl
theorem runA_tab {f u : Int} {l : List quaestorlaw03_Deed} {k : Nat} (hk : k < l.length) (h : (l.getD k z_quaestorlaw03_Deed).f_Ask = false) : tabM (runA f u l (k + 1)) = signT f u (tabM (runA f u l k)) (l.getD k z_quaestorlaw03_Deed).f_Signer (l.getD k z_quaestorlaw03_Deed).f_Body := by
  rw [runA_sign hk h, sign_tab]
theorem runA_len (f u : Int) (l : List quaestorlaw03_Deed) : ∀ k, (runA f u l k).length ≤ k
  | 0 => by simp [runA]
  | k + 1 => by
    have ih := runA_len f u l k
    rcases Nat.lt_or_ge k l.length with hk | hk
    · rw [runA, foldl_succ (z := z_quaestorlaw03_Deed) hk, stepA]
      split
      · exact Nat.le_succ_of_le ih
      · exact Nat.le_trans (signL_len _ _ _ _ _) (Nat.succ_le_succ ih)
    · have : runA f u l (k + 1) = runA f u l k := by rw [runA, runA, List.take_of_length_le (by omega), List.take_of_length_le hk]
      rw [this]; omega

/-! ### Forging -/

def forL (f u : Int) (l : List quaestorlaw03_Deed) (k : Nat) : List api_Envelope := (l.take k).foldl (fun L d => signL f u L d.f_Signer d.f_Body) []
def hitB (f u : Int) (y d : quaestorlaw03_Deed) : Bool := decide (signE f u d.f_Signer d.f_Body = 0 ∧ d.f_Signer = y.f_Signer ∧ d.f_Body = y.f_Body)
def thereB (f u : Int) (l : List quaestorlaw03_Deed) (y : quaestorlaw03_Deed) (k : Nat) : Bool := (l.take k).any (hitB f u y)
theorem forL_tab {f u : Int} {l : List quaestorlaw03_Deed} {k : Nat} (hk : k < l.length) : tabM (forL f u l (k + 1)) = signT f u (tabM (forL f u l k)) (l.getD k z_quaestorlaw03_Deed).f_Signer (l.getD k z_quaestorlaw03_Deed).f_Body := by
  rw [forL, foldl_succ (z := z_quaestorlaw03_Deed) hk, sign_tab]; rfl
theorem there_succ {f u : Int} {l : List quaestorlaw03_Deed} {y : quaestorlaw03_Deed} {k : Nat} (hk : k < l.length) : thereB f u l y (k + 1) = (thereB f u l y k || hitB f u y (l.getD k z_quaestorlaw03_Deed)) := by
  rw [thereB, tk_succ (z := z_quaestorlaw03_Deed) hk, List.any_append]
  simp [thereB]
section
variable {f u : Int} {l : List quaestorlaw03_Deed} {y d : quaestorlaw03_Deed} {k : Nat}
theorem there_t (hk : k < l.length) (h : thereB f u l y k = true) : thereB f u l y (k + 1) = true := by rw [there_succ hk, h]; rfl
theorem there_e (hk : k < l.length) (hd : l.getD k z_quaestorlaw03_Deed = d) (h : thereB f u l y k = false) (h1 : ¬ signE f u d.f_Signer d.f_Body = 0) : thereB f u l y (k + 1) = false := by rw [there_succ hk, h, hd]; simp [hitB, h1]
theorem there_s (hk : k < l.length) (hd : l.getD k z_quaestorlaw03_Deed = d) (h : thereB f u l y k = false) (h1 : ¬ d.f_Signer = y.f_Signer) : thereB f u l y (k + 1) = false := by rw [there_succ hk, h, hd]; simp [hitB, h1]
theorem there_b (hk : k < l.length) (hd : l.getD k z_quaestorlaw03_Deed = d) (h : thereB f u l y k = false) (h1 : signE f u d.f_Signer d.f_Body = 0) (h2 : d.f_Signer = y.f_Signer) : thereB f u l y (k + 1) = decide (d.f_Body = y.f_Body) := by
  have h3 : signE f u y.f_Signer d.f_Body = 0 := h2 ▸ h1
  rw [there_succ hk, h, hd]; simp [hitB, h2, h3]
end
theorem forL_mem (f u : Int) (l : List quaestorlaw03_Deed) (y : quaestorlaw03_Deed) : ∀ k, (⟨y.f_Signer, y.f_Body⟩ : api_Envelope) ∈ forL f u l k ↔ thereB f u l y k = true
  | 0 => by simp [forL, thereB]
  | k + 1 => by
    have ih := forL_mem f u l y k
    rcases Nat.lt_or_ge k l.length with hk | hk
    · rw [there_succ hk, Bool.or_eq_true, ← ih, forL, foldl_succ (z := z_quaestorlaw03_Deed) hk]
      show _ ∈ signL f u (forL f u l k) _ _ ↔ _
      generalize (l.getD k z_quaestorlaw03_Deed) = d
      unfold signL hitB
      split
      · rename_i h0
        unfold putL
        have e : (⟨y.f_Signer, y.f_Body⟩ : api_Envelope) = ⟨d.f_Signer, d.f_Body⟩ ↔ d.f_Signer = y.f_Signer ∧ d.f_Body = y.f_Body := by
          rw [api_Envelope_iff]
          constructor
          · exact fun h => ⟨h.1.symm, h.2.symm⟩
          · exact fun h => ⟨h.1.symm, h.2.symm⟩
        simp only [h0, true_and, decide_eq_true_eq, ← e]
        split
        · rename_i hm
          constructor
          · exact fun h => .inl h
          · intro h
            rcases h with h | h
            · exact h
            · rw [h]; exact hm
        · simp
      · rename_i h0
        simp [h0]
    · have h1 : forL f u l (k + 1) = forL f u l k := by rw [forL, forL, List.take_of_length_le (by omega), List.take_of_length_le hk]
      have h2 : thereB f u l y (k + 1) = thereB f u l y k := by rw [thereB, thereB, List.take_of_length_le (by omega), List.take_of_length_le hk]
      rw [h1, h2]
      exact ih
theorem there_known {f u : Int} {l : List quaestorlaw03_Deed} {y : quaestorlaw03_Deed} {k : Nat} (h : thereB f u l y k = true) : isKnown f u y.f_Signer := by
  unfold thereB at h
  rw [List.any_eq_true] at h
  obtain ⟨d, _, hd⟩ := h
  simp only [hitB, decide_eq_true_eq] at hd
  obtain ⟨h1, h2, _⟩ := hd
  rw [← h2]
  unfold signE at h1
  split at h1
  · assumption
  · cases h1
theorem forge_ok (f u : Int) (l : List quaestorlaw03_Deed) (y : quaestorlaw03_Deed) (k : Nat) : decide (checkE f u (tabM (forL f u l k)) ⟨y.f_Signer, y.f_Body⟩ = 0) = thereB f u l y k := by
  rw [check_tab]
  cases h : thereB f u l y k with
  | true =>
    have h1 := (forL_mem f u l y k).2 h
    simp [checkL, there_known h, h1]
  | false =>
    have h1 : ¬ (⟨y.f_Signer, y.f_Body⟩ : api_Envelope) ∈ forL f u l k := fun hm => by rw [(forL_mem f u l y k).1 hm] at h; cases h
    unfold checkL
    split
    · simp [h1]
    · simp

/-! ### Long bodies -/

section
variable {L : List UInt8}
theorem long_E (h : L.length = 16777217) : signE (fOf 1) (cOf 1) 1 L = 11 := by
  unfold signE
  rw [if_pos (by decide), h, if_pos (by decide)]
theorem long_T (h : L.length = 16777217) (rows : Tab) : signT (fOf 1) (cOf 1) rows 1 L = rows := by
  unfold signT
  rw [long_E h, if_neg (by decide)]
theorem long_E2 (h : L.length = 16777216) : signE (fOf 1) (cOf 1) 1 L = 0 := by
  unfold signE
  rw [if_pos (by decide), h, if_neg (by decide)]
theorem long_T2 (h : L.length = 16777216) : (signT (fOf 1) (cOf 1) [] 1 L).length = 1 := by
  unfold signT
  rw [long_E2 h, if_pos rfl]
  rfl
end
end Go.Proofs.Ytladnlechpadlaa.Q
