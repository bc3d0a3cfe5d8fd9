import Derived.Test.YtladnlechpadlaaK03
namespace Go.Proofs.Ytladnlechpadlaa.Q
set_option linter.unusedVariables false
set_option linter.unusedSimpArgs false

/-! ### Rows -/

def i64R (n : Int) : Prop := -9223372036854775808 ≤ n ∧ n ≤ 9223372036854775807
theorem tk_succ {α : Type} {z : α} {l : List α} {k : Nat} (hk : k < l.length) : l.take (k + 1) = l.take k ++ [l.getD k z] := by
  rw [List.take_add_one, List.getD_eq_getElem?_getD, List.getElem?_eq_getElem hk]; rfl
theorem all_succ {P : Nat → Prop} {k : Nat} (h : ∀ j, j < k → P j) (hk : P k) : ∀ j, j < k + 1 → P j := fun j hj => by
  rcases Nat.lt_or_ge j k with h1 | h1
  · exact h j h1
  · obtain rfl : j = k := by omega
    exact hk
theorem rows_eq {α : Type} {a b : List α} {z : α} {k : Nat} (hl : a.length = b.length) (hk : a.length ≤ k) (h : ∀ j, j < k → a.getD j z = b.getD j z) : a = b := by
  apply List.ext_getElem hl
  intro j h1 h2
  have := h j (by omega)
  simpa [List.getD_eq_getElem?_getD, List.getElem?_eq_getElem h1, List.getElem?_eq_getElem h2] using this
theorem getD_mem {α : Type} {l : List α} {z : α} {k : Nat} (hk : k < l.length) : l.getD k z ∈ l := by
  rw [List.getD_eq_getElem?_getD, List.getElem?_eq_getElem hk]
  exact List.getElem_mem hk
theorem mem_get {α : Type} {l : List α} {z e : α} {k : Nat} (hk : k < l.length) (h : l.getD k z = e) : e ∈ l := h ▸ getD_mem hk
theorem not_mem_get {α : Type} {l : List α} {z e : α} {k : Nat} (hk : l.length ≤ k) (h : ∀ j, j < k → ¬ l.getD j z = e) : ¬ e ∈ l := fun hm => by
  obtain ⟨j, hj, rfl⟩ := List.getElem_of_mem hm
  refine h j (by omega) ?_
  rw [List.getD_eq_getElem?_getD, List.getElem?_eq_getElem hj]; rfl
theorem all_getD {α : Type} {p : α → Prop} {l : List α} {z : α} (h : ∀ x, x ∈ l → p x) (hz : p z) (k : Nat) : p (l.getD k z) := by
  rcases Nat.lt_or_ge k l.length with hk | hk
  · exact h _ (getD_mem hk)
  · rw [List.getD_eq_getElem?_getD, List.getElem?_eq_none hk]; exact hz
theorem foldl_succ {α β : Type} {f : β → α → β} {b : β} {z : α} {l : List α} {k : Nat} (hk : k < l.length) : (l.take (k + 1)).foldl f b = f ((l.take k).foldl f b) (l.getD k z) := by
  rw [tk_succ (z := z) hk, List.foldl_append]; rfl

/-! ### Few and small -/

def fewG {α : Type} (sz : α → Nat) (n m : Nat) (l : List α) : Prop := l.length ≤ n ∧ ∀ x, x ∈ l → sz x ≤ m
instance {α : Type} (sz : α → Nat) (n m : Nat) (l : List α) : Decidable (fewG sz n m l) := inferInstanceAs (Decidable (_ ∧ ∀ x, x ∈ l → sz x ≤ m))
section
variable {α : Type} {sz : α → Nat} {n m : Nat} {l : List α} {z : α} {k : Nat}
theorem fewG_no1 {c : Int} (h : ((l.length : Nat) : Int) > c) (hc : c = ((n : Nat) : Int)) : ¬ fewG sz n m l := fun h1 => by have := h1.1; omega
theorem fewG_no2 {c : Int} (hk : k < l.length) (h : ((sz (l.getD k z) : Nat) : Int) > c) (hc : c = ((m : Nat) : Int)) : ¬ fewG sz n m l := fun h1 => by
  have := h1.2 _ (getD_mem (z := z) hk)
  omega
theorem fewG_yes {c : Int} (h0 : ¬ ((l.length : Nat) : Int) > c) (hc : c = ((n : Nat) : Int)) (hk : l.length ≤ k) (h : ∀ j, j < k → sz (l.getD j z) ≤ m) : fewG sz n m l := ⟨by omega, fun x hx => by
  obtain ⟨j, hj, rfl⟩ := List.getElem_of_mem hx
  have := h j (by omega)
  rw [List.getD_eq_getElem?_getD, List.getElem?_eq_getElem hj] at this
  exact this⟩
theorem fewG_get (hf : fewG sz n m l) (hz : sz z ≤ m) (k : Nat) : sz (l.getD k z) ≤ m := all_getD hf.2 hz k
theorem mem_set {x y : α} (h : x ∈ l.set k y) : x ∈ l ∨ x = y := List.mem_or_eq_of_mem_set h
theorem fewG_set {y : α} (hf : fewG sz n m l) (hy : sz y ≤ m) : fewG sz n m (l.set k y) := ⟨by rw [List.length_set]; exact hf.1, fun x hx => by
  rcases mem_set hx with h | h
  · exact hf.2 x h
  · rw [h]; exact hy⟩
end
theorem u8_of {a b : UInt8} (h : ((a.toNat : Nat) : Int) = ((b.toNat : Nat) : Int)) : a = b := UInt8.toNat_inj.1 (by omega)
theorem u8_ne {a b : UInt8} (h : ¬ ((a.toNat : Nat) : Int) = ((b.toNat : Nat) : Int)) : ¬ a = b := fun e => h (by rw [e])
end Go.Proofs.Ytladnlechpadlaa.Q
namespace Go.Proofs.Ytladnlechpadlaa.Q
set_option linter.unusedVariables false
set_option linter.unusedSimpArgs false

/-! ### What an authority answers -/

def fOf (f : Int) : Int := min (max f 0) 2
def cOf (c : Int) : Int := min (max c 0) 8
theorem fOf_ok (f : Int) : 0 ≤ fOf f ∧ fOf f ≤ 2 := by unfold fOf; omega
theorem cOf_ok (f : Int) : 0 ≤ cOf f ∧ cOf f ≤ 8 := by unfold cOf; omega
def isReplica (f s : Int) : Prop := s ≥ 0 ∧ s < 3 * f + 1
def isClient (u s : Int) : Prop := s ≥ 1000 ∧ s - 1000 < u
def isKnown (f u s : Int) : Prop := isReplica f s ∨ isClient u s
instance (f s : Int) : Decidable (isReplica f s) := inferInstanceAs (Decidable (_ ∧ _))
instance (f s : Int) : Decidable (isClient f s) := inferInstanceAs (Decidable (_ ∧ _))
instance (f u s : Int) : Decidable (isKnown f u s) := inferInstanceAs (Decidable (_ ∨ _))
def primaryA (f v : Int) : Int := if v < 0 then 0 else v % (3 * f + 1)
def orgA (u s : Int) : Int := if isClient u s then (s - 1000) % 4 else -1
def signE (f u s : Int) (b : List UInt8) : Int := if isKnown f u s then (if ((b.length : Nat) : Int) > 16777216 then 11 else 0) else 30
def signV (f u s : Int) (b : List UInt8) : api_Envelope := if signE f u s b = 0 then ⟨s, b⟩ else z_api_Envelope
abbrev Tab := List (authn_pair × Bool)
def signT (f u : Int) (rows : Tab) (s : Int) (b : List UInt8) : Tab := if signE f u s b = 0 then mput rows ⟨s, b⟩ true else rows
def checkE (f u : Int) (rows : Tab) (e : api_Envelope) : Int := if isKnown f u e.f_Signer then (if mhas rows ⟨e.f_Signer, e.f_Body⟩ = true then 0 else 31) else 30

theorem signV_len (f u s : Int) (b : List UInt8) : (signV f u s b).f_Body.length ≤ b.length := by
  unfold signV
  split
  · exact Nat.le_refl _
  · exact Nat.zero_le _

/-! ### The document's -/

def putL (l : List api_Envelope) (e : api_Envelope) : List api_Envelope := if e ∈ l then l else l ++ [e]
def signL (f u : Int) (l : List api_Envelope) (s : Int) (b : List UInt8) : List api_Envelope := if signE f u s b = 0 then putL l ⟨s, b⟩ else l
def checkL (f u : Int) (l : List api_Envelope) (e : api_Envelope) : Int := if isKnown f u e.f_Signer then (if e ∈ l then 0 else 31) else 30

def keyE (e : api_Envelope) : authn_pair := ⟨e.f_Signer, e.f_Body⟩
theorem keyE_inj {e e' : api_Envelope} : keyE e = keyE e' ↔ e = e' := by cases e; cases e'; simp [keyE]
def tabM (l : List api_Envelope) : Tab := l.map fun e => (keyE e, true)
theorem tab_len (l : List api_Envelope) : (tabM l).length = l.length := by simp [tabM]
theorem mhas_tab (l : List api_Envelope) (e : api_Envelope) : mhas (tabM l) (keyE e) = decide (e ∈ l) := by
  induction l with
  | nil => simp [tabM, mhas]
  | cons a r ih =>
    simp only [tabM, List.map_cons, mhas, keyE_inj] at ih ⊢
    by_cases h : a = e
    · simp [h]
    · have : (e = a) = False := by simp; exact fun q => h q.symm
      simp only [if_neg h, List.mem_cons, this, false_or]
      exact ih
theorem mput_tab (l : List api_Envelope) (e : api_Envelope) : mput (tabM l) (keyE e) true = tabM (putL l e) := by
  induction l with
  | nil => simp [tabM, mput, putL]
  | cons a r ih =>
    by_cases h : a = e
    · subst h
      simp [tabM, mput, putL, keyE_inj]
    · have h1 : mput (tabM (a :: r)) (keyE e) true = (keyE a, true) :: mput (tabM r) (keyE e) true := by
        simp only [tabM, List.map_cons, mput, keyE_inj, if_neg h]
      rw [h1, ih]
      have h2 : ¬ e = a := fun q => h q.symm
      by_cases h3 : e ∈ r
      · simp [putL, h3, tabM]
      · simp [putL, h3, h2, tabM]
theorem sign_tab (f u : Int) (l : List api_Envelope) (s : Int) (b : List UInt8) : signT f u (tabM l) s b = tabM (signL f u l s b) := by
  unfold signT signL
  split
  · exact mput_tab l ⟨s, b⟩
  · rfl
theorem check_tab (f u : Int) (l : List api_Envelope) (e : api_Envelope) : checkE f u (tabM l) e = checkL f u l e := by
  unfold checkE checkL
  split
  · rw [show (⟨e.f_Signer, e.f_Body⟩ : authn_pair) = keyE e from rfl, mhas_tab]
    simp
  · rfl
theorem putL_len (l : List api_Envelope) (e : api_Envelope) : (putL l e).length ≤ l.length + 1 := by unfold putL; split <;> simp
theorem signL_len (f u : Int) (l : List api_Envelope) (s : Int) (b : List UInt8) : (signL f u l s b).length ≤ l.length + 1 := by
  unfold signL; split
  · exact putL_len _ _
  · omega
end Go.Proofs.Ytladnlechpadlaa.Q
namespace Go.Proofs.Ytladnlechpadlaa.Q
set_option linter.unusedVariables false
set_option linter.unusedSimpArgs false

def fewD (l : List quaestorlaw03_Deed) : Prop := l.length ≤ 100 ∧ ∀ x, x ∈ l → x.f_Body.length ≤ 1000
instance (l : List quaestorlaw03_Deed) : Decidable (fewD l) := inferInstanceAs (Decidable (_ ∧ ∀ x, x ∈ l → x.f_Body.length ≤ 1000))
theorem few_no1 {l : List quaestorlaw03_Deed} (h : ((l.length : Nat) : Int) > 100) : ¬ fewD l := fun h1 => by have := h1.1; omega
theorem few_no2 {l : List quaestorlaw03_Deed} {k : Nat} {z : quaestorlaw03_Deed} (hk : k < l.length) (h : (((l.getD k z).f_Body.length : Nat) : Int) > 1000) : ¬ fewD l := fun h1 => by
  have := h1.2 _ (getD_mem (z := z) hk)
  omega
theorem few_yes {l : List quaestorlaw03_Deed} {k : Nat} {z : quaestorlaw03_Deed} (h0 : ¬ ((l.length : Nat) : Int) > 100) (hk : l.length ≤ k) (h : ∀ j, j < k → (l.getD j z).f_Body.length ≤ 1000) : fewD l := ⟨by omega, fun x hx => by
  obtain ⟨j, hj, rfl⟩ := List.getElem_of_mem hx
  have := h j (by omega)
  rw [List.getD_eq_getElem?_getD, List.getElem?_eq_getElem hj] at this
  exact this⟩
theorem few_get {l : List quaestorlaw03_Deed} (hf : fewD l) (k : Nat) : (l.getD k z_quaestorlaw03_Deed).f_Body.length ≤ 1000 := all_getD hf.2 (by decide) k

def rangeD (l : List quaestorlaw03_Deed) : Prop := ∀ d, d ∈ l → -9223372036854775808 ≤ d.f_Signer ∧ d.f_Signer ≤ 9223372036854775807
theorem range_get {l : List quaestorlaw03_Deed} (h : rangeD l) (k : Nat) : -9223372036854775808 ≤ (l.getD k z_quaestorlaw03_Deed).f_Signer ∧ (l.getD k z_quaestorlaw03_Deed).f_Signer ≤ 9223372036854775807 := all_getD h (by decide) k

/-! ### Deeds, one by one -/

def stepA (f u : Int) (L : List api_Envelope) (d : quaestorlaw03_Deed) : List api_Envelope := if d.f_Ask = true then L else signL f u L d.f_Signer d.f_Body
def runA (f u : Int) (l : List quaestorlaw03_Deed) (k : Nat) : List api_Envelope := (l.take k).foldl (stepA f u) []
theorem runA_ask {f u : Int} {l : List quaestorlaw03_Deed} {k : Nat} (hk : k < l.length) (h : (l.getD k z_quaestorlaw03_Deed).f_Ask = true) : runA f u l (k + 1) = runA f u l k := by
  rw [runA, foldl_succ (z := z_quaestorlaw03_Deed) hk, stepA, if_pos h]; rfl
theorem runA_sign {f u : Int} {l : List quaestorlaw03_Deed} {k : Nat} (hk : k < l.length) (h : (l.getD k z_quaestorlaw03_Deed).f_Ask = false) : runA f u l (k + 1) = signL f u (runA f u l k) (l.getD k z_quaestorlaw03_Deed).f_Signer (l.getD k z_quaestorlaw03_Deed).f_Body := by
  rw [runA, foldl_succ (z := z_quaestorlaw03_Deed) hk, stepA, if_neg (by rw [h]; decide)]; rfl
theorem runA_tab {f u : Int} {l : List quaestorlaw03_Deed} {k : Nat} (hk : k < l.length) (h : (l.getD k z_quaestorlaw03_Deed).f_Ask = false) : tabM (runA f u l (k + 1)) = signT f u (tabM (runA f u l k)) (l.getD k z_quaestorlaw03_Deed).f_Signer (l.getD k z_quaestorlaw03_Deed).f_Body := by
  rw [runA_sign hk h, sign_tab]
theorem runA_len (f u : Int) (l : List quaestorlaw03_Deed) : ∀ k, (runA f u l k).length ≤ k
  | 0 => by simp [runA]
  | k + 1 => by
    have ih := runA_len f u l k
    rcases Nat.lt_or_ge k l.length with hk | hk
    · rw [runA, foldl_succ (z := z_quaestorlaw03_Deed) hk, stepA]
      split
      · exact Nat.le_succ_of_le ih
      · exact Nat.le_trans (signL_len _ _ _ _ _) (Nat.succ_le_succ ih)
    · have : runA f u l (k + 1) = runA f u l k := by rw [runA, runA, List.take_of_length_le (by omega), List.take_of_length_le hk]
      rw [this]; omega

/-! ### Forging -/

def forL (f u : Int) (l : List quaestorlaw03_Deed) (k : Nat) : List api_Envelope := (l.take k).foldl (fun L d => signL f u L d.f_Signer d.f_Body) []
def hitB (f u : Int) (y d : quaestorlaw03_Deed) : Bool := decide (signE f u d.f_Signer d.f_Body = 0 ∧ d.f_Signer = y.f_Signer ∧ d.f_Body = y.f_Body)
def thereB (f u : Int) (l : List quaestorlaw03_Deed) (y : quaestorlaw03_Deed) (k : Nat) : Bool := (l.take k).any (hitB f u y)
theorem forL_tab {f u : Int} {l : List quaestorlaw03_Deed} {k : Nat} (hk : k < l.length) : tabM (forL f u l (k + 1)) = signT f u (tabM (forL f u l k)) (l.getD k z_quaestorlaw03_Deed).f_Signer (l.getD k z_quaestorlaw03_Deed).f_Body := by
  rw [forL, foldl_succ (z := z_quaestorlaw03_Deed) hk, sign_tab]; rfl
theorem there_succ {f u : Int} {l : List quaestorlaw03_Deed} {y : quaestorlaw03_Deed} {k : Nat} (hk : k < l.length) : thereB f u l y (k + 1) = (thereB f u l y k || hitB f u y (l.getD k z_quaestorlaw03_Deed)) := by
  rw [thereB, tk_succ (z := z_quaestorlaw03_Deed) hk, List.any_append]
  simp [thereB]
section
variable {f u : Int} {l : List quaestorlaw03_Deed} {y d : quaestorlaw03_Deed} {k : Nat}
theorem there_t (hk : k < l.length) (h : thereB f u l y k = true) : thereB f u l y (k + 1) = true := by rw [there_succ hk, h]; rfl
theorem there_e (hk : k < l.length) (hd : l.getD k z_quaestorlaw03_Deed = d) (h : thereB f u l y k = false) (h1 : ¬ signE f u d.f_Signer d.f_Body = 0) : thereB f u l y (k + 1) = false := by rw [there_succ hk, h, hd]; simp [hitB, h1]
theorem there_s (hk : k < l.length) (hd : l.getD k z_quaestorlaw03_Deed = d) (h : thereB f u l y k = false) (h1 : ¬ d.f_Signer = y.f_Signer) : thereB f u l y (k + 1) = false := by rw [there_succ hk, h, hd]; simp [hitB, h1]
theorem there_b (hk : k < l.length) (hd : l.getD k z_quaestorlaw03_Deed = d) (h : thereB f u l y k = false) (h1 : signE f u d.f_Signer d.f_Body = 0) (h2 : d.f_Signer = y.f_Signer) : thereB f u l y (k + 1) = decide (d.f_Body = y.f_Body) := by
  have h3 : signE f u y.f_Signer d.f_Body = 0 := h2 ▸ h1
  rw [there_succ hk, h, hd]; simp [hitB, h2, h3]
end
theorem forL_mem (f u : Int) (l : List quaestorlaw03_Deed) (y : quaestorlaw03_Deed) : ∀ k, (⟨y.f_Signer, y.f_Body⟩ : api_Envelope) ∈ forL f u l k ↔ thereB f u l y k = true
  | 0 => by simp [forL, thereB]
  | k + 1 => by
    have ih := forL_mem f u l y k
    rcases Nat.lt_or_ge k l.length with hk | hk
    · rw [there_succ hk, Bool.or_eq_true, ← ih, forL, foldl_succ (z := z_quaestorlaw03_Deed) hk]
      show _ ∈ signL f u (forL f u l k) _ _ ↔ _
      generalize (l.getD k z_quaestorlaw03_Deed) = d
      unfold signL hitB
      split
      · rename_i h0
        unfold putL
        have e : (⟨y.f_Signer, y.f_Body⟩ : api_Envelope) = ⟨d.f_Signer, d.f_Body⟩ ↔ d.f_Signer = y.f_Signer ∧ d.f_Body = y.f_Body := by
          rw [api_Envelope_iff]
          constructor
          · exact fun h => ⟨h.1.symm, h.2.symm⟩
          · exact fun h => ⟨h.1.symm, h.2.symm⟩
        simp only [h0, true_and, decide_eq_true_eq, ← e]
        split
        · rename_i hm
          constructor
          · exact fun h => .inl h
          · intro h
            rcases h with h | h
            · exact h
            · rw [h]; exact hm
        · simp
      · rename_i h0
        simp [h0]
    · have h1 : forL f u l (k + 1) = forL f u l k := by rw [forL, forL, List.take_of_length_le (by omega), List.take_of_length_le hk]
      have h2 : thereB f u l y (k + 1) = thereB f u l y k := by rw [thereB, thereB, List.take_of_length_le (by omega), List.take_of_length_le hk]
      rw [h1, h2]
      exact ih
theorem there_known {f u : Int} {l : List quaestorlaw03_Deed} {y : quaestorlaw03_Deed} {k : Nat} (h : thereB f u l y k = true) : isKnown f u y.f_Signer := by
  unfold thereB at h
  rw [List.any_eq_true] at h
  obtain ⟨d, _, hd⟩ := h
  simp only [hitB, decide_eq_true_eq] at hd
  obtain ⟨h1, h2, _⟩ := hd
  rw [← h2]
  unfold signE at h1
  split at h1
  · assumption
  · cases h1
theorem forge_ok (f u : Int) (l : List quaestorlaw03_Deed) (y : quaestorlaw03_Deed) (k : Nat) : decide (checkE f u (tabM (forL f u l k)) ⟨y.f_Signer, y.f_Body⟩ = 0) = thereB f u l y k := by
  rw [check_tab]
  cases h : thereB f u l y k with
  | true =>
    have h1 := (forL_mem f u l y k).2 h
    simp [checkL, there_known h, h1]
  | false =>
    have h1 : ¬ (⟨y.f_Signer, y.f_Body⟩ : api_Envelope) ∈ forL f u l k := fun hm => by rw [(forL_mem f u l y k).1 hm] at h; cases h
    unfold checkL
    split
    · simp [h1]
    · simp

/-! ### Long bodies -/

section
variable {L : List UInt8}
theorem long_E (h : L.length = 16777217) : signE (fOf 1) (cOf 1) 1 L = 11 := by
  unfold signE
  rw [if_pos (by decide), h, if_pos (by decide)]
theorem long_T (h : L.length = 16777217) (rows : Tab) : signT (fOf 1) (cOf 1) rows 1 L = rows := by
  unfold signT
  rw [long_E h, if_neg (by decide)]
theorem long_E2 (h : L.length = 16777216) : signE (fOf 1) (cOf 1) 1 L = 0 := by
  unfold signE
  rw [if_pos (by decide), h, if_neg (by decide)]
theorem long_T2 (h : L.length = 16777216) : (signT (fOf 1) (cOf 1) [] 1 L).length = 1 := by
  unfold signT
  rw [long_E2 h, if_pos rfl]
  rfl
end
end Go.Proofs.Ytladnlechpadlaa.Q
namespace Go.Proofs.Ytladnlechpadlaa.Q
open Go Go.RowKit
set_option linter.unusedVariables false
set_option linter.unusedSimpArgs false
set_option maxRecDepth 100000
set_option maxHeartbeats 4000000
-- quaestor/quaestorref01.Same
theorem ref01_Same (ta : Bool) (na : Bool) (tb : Bool) (nb : Bool) (a : List UInt8) (b : List UInt8) : Holds Try.prog 13 ⟨[slV ta na kU8 a, slV tb nb kU8 b], [], dv (.bool (decide (a = b))), []⟩ := by
 refine Holds.of Try.func13 rfl (N := 10) Try.ntmps13 rfl fun w0 B0 S0 U0 => ?_
 show T _ (mkBase 10 0 w0 S0 U0 B0) ⟨[slV ta na kU8 a, slV tb nb kU8 b], []⟩ _ _
 refine T.seq ?_
 refine xR [] (by kernel_rfl) (by kernel_rfl) ?_
 refine nT ?_
 refine T.seq ?_
 refine xR [hR 1 rfl rfl (q_strOf () a (ys := (.d (dsl ta na kU8 a))) (rhs := []) Try.underlying25 Try.underlying5 Try.underlying9 (src_sl ta na kU8 a) (lt_of rfl) trivial),
   hR 3 rfl rfl (q_strOf () b (ys := (.d (dsl tb nb kU8 b))) (rhs := []) Try.underlying25 Try.underlying5 Try.underlying9 (src_sl tb nb kU8 b) (lt_of rfl) trivial)] (by kernel_rfl) (by kernel_rfl) ?_
 refine nT ?_
 refine T.ret ?_
 exact tE (.inl rfl) [.t 4 (.one (.d (.val (.bool (decide (a = b))))))] ⟨⟨rfl, by kernel_rfl⟩, trivial⟩ [] rfl rfl rfl rfl rfl rfl trivial
end Go.Proofs.Ytladnlechpadlaa.Q
namespace Go.Proofs.Ytladnlechpadlaa.Q
open Go Go.RowKit
set_option linter.unusedVariables false
set_option linter.unusedSimpArgs false
set_option maxRecDepth 100000
set_option maxHeartbeats 4000000
theorem iat_5 : Try.prog.info? 5 = some Try.t5 := by kernel_rfl
theorem zero_5 : Zero Try.prog 5 [.int .u8 0] := ⟨_, _, iat_5, rfl, rfl⟩
theorem elem_25 : Elem Try.prog 25 5 1 1 := ⟨Try.underlying25, _, _, iat_5, rfl, rfl, rfl, rfl, by decide⟩
-- slices.Clone[[]byte,byte]
theorem clone_u8 (ta : Bool) (na : Bool) (a : List UInt8) (hp : a.length ≤ 140737488355328) : Holds Try.prog 32 ⟨[slV ta na kU8 a], [], ownV 0 kU8 0 a.length, [.live (arrK 5 kU8 a)]⟩ := by
 refine Holds.of Try.func32 rfl (N := 8) Try.ntmps32 rfl fun w0 B0 S0 U0 => ?_
 show T _ (mkBase 8 0 w0 S0 U0 B0) ⟨[slV ta na kU8 a], []⟩ _ _
 cases na
 ·refine T.nilOr (k := 0) rfl (fun h0 => ?_) ?_
  ·have h0 := List.eq_nil_of_length_eq_zero h0
   subst h0
   show T _ _ ⟨[dv (.slice none 0 0)], []⟩ _ _
   refine T.seq ?_
   refine xR [] (by kernel_rfl) (by kernel_rfl) ?_
   refine nT ?_
   refine T.seq ?_
   refine T.seq ?_
   refine xR [hR 1 rfl rfl (r_bin (u1 := .slice none 0 0) (u2 := .slice none 0 0) (v := .bool true) (b_eqlNilS Try.underlying25) (lt_of rfl) ⟨rfl, trivial⟩)] (by kernel_rfl) (by kernel_rfl) ?_
   refine nT ?_
   refine T.condT (b := true) (by kernel_rfl) rfl ?_
   refine T.seq ?_
   refine xR [] (by kernel_rfl) (by kernel_rfl) ?_
   refine nT ?_
   refine T.ret ?_
   refine rT ?_
   refine Ends.turn (s' := ⟨[dv (.slice none 0 0), aa, dv (.slice none 0 0), aa, dv (.bool true)], []⟩) (fun _ _ hG => Gs.norm (by kernel_rfl) hG) ?_
   refine Ends.turn (s' := ⟨[dv (.slice none 0 0), aa, ownV 0 kU8 0 0, aa, dv (.bool true)], [.live (arrK 5 kU8 ([] : List UInt8))]⟩) (fun _ _ hG => Gs.absent 0 2 5 kU8 rfl rfl hG) ?_
   exact tE (.inl rfl) [.t 2 (.one (.own 0 kU8.sz 0 0))] ⟨⟨rfl, by kernel_rfl⟩, trivial⟩ [0] (by have e1 : (([] : List UInt8).length : Nat) = 0 := (by rfl); have hE := congrArg (fun (q1 : Nat) => (ownV 0 kU8 0 q1 : AV)) e1; exact hE) rfl rfl rfl rfl rfl ⟨⟨rfl, (by kernel_rfl)⟩, trivial⟩
  ·show T _ _ ⟨[slV ta true kU8 a], []⟩ _ _
   refine T.seq ?_
   refine xR [] (by kernel_rfl) (by kernel_rfl) ?_
   refine nT ?_
   refine T.seq ?_
   refine T.seq ?_
   refine xR [hR 1 rfl rfl (r_eqNil (s := .d (dsl ta true kU8 a)) Try.underlying25 (.inl rfl) (lt_of rfl) ⟨rfl, trivial⟩)] (by kernel_rfl) (by kernel_rfl) ?_
   refine nT ?_
   refine T.condF (b := false) (by kernel_rfl) rfl ?_
   refine T.skip ?_
   refine nT ?_
   refine T.seq ?_
   refine xR [hR 0 rfl rfl (q_buildSlice 0 5 kU8 kU8_ok ([] : List UInt8) [] (cs := []) Try.underlying25 iat_5 rfl zero_5 rfl rfl rfl (Nat.le_of_ble_eq_true rfl) part_ok (by kernel_rfl) (wk_eq (by kernel_rfl)) (lt_of rfl) trivial),
     hR 2 rfl rfl (q_appendO 0 1 5 1 kU8 kU8_ok ([] : List UInt8) a a ([] : List UInt8).length (sy := (.d (dsl ta true kU8 a))) (rhs := []) elem_25 (by omega) (src_sl ta true kU8 a) (by simp) (by (simp [maxLen, -List.getD_eq_getElem?_getD] <;> omega)) (by (simp [maxLen, -List.getD_eq_getElem?_getD] <;> omega)) (lt_of rfl) trivial)] (by kernel_rfl) (by kernel_rfl) ?_
   refine nT ?_
   refine T.ret ?_
   exact tE (.inl rfl) [.t 2 (.one (.own 1 kU8.sz 0 a.length))] ⟨⟨rfl, by kernel_rfl⟩, trivial⟩ [1] rfl rfl rfl rfl rfl rfl ⟨⟨rfl, (by kernel_rfl)⟩, trivial⟩
 ·refine T.seq ?_
  refine xR [] (by kernel_rfl) (by kernel_rfl) ?_
  refine nT ?_
  refine T.seq ?_
  refine T.seq ?_
  refine xR [hR 1 rfl rfl (r_eqNil (s := .d (dsl ta true kU8 a)) Try.underlying25 (.inl rfl) (lt_of rfl) ⟨rfl, trivial⟩)] (by kernel_rfl) (by kernel_rfl) ?_
  refine nT ?_
  refine T.condF (b := false) (by kernel_rfl) rfl ?_
  refine T.skip ?_
  refine nT ?_
  refine T.seq ?_
  refine xR [hR 0 rfl rfl (q_buildSlice 0 5 kU8 kU8_ok ([] : List UInt8) [] (cs := []) Try.underlying25 iat_5 rfl zero_5 rfl rfl rfl (Nat.le_of_ble_eq_true rfl) part_ok (by kernel_rfl) (wk_eq (by kernel_rfl)) (lt_of rfl) trivial),
    hR 2 rfl rfl (q_appendO 0 1 5 1 kU8 kU8_ok ([] : List UInt8) a a ([] : List UInt8).length (sy := (.d (dsl ta true kU8 a))) (rhs := []) elem_25 (by omega) (src_sl ta true kU8 a) (by simp) (by (simp [maxLen, -List.getD_eq_getElem?_getD] <;> omega)) (by (simp [maxLen, -List.getD_eq_getElem?_getD] <;> omega)) (lt_of rfl) trivial)] (by kernel_rfl) (by kernel_rfl) ?_
  refine nT ?_
  refine T.ret ?_
  exact tE (.inl rfl) [.t 2 (.one (.own 1 kU8.sz 0 a.length))] ⟨⟨rfl, by kernel_rfl⟩, trivial⟩ [1] rfl rfl rfl rfl rfl rfl ⟨⟨rfl, (by kernel_rfl)⟩, trivial⟩
end Go.Proofs.Ytladnlechpadlaa.Q
namespace Go.Proofs.Ytladnlechpadlaa.Q
open Go Go.RowKit
set_option linter.unusedVariables false
set_option linter.unusedSimpArgs false
set_option maxRecDepth 100000
set_option maxHeartbeats 4000000
theorem iat_58 : Try.prog.info? 58 = some Try.t58 := by kernel_rfl
theorem zero_58 : Zero Try.prog 58 [.int .i64 0, .int .i64 0, .map none] := ⟨_, _, iat_58, rfl, rfl⟩
theorem iat_3 : Try.prog.info? 3 = some Try.t3 := by kernel_rfl
theorem iat_56 : Try.prog.info? 56 = some Try.t56 := by kernel_rfl
theorem places_58 : Places Try.prog 58 [(0, 1), (1, 1), (2, 1)] := ⟨_, Try.underlying58, ⟨⟨rfl, _, iat_3, rfl⟩, ⟨⟨rfl, _, iat_3, rfl⟩, ⟨⟨rfl, _, iat_56, rfl⟩, trivial⟩⟩⟩⟩
-- quaestor/authn.New
theorem authn_New (f : Int) (u : Int) : Holds Try.prog 11 ⟨[dv (.int .i64 f), dv (.int .i64 u)], [], pv 0 0, [.live (.box 58 [.d (.val (.int .i64 (3 * (fOf f) + 1))), .d (.val (.int .i64 (cOf u))), .mref 1]), .live (mpK f_authn_pair kBool ([] : List (authn_pair × Bool)))]⟩ := by
 refine Holds.of Try.func11 rfl (N := 16) Try.ntmps11 rfl fun w0 B0 S0 U0 => ?_
 show T _ (mkBase 16 0 w0 S0 U0 B0) ⟨[dv (.int .i64 f), dv (.int .i64 u)], []⟩ _ _
 refine T.seq ?_
 refine xR [] (by kernel_rfl) (by kernel_rfl) ?_
 refine nT ?_
 refine T.seq ?_
 refine xR [hR 1 rfl rfl (r_max (k := .i64) (a := f) (b := 0) (lt_of rfl) ⟨rfl, trivial⟩),
   hR 2 rfl rfl (r_min (k := .i64) (a := max f 0) (b := 2) (lt_of rfl) ⟨rfl, trivial⟩),
   hR 3 rfl rfl (r_bin (u1 := .int .i64 3) (u2 := .int .i64 (min (max f 0) 2)) (v := .int .i64 (3 * (min (max f 0) 2))) (b_mul (by rw [IntKind.wrap_i64]; omega)) (lt_of rfl) ⟨rfl, trivial⟩),
   hR 4 rfl rfl (r_bin (u1 := .int .i64 (3 * (min (max f 0) 2))) (u2 := .int .i64 1) (v := .int .i64 ((3 * (min (max f 0) 2)) + 1)) (b_add (by rw [IntKind.wrap_i64]; omega)) (lt_of rfl) ⟨rfl, trivial⟩),
   hR 6 rfl rfl (r_max (k := .i64) (a := u) (b := 0) (lt_of rfl) ⟨rfl, trivial⟩),
   hR 7 rfl rfl (r_min (k := .i64) (a := max u 0) (b := 8) (lt_of rfl) ⟨rfl, trivial⟩),
   hR 8 rfl rfl (r_makeMap 0 f_authn_pair kBool (lt_of rfl))] (by kernel_rfl) (by kernel_rfl) ?_
 refine nT ?_
 refine T.ret ?_
 exact tE (.inl rfl) [.t 4 (.one (.ptr 1 0))] ⟨⟨rfl, by kernel_rfl⟩, trivial⟩ [1, 0] rfl rfl rfl rfl rfl rfl ⟨⟨rfl, (by have e1 : ((3 * (min (max f 0) 2)) + 1 : Int) = 3 * (fOf f) + 1 := (by rfl); have e2 : (min (max u 0) 8 : Int) = (cOf u) := (by rfl); have hE := congr (congrArg (fun (q1 : Int) (q2 : Int) => (.live (.box 58 [.d (.val (.int .i64 q1)), .d (.val (.int .i64 q2)), .mref 0]) : HS)) e1) e2; exact Eq.trans (by kernel_rfl) hE)⟩, ⟨⟨rfl, (by kernel_rfl)⟩, trivial⟩⟩
end Go.Proofs.Ytladnlechpadlaa.Q
namespace Go.Proofs.Ytladnlechpadlaa.Q
open Go Go.RowKit
set_option linter.unusedVariables false
set_option linter.unusedSimpArgs false
set_option maxRecDepth 100000
set_option maxHeartbeats 4000000
theorem fld_58_0 : FieldAt Try.prog 58 0 0 := ⟨_, _, _, Try.underlying58, rfl, iat_3, by decide, rfl⟩
theorem wide_3 : Wide Try.prog 3 none := ⟨_, Try.underlying3, (fun _ h => by cases h), (fun _ _ h => by cases h)⟩
-- (*quaestor/authn.Authority).N
theorem authn_N (f : Int) (u : Int) (rows : List (authn_pair × Bool)) (hf : 0 ≤ f ∧ f ≤ 2) (hu : 0 ≤ u ∧ u ≤ 8) : Holds Try.prog 26 ⟨[pv 0 0], [.box 58 [.d (.val (.int .i64 (3 * f + 1))), .d (.val (.int .i64 u)), .mref 1], mpK f_authn_pair kBool rows], dv (.int .i64 (3 * f + 1)), [.live (.box 58 [.d (.val (.int .i64 (3 * f + 1))), .d (.val (.int .i64 u)), .mref 1]), .live (mpK f_authn_pair kBool rows)]⟩ := by
 refine Holds.of Try.func26 rfl (N := 9) Try.ntmps26 rfl fun w0 B0 S0 U0 => ?_
 show T _ (mkBase 9 2 w0 S0 U0 B0) ⟨[pv 0 0], [.live (.box 58 [.d (.val (.int .i64 (3 * f + 1))), .d (.val (.int .i64 u)), .mref 1]), .live (mpK f_authn_pair kBool rows)]⟩ _ _
 refine T.seq ?_
 refine xR [] (by kernel_rfl) (by kernel_rfl) ?_
 refine nT ?_
 refine T.seq ?_
 refine T.seq ?_
 refine xR [] (by kernel_rfl) (by kernel_rfl) ?_
 refine nT ?_
 refine T.condF (b := false) (by kernel_rfl) rfl ?_
 refine T.skip ?_
 refine nT ?_
 refine T.seq ?_
 refine xR [] (by kernel_rfl) (by kernel_rfl) ?_
 refine nT ?_
 refine T.ret ?_
 exact tE (.inl rfl) [.t 2 (.one (.d (.val (.int .i64 (3 * f + 1)))))] ⟨⟨rfl, by kernel_rfl⟩, trivial⟩ [0, 1] rfl rfl rfl rfl rfl rfl ⟨⟨rfl, (by kernel_rfl)⟩, ⟨⟨rfl, (by kernel_rfl)⟩, trivial⟩⟩
end Go.Proofs.Ytladnlechpadlaa.Q
namespace Go.Proofs.Ytladnlechpadlaa.Q
open Go Go.RowKit
set_option linter.unusedVariables false
set_option linter.unusedSimpArgs false
set_option maxRecDepth 100000
set_option maxHeartbeats 4000000
-- (*quaestor/authn.Authority).F
theorem authn_F (f : Int) (u : Int) (rows : List (authn_pair × Bool)) (hf : 0 ≤ f ∧ f ≤ 2) (hu : 0 ≤ u ∧ u ≤ 8) : Holds Try.prog 24 ⟨[pv 0 0], [.box 58 [.d (.val (.int .i64 (3 * f + 1))), .d (.val (.int .i64 u)), .mref 1], mpK f_authn_pair kBool rows], dv (.int .i64 f), [.live (.box 58 [.d (.val (.int .i64 (3 * f + 1))), .d (.val (.int .i64 u)), .mref 1]), .live (mpK f_authn_pair kBool rows)]⟩ := by
 refine Holds.of Try.func24 rfl (N := 6) Try.ntmps24 rfl fun w0 B0 S0 U0 => ?_
 show T _ (mkBase 6 2 w0 S0 U0 B0) ⟨[pv 0 0], [.live (.box 58 [.d (.val (.int .i64 (3 * f + 1))), .d (.val (.int .i64 u)), .mref 1]), .live (mpK f_authn_pair kBool rows)]⟩ _ _
 refine T.seq ?_
 refine xR [] (by kernel_rfl) (by kernel_rfl) ?_
 refine nT ?_
 refine T.seq ?_
 refine xR [hR 1 rfl rfl (r_call (authn_N f u rows (by assumption) (by assumption)) Try.func26 rfl (by decide) [0, 1] [] (l := [(.tmp 3, pv 0 0)]) [] rfl 2 2 rfl rfl rfl rfl rfl rfl rfl rfl rfl ⟨.inl ⟨rfl, rfl⟩, trivial⟩ rfl (fun b hb => by cases hb) (.inl rfl) (lt_of rfl) trivial),
   hR 2 rfl rfl (r_bin (u1 := .int .i64 (3 * f + 1)) (u2 := .int .i64 3) (v := .int .i64 ((3 * f + 1) / 3)) (b_quoP (by omega) (by omega) (by rw [IntKind.wrap_i64]; omega)) (lt_of rfl) ⟨rfl, trivial⟩)] (by kernel_rfl) (by kernel_rfl) ?_
 refine nT ?_
 refine T.ret ?_
 exact tE (.inl rfl) [.t 2 (.one (.d (.val (.int .i64 ((3 * f + 1) / 3)))))] ⟨⟨rfl, by kernel_rfl⟩, trivial⟩ [0, 1] (by have e1 : (f : Int) = (3 * f + 1) / 3 := (by omega); have hE := congrArg (fun (q1 : Int) => (dv (.int .i64 q1) : AV)) e1; exact hE) rfl rfl rfl rfl rfl ⟨⟨rfl, (by kernel_rfl)⟩, ⟨⟨rfl, (by kernel_rfl)⟩, trivial⟩⟩
end Go.Proofs.Ytladnlechpadlaa.Q
namespace Go.Proofs.Ytladnlechpadlaa.Q
open Go Go.RowKit
set_option linter.unusedVariables false
set_option linter.unusedSimpArgs false
set_option maxRecDepth 100000
set_option maxHeartbeats 4000000
theorem fld_58_1 : FieldAt Try.prog 58 1 1 := ⟨_, _, _, Try.underlying58, rfl, iat_3, by decide, rfl⟩
-- (*quaestor/authn.Authority).Clients
theorem authn_Clients (f : Int) (u : Int) (rows : List (authn_pair × Bool)) (hf : 0 ≤ f ∧ f ≤ 2) (hu : 0 ≤ u ∧ u ≤ 8) : Holds Try.prog 35 ⟨[pv 0 0], [.box 58 [.d (.val (.int .i64 (3 * f + 1))), .d (.val (.int .i64 u)), .mref 1], mpK f_authn_pair kBool rows], dv (.int .i64 u), [.live (.box 58 [.d (.val (.int .i64 (3 * f + 1))), .d (.val (.int .i64 u)), .mref 1]), .live (mpK f_authn_pair kBool rows)]⟩ := by
 refine Holds.of Try.func35 rfl (N := 9) Try.ntmps35 rfl fun w0 B0 S0 U0 => ?_
 show T _ (mkBase 9 2 w0 S0 U0 B0) ⟨[pv 0 0], [.live (.box 58 [.d (.val (.int .i64 (3 * f + 1))), .d (.val (.int .i64 u)), .mref 1]), .live (mpK f_authn_pair kBool rows)]⟩ _ _
 refine T.seq ?_
 refine xR [] (by kernel_rfl) (by kernel_rfl) ?_
 refine nT ?_
 refine T.seq ?_
 refine T.seq ?_
 refine xR [] (by kernel_rfl) (by kernel_rfl) ?_
 refine nT ?_
 refine T.condF (b := false) (by kernel_rfl) rfl ?_
 refine T.skip ?_
 refine nT ?_
 refine T.seq ?_
 refine xR [] (by kernel_rfl) (by kernel_rfl) ?_
 refine nT ?_
 refine T.ret ?_
 exact tE (.inl rfl) [.t 2 (.one (.d (.val (.int .i64 u))))] ⟨⟨rfl, by kernel_rfl⟩, trivial⟩ [0, 1] rfl rfl rfl rfl rfl rfl ⟨⟨rfl, (by kernel_rfl)⟩, ⟨⟨rfl, (by kernel_rfl)⟩, trivial⟩⟩
end Go.Proofs.Ytladnlechpadlaa.Q
namespace Go.Proofs.Ytladnlechpadlaa.Q
open Go Go.RowKit
set_option linter.unusedVariables false
set_option linter.unusedSimpArgs false
set_option maxRecDepth 100000
set_option maxHeartbeats 4000000
-- (*quaestor/authn.Authority).Quorum
theorem authn_Quorum (f : Int) (u : Int) (rows : List (authn_pair × Bool)) (hf : 0 ≤ f ∧ f ≤ 2) (hu : 0 ≤ u ∧ u ≤ 8) : Holds Try.prog 23 ⟨[pv 0 0], [.box 58 [.d (.val (.int .i64 (3 * f + 1))), .d (.val (.int .i64 u)), .mref 1], mpK f_authn_pair kBool rows], dv (.int .i64 (2 * f + 1)), [.live (.box 58 [.d (.val (.int .i64 (3 * f + 1))), .d (.val (.int .i64 u)), .mref 1]), .live (mpK f_authn_pair kBool rows)]⟩ := by
 refine Holds.of Try.func23 rfl (N := 8) Try.ntmps23 rfl fun w0 B0 S0 U0 => ?_
 show T _ (mkBase 8 2 w0 S0 U0 B0) ⟨[pv 0 0], [.live (.box 58 [.d (.val (.int .i64 (3 * f + 1))), .d (.val (.int .i64 u)), .mref 1]), .live (mpK f_authn_pair kBool rows)]⟩ _ _
 refine T.seq ?_
 refine xR [] (by kernel_rfl) (by kernel_rfl) ?_
 refine nT ?_
 refine T.seq ?_
 refine xR [hR 1 rfl rfl (r_call (authn_N f u rows (by assumption) (by assumption)) Try.func26 rfl (by decide) [0, 1] [] (l := [(.tmp 3, pv 0 0)]) [] rfl 2 2 rfl rfl rfl rfl rfl rfl rfl rfl rfl ⟨.inl ⟨rfl, rfl⟩, trivial⟩ rfl (fun b hb => by cases hb) (.inl rfl) (lt_of rfl) trivial),
   hR 3 rfl rfl (r_call (authn_F f u rows (by assumption) (by assumption)) Try.func24 rfl (by decide) [0, 1] [] (l := [(.tmp 5, pv 0 0)]) [] rfl 2 2 rfl rfl rfl rfl rfl rfl rfl rfl rfl ⟨.inl ⟨rfl, rfl⟩, trivial⟩ rfl (fun b hb => by cases hb) (.inl rfl) (lt_of rfl) trivial),
   hR 4 rfl rfl (r_bin (u1 := .int .i64 (3 * f + 1)) (u2 := .int .i64 f) (v := .int .i64 ((3 * f + 1) - f)) (b_sub (by rw [IntKind.wrap_i64]; omega)) (lt_of rfl) trivial)] (by kernel_rfl) (by kernel_rfl) ?_
 refine nT ?_
 refine T.ret ?_
 exact tE (.inl rfl) [.t 2 (.one (.d (.val (.int .i64 ((3 * f + 1) - f)))))] ⟨⟨rfl, by kernel_rfl⟩, trivial⟩ [0, 1] (by have e1 : (2 * f + 1 : Int) = (3 * f + 1) - f := (by omega); have hE := congrArg (fun (q1 : Int) => (dv (.int .i64 q1) : AV)) e1; exact hE) rfl rfl rfl rfl rfl ⟨⟨rfl, (by kernel_rfl)⟩, ⟨⟨rfl, (by kernel_rfl)⟩, trivial⟩⟩
end Go.Proofs.Ytladnlechpadlaa.Q
namespace Go.Proofs.Ytladnlechpadlaa.Q
open Go Go.RowKit
set_option linter.unusedVariables false
set_option linter.unusedSimpArgs false
set_option maxRecDepth 100000
set_option maxHeartbeats 4000000
-- (*quaestor/authn.Authority).Weak
theorem authn_Weak (f : Int) (u : Int) (rows : List (authn_pair × Bool)) (hf : 0 ≤ f ∧ f ≤ 2) (hu : 0 ≤ u ∧ u ≤ 8) : Holds Try.prog 25 ⟨[pv 0 0], [.box 58 [.d (.val (.int .i64 (3 * f + 1))), .d (.val (.int .i64 u)), .mref 1], mpK f_authn_pair kBool rows], dv (.int .i64 (f + 1)), [.live (.box 58 [.d (.val (.int .i64 (3 * f + 1))), .d (.val (.int .i64 u)), .mref 1]), .live (mpK f_authn_pair kBool rows)]⟩ := by
 refine Holds.of Try.func25 rfl (N := 7) Try.ntmps25 rfl fun w0 B0 S0 U0 => ?_
 show T _ (mkBase 7 2 w0 S0 U0 B0) ⟨[pv 0 0], [.live (.box 58 [.d (.val (.int .i64 (3 * f + 1))), .d (.val (.int .i64 u)), .mref 1]), .live (mpK f_authn_pair kBool rows)]⟩ _ _
 refine T.seq ?_
 refine xR [] (by kernel_rfl) (by kernel_rfl) ?_
 refine nT ?_
 refine T.seq ?_
 refine xR [hR 1 rfl rfl (r_call (authn_N f u rows (by first | assumption | omega | (unfold maxLen; omega) | (simp [maxLen, -List.getD_eq_getElem?_getD] <;> omega) | decide) (by first | assumption | omega | (unfold maxLen; omega) | (simp [maxLen, -List.getD_eq_getElem?_getD] <;> omega) | decide)) Try.func26 rfl (by decide) [0, 1] [] (l := [(.tmp 3, pv 0 0)]) [] rfl 2 2 rfl rfl rfl rfl rfl rfl rfl rfl rfl ⟨.inl ⟨rfl, rfl⟩, trivial⟩ rfl (fun b hb => by cases hb) (.inl rfl) (lt_of rfl) trivial),
   hR 2 rfl rfl (r_bin (u1 := .int .i64 (3 * f + 1)) (u2 := .int .i64 2) (v := .int .i64 ((3 * f + 1) + 2)) (b_add (by rw [IntKind.wrap_i64]; omega)) (lt_of rfl) ⟨rfl, trivial⟩),
   hR 3 rfl rfl (r_bin (u1 := .int .i64 ((3 * f + 1) + 2)) (u2 := .int .i64 3) (v := .int .i64 (((3 * f + 1) + 2) / 3)) (b_quoP (by first | assumption | omega | (unfold maxLen; omega) | (simp [maxLen, -List.getD_eq_getElem?_getD] <;> omega) | decide) (by first | assumption | omega | (unfold maxLen; omega) | (simp [maxLen, -List.getD_eq_getElem?_getD] <;> omega) | decide) (by rw [IntKind.wrap_i64]; omega)) (lt_of rfl) ⟨rfl, trivial⟩)] (by kernel_rfl) (by kernel_rfl) ?_
 refine nT ?_
 refine T.ret ?_
 exact tE (.inl rfl) [.t 2 (.one (.d (.val (.int .i64 (((3 * f + 1) + 2) / 3)))))] ⟨⟨rfl, by kernel_rfl⟩, trivial⟩ [0, 1] (by have e1 : (f + 1 : Int) = ((3 * f + 1) + 2) / 3 := (by first | rfl | omega | (simp [isKnown, orgA, *]; done) | (simp [isClient, isReplica, isKnown, primaryA, orgA, *]; done) | (simp only [primaryA, orgA]; first | rw [if_pos (by omega)] | rw [if_neg (by omega)])); have hE := congrArg (fun (q1 : Int) => (dv (.int .i64 q1) : AV)) e1; exact hE) rfl rfl rfl rfl rfl ⟨⟨rfl, (by kernel_rfl)⟩, ⟨⟨rfl, (by kernel_rfl)⟩, trivial⟩⟩
end Go.Proofs.Ytladnlechpadlaa.Q
namespace Go.Proofs.Ytladnlechpadlaa.Q
open Go Go.RowKit
set_option linter.unusedVariables false
set_option linter.unusedSimpArgs false
set_option maxRecDepth 100000
set_option maxHeartbeats 4000000
-- (*quaestor/authn.Authority).Primary
theorem authn_Primary (f : Int) (u : Int) (rows : List (authn_pair × Bool)) (s : Int) (hf : 0 ≤ f ∧ f ≤ 2) (hu : 0 ≤ u ∧ u ≤ 8) : Holds Try.prog 27 ⟨[pv 0 0, dv (.int .i64 s)], [.box 58 [.d (.val (.int .i64 (3 * f + 1))), .d (.val (.int .i64 u)), .mref 1], mpK f_authn_pair kBool rows], dv (.int .i64 (primaryA f s)), [.live (.box 58 [.d (.val (.int .i64 (3 * f + 1))), .d (.val (.int .i64 u)), .mref 1]), .live (mpK f_authn_pair kBool rows)]⟩ := by
 refine Holds.of Try.func27 rfl (N := 18) Try.ntmps27 rfl fun w0 B0 S0 U0 => ?_
 show T _ (mkBase 18 2 w0 S0 U0 B0) ⟨[pv 0 0, dv (.int .i64 s)], [.live (.box 58 [.d (.val (.int .i64 (3 * f + 1))), .d (.val (.int .i64 u)), .mref 1]), .live (mpK f_authn_pair kBool rows)]⟩ _ _
 refine T.seq ?_
 refine xR [] (by kernel_rfl) (by kernel_rfl) ?_
 refine nT ?_
 refine T.seq ?_
 refine T.seq ?_
 by_cases hq1 : (3 * f + 1) = 0
 ·refine xR [hR 1 rfl rfl (r_call (authn_N f u rows (by assumption) (by assumption)) Try.func26 rfl (by decide) [0, 1] [] (l := [(.tmp 5, pv 0 0)]) [] rfl 2 2 rfl rfl rfl rfl rfl rfl rfl rfl rfl ⟨.inl ⟨rfl, rfl⟩, trivial⟩ rfl (fun b hb => by cases hb) (.inl rfl) (lt_of rfl) trivial),
    hN 4 false (decide_eq_true hq1),
    hN 5 false (decide_eq_true hq1),
    hP 6 (decide_eq_true hq1)] (by kernel_rfl) (by kernel_rfl) ?_
  refine nT ?_
  refine T.condT (b := true) (by kernel_rfl) rfl ?_
  refine T.seq ?_
  refine xR [] (by kernel_rfl) (by kernel_rfl) ?_
  refine nT ?_
  refine T.ret ?_
  refine rT ?_
  exact tE (.inl rfl) [.t 4 (.one (.d (.val (.int .i64 0))))] ⟨⟨rfl, by kernel_rfl⟩, trivial⟩ [0, 1] (by have e1 : ((primaryA f s) : Int) = 0 := (by omega); have hE := congrArg (fun (q1 : Int) => (dv (.int .i64 q1) : AV)) e1; exact hE) rfl rfl rfl rfl rfl ⟨⟨rfl, (by kernel_rfl)⟩, ⟨⟨rfl, (by kernel_rfl)⟩, trivial⟩⟩
 ·refine xR [hR 1 rfl rfl (r_call (authn_N f u rows (by assumption) (by assumption)) Try.func26 rfl (by decide) [0, 1] [] (l := [(.tmp 5, pv 0 0)]) [] rfl 2 2 rfl rfl rfl rfl rfl rfl rfl rfl rfl ⟨.inl ⟨rfl, rfl⟩, trivial⟩ rfl (fun b hb => by cases hb) (.inl rfl) (lt_of rfl) trivial),
    hY 4 (decide_eq_false hq1),
    hY 5 (decide_eq_false hq1),
    hP 6 (decide_eq_false hq1)] (by kernel_rfl) (by kernel_rfl) ?_
  refine nT ?_
  by_cases hq2 : s < 0
  ·refine T.condT (by kernel_rfl) (decide_eq_true hq2) ?_
   refine T.seq ?_
   refine xR [] (by kernel_rfl) (by kernel_rfl) ?_
   refine nT ?_
   refine T.ret ?_
   refine rT ?_
   exact tE (.inl rfl) [.t 4 (.one (.d (.val (.int .i64 0))))] ⟨⟨rfl, by kernel_rfl⟩, trivial⟩ [0, 1] (by have e1 : ((primaryA f s) : Int) = 0 := (by (simp [isClient, isReplica, isKnown, primaryA, orgA, *]; done)); have hE := congrArg (fun (q1 : Int) => (dv (.int .i64 q1) : AV)) e1; exact hE) rfl rfl rfl rfl rfl ⟨⟨rfl, (by kernel_rfl)⟩, ⟨⟨rfl, (by kernel_rfl)⟩, trivial⟩⟩
  ·refine T.condF (by kernel_rfl) (decide_eq_false hq2) ?_
   refine T.skip ?_
   refine nT ?_
   refine T.seq ?_
   refine xR [hR 5 rfl rfl (r_bin (u1 := .int .i64 s) (u2 := .int .i64 (3 * f + 1)) (v := .int .i64 (s % (3 * f + 1))) (b_remP (by omega) (by omega)) (lt_of rfl) trivial)] (by kernel_rfl) (by kernel_rfl) ?_
   refine nT ?_
   refine T.ret ?_
   exact tE (.inl rfl) [.t 4 (.one (.d (.val (.int .i64 (s % (3 * f + 1))))))] ⟨⟨rfl, by kernel_rfl⟩, trivial⟩ [0, 1] (by have e1 : ((primaryA f s) : Int) = s % (3 * f + 1) := (by (simp [isClient, isReplica, isKnown, primaryA, orgA, *]; done)); have hE := congrArg (fun (q1 : Int) => (dv (.int .i64 q1) : AV)) e1; exact hE) rfl rfl rfl rfl rfl ⟨⟨rfl, (by kernel_rfl)⟩, ⟨⟨rfl, (by kernel_rfl)⟩, trivial⟩⟩
end Go.Proofs.Ytladnlechpadlaa.Q
namespace Go.Proofs.Ytladnlechpadlaa.Q
open Go Go.RowKit
set_option linter.unusedVariables false
set_option linter.unusedSimpArgs false
set_option maxRecDepth 100000
set_option maxHeartbeats 4000000
-- (*quaestor/authn.Authority).client
theorem authn_client (f : Int) (u : Int) (rows : List (authn_pair × Bool)) (s : Int) (hf : 0 ≤ f ∧ f ≤ 2) (hu : 0 ≤ u ∧ u ≤ 8) (hs : -9223372036854775808 ≤ s ∧ s ≤ 9223372036854775807) : Holds Try.prog 50 ⟨[pv 0 0, dv (.int .i64 s)], [.box 58 [.d (.val (.int .i64 (3 * f + 1))), .d (.val (.int .i64 u)), .mref 1], mpK f_authn_pair kBool rows], dv (.bool (decide (isClient u s))), [.live (.box 58 [.d (.val (.int .i64 (3 * f + 1))), .d (.val (.int .i64 u)), .mref 1]), .live (mpK f_authn_pair kBool rows)]⟩ := by
 refine Holds.of Try.func50 rfl (N := 14) Try.ntmps50 rfl fun w0 B0 S0 U0 => ?_
 show T _ (mkBase 14 2 w0 S0 U0 B0) ⟨[pv 0 0, dv (.int .i64 s)], [.live (.box 58 [.d (.val (.int .i64 (3 * f + 1))), .d (.val (.int .i64 u)), .mref 1]), .live (mpK f_authn_pair kBool rows)]⟩ _ _
 refine T.seq ?_
 refine xR [] (by kernel_rfl) (by kernel_rfl) ?_
 refine nT ?_
 refine T.seq ?_
 by_cases hq1 : s ≥ 1000
 ·refine xR [hY 3 (decide_eq_true hq1),
    hS 4 (oY rfl rfl rfl rfl (lt_of rfl) (decide_eq_true hq1) (r_bin (u1 := .int .i64 s) (u2 := .int .i64 1000) (v := .int .i64 (s - 1000)) (b_sub (by rw [IntKind.wrap_i64]; omega)) (lt_of rfl) ⟨rfl, trivial⟩)),
    hY 5 (decide_eq_true hq1),
    hS 6 (oY rfl rfl rfl rfl (lt_of rfl) (decide_eq_true hq1) (r_call (authn_Clients f u rows (by assumption) (by assumption)) Try.func35 rfl (by decide) [0, 1] [] (l := [(.tmp 10, pv 0 0)]) [] rfl 2 2 rfl rfl rfl rfl rfl rfl rfl rfl rfl ⟨.inl ⟨rfl, rfl⟩, trivial⟩ rfl (fun b hb => by cases hb) (.inl rfl) (lt_of rfl) (by exact trivial))),
    hY 7 (decide_eq_true hq1),
    hP 8 (decide_eq_true hq1)] (by kernel_rfl) (by kernel_rfl) ?_
  refine nT ?_
  refine T.ret ?_
  exact tE (.inl rfl) [.t 4 (.one (.d (.val (.bool (decide ((s - 1000) < u))))))] ⟨⟨rfl, by kernel_rfl⟩, trivial⟩ [0, 1] (by have e1 : ((decide (isClient u s)) : Bool) = (decide ((s - 1000) < u)) := (by (simp [isClient, isReplica, isKnown, primaryA, orgA, *]; done)); have hE := congrArg (fun (q1 : Bool) => (dv (.bool q1) : AV)) e1; exact hE) rfl rfl rfl rfl rfl ⟨⟨rfl, (by kernel_rfl)⟩, ⟨⟨rfl, (by kernel_rfl)⟩, trivial⟩⟩
 ·refine xR [hN 3 true (decide_eq_false hq1),
    hN 4 true (decide_eq_false hq1),
    hN 5 true (decide_eq_false hq1),
    hN 6 true (decide_eq_false hq1),
    hN 7 true (decide_eq_false hq1),
    hP 8 (decide_eq_false hq1)] (by kernel_rfl) (by kernel_rfl) ?_
  refine nT ?_
  refine T.ret ?_
  exact tE (.inl rfl) [.t 4 (.one (.d (.val (.bool false))))] ⟨⟨rfl, by kernel_rfl⟩, trivial⟩ [0, 1] (by have e1 : ((decide (isClient u s)) : Bool) = false := (by (simp [isClient, isReplica, isKnown, primaryA, orgA, *]; done)); have hE := congrArg (fun (q1 : Bool) => (dv (.bool q1) : AV)) e1; exact hE) rfl rfl rfl rfl rfl ⟨⟨rfl, (by kernel_rfl)⟩, ⟨⟨rfl, (by kernel_rfl)⟩, trivial⟩⟩
end Go.Proofs.Ytladnlechpadlaa.Q
namespace Go.Proofs.Ytladnlechpadlaa.Q
open Go Go.RowKit
set_option linter.unusedVariables false
set_option linter.unusedSimpArgs false
set_option maxRecDepth 100000
set_option maxHeartbeats 4000000
-- (*quaestor/authn.Authority).Replica
theorem authn_Replica (f : Int) (u : Int) (rows : List (authn_pair × Bool)) (s : Int) (hf : 0 ≤ f ∧ f ≤ 2) (hu : 0 ≤ u ∧ u ≤ 8) : Holds Try.prog 41 ⟨[pv 0 0, dv (.int .i64 s)], [.box 58 [.d (.val (.int .i64 (3 * f + 1))), .d (.val (.int .i64 u)), .mref 1], mpK f_authn_pair kBool rows], dv (.bool (decide (isReplica f s))), [.live (.box 58 [.d (.val (.int .i64 (3 * f + 1))), .d (.val (.int .i64 u)), .mref 1]), .live (mpK f_authn_pair kBool rows)]⟩ := by
 refine Holds.of Try.func41 rfl (N := 13) Try.ntmps41 rfl fun w0 B0 S0 U0 => ?_
 show T _ (mkBase 13 2 w0 S0 U0 B0) ⟨[pv 0 0, dv (.int .i64 s)], [.live (.box 58 [.d (.val (.int .i64 (3 * f + 1))), .d (.val (.int .i64 u)), .mref 1]), .live (mpK f_authn_pair kBool rows)]⟩ _ _
 refine T.seq ?_
 refine xR [] (by kernel_rfl) (by kernel_rfl) ?_
 refine nT ?_
 refine T.seq ?_
 by_cases hq1 : s ≥ 0
 ·refine xR [hY 3 (decide_eq_true hq1),
    hY 4 (decide_eq_true hq1),
    hS 5 (oY rfl rfl rfl rfl (lt_of rfl) (decide_eq_true hq1) (r_call (authn_N f u rows (by assumption) (by assumption)) Try.func26 rfl (by decide) [0, 1] [] (l := [(.tmp 9, pv 0 0)]) [] rfl 2 2 rfl rfl rfl rfl rfl rfl rfl rfl rfl ⟨.inl ⟨rfl, rfl⟩, trivial⟩ rfl (fun b hb => by cases hb) (.inl rfl) (lt_of rfl) (by exact trivial))),
    hY 6 (decide_eq_true hq1),
    hP 7 (decide_eq_true hq1)] (by kernel_rfl) (by kernel_rfl) ?_
  refine nT ?_
  refine T.ret ?_
  exact tE (.inl rfl) [.t 4 (.one (.d (.val (.bool (decide (s < (3 * f + 1)))))))] ⟨⟨rfl, by kernel_rfl⟩, trivial⟩ [0, 1] (by have e1 : ((decide (isReplica f s)) : Bool) = (decide (s < (3 * f + 1))) := (by (simp [isClient, isReplica, isKnown, primaryA, orgA, *]; done)); have hE := congrArg (fun (q1 : Bool) => (dv (.bool q1) : AV)) e1; exact hE) rfl rfl rfl rfl rfl ⟨⟨rfl, (by kernel_rfl)⟩, ⟨⟨rfl, (by kernel_rfl)⟩, trivial⟩⟩
 ·refine xR [hN 3 true (decide_eq_false hq1),
    hN 4 true (decide_eq_false hq1),
    hN 5 true (decide_eq_false hq1),
    hN 6 true (decide_eq_false hq1),
    hP 7 (decide_eq_false hq1)] (by kernel_rfl) (by kernel_rfl) ?_
  refine nT ?_
  refine T.ret ?_
  exact tE (.inl rfl) [.t 4 (.one (.d (.val (.bool false))))] ⟨⟨rfl, by kernel_rfl⟩, trivial⟩ [0, 1] (by have e1 : ((decide (isReplica f s)) : Bool) = false := (by (simp [isClient, isReplica, isKnown, primaryA, orgA, *]; done)); have hE := congrArg (fun (q1 : Bool) => (dv (.bool q1) : AV)) e1; exact hE) rfl rfl rfl rfl rfl ⟨⟨rfl, (by kernel_rfl)⟩, ⟨⟨rfl, (by kernel_rfl)⟩, trivial⟩⟩
end Go.Proofs.Ytladnlechpadlaa.Q
namespace Go.Proofs.Ytladnlechpadlaa.Q
open Go Go.RowKit
set_option linter.unusedVariables false
set_option linter.unusedSimpArgs false
set_option maxRecDepth 100000
set_option maxHeartbeats 4000000
-- (*quaestor/authn.Authority).Known
theorem authn_Known (f : Int) (u : Int) (rows : List (authn_pair × Bool)) (s : Int) (hf : 0 ≤ f ∧ f ≤ 2) (hu : 0 ≤ u ∧ u ≤ 8) (hs : -9223372036854775808 ≤ s ∧ s ≤ 9223372036854775807) : Holds Try.prog 31 ⟨[pv 0 0, dv (.int .i64 s)], [.box 58 [.d (.val (.int .i64 (3 * f + 1))), .d (.val (.int .i64 u)), .mref 1], mpK f_authn_pair kBool rows], dv (.bool (decide (isKnown f u s))), [.live (.box 58 [.d (.val (.int .i64 (3 * f + 1))), .d (.val (.int .i64 u)), .mref 1]), .live (mpK f_authn_pair kBool rows)]⟩ := by
 refine Holds.of Try.func31 rfl (N := 13) Try.ntmps31 rfl fun w0 B0 S0 U0 => ?_
 show T _ (mkBase 13 2 w0 S0 U0 B0) ⟨[pv 0 0, dv (.int .i64 s)], [.live (.box 58 [.d (.val (.int .i64 (3 * f + 1))), .d (.val (.int .i64 u)), .mref 1]), .live (mpK f_authn_pair kBool rows)]⟩ _ _
 refine T.seq ?_
 refine xR [] (by kernel_rfl) (by kernel_rfl) ?_
 refine nT ?_
 refine T.seq ?_
 by_cases hq1 : isReplica f s
 ·refine xR [hR 2 rfl rfl (r_call (authn_Replica f u rows s (by assumption) (by assumption)) Try.func41 rfl (by decide) [0, 1] [] (l := [(.tmp 5, pv 0 0), (.tmp 6, dv (.int .i64 s))]) [] rfl 2 2 rfl rfl rfl rfl rfl rfl rfl rfl rfl ⟨.inl ⟨rfl, rfl⟩, ⟨.inl ⟨rfl, rfl⟩, trivial⟩⟩ rfl (fun b hb => by cases hb) (.inl rfl) (lt_of rfl) trivial),
    hN 4 false (decide_eq_true hq1),
    hN 5 false (decide_eq_true hq1),
    hN 6 false (decide_eq_true hq1),
    hP 7 (decide_eq_true hq1)] (by kernel_rfl) (by kernel_rfl) ?_
  refine nT ?_
  refine T.ret ?_
  exact tE (.inl rfl) [.t 4 (.one (.d (.val (.bool true))))] ⟨⟨rfl, by kernel_rfl⟩, trivial⟩ [0, 1] (by have e1 : ((decide (isKnown f u s)) : Bool) = true := (by (simp [isKnown, orgA, *]; done)); have hE := congrArg (fun (q1 : Bool) => (dv (.bool q1) : AV)) e1; exact hE) rfl rfl rfl rfl rfl ⟨⟨rfl, (by kernel_rfl)⟩, ⟨⟨rfl, (by kernel_rfl)⟩, trivial⟩⟩
 ·refine xR [hR 2 rfl rfl (r_call (authn_Replica f u rows s (by assumption) (by assumption)) Try.func41 rfl (by decide) [0, 1] [] (l := [(.tmp 5, pv 0 0), (.tmp 6, dv (.int .i64 s))]) [] rfl 2 2 rfl rfl rfl rfl rfl rfl rfl rfl rfl ⟨.inl ⟨rfl, rfl⟩, ⟨.inl ⟨rfl, rfl⟩, trivial⟩⟩ rfl (fun b hb => by cases hb) (.inl rfl) (lt_of rfl) trivial),
    hY 4 (decide_eq_false hq1),
    hY 5 (decide_eq_false hq1),
    hS 6 (oY rfl rfl rfl rfl (lt_of rfl) (decide_eq_false hq1) (r_call (authn_client f u rows s (by assumption) (by assumption) (by assumption)) Try.func50 rfl (by decide) [0, 1] [] (l := [(.tmp 9, pv 0 0), (.tmp 10, dv (.int .i64 s))]) [] rfl 2 2 rfl rfl rfl rfl rfl rfl rfl rfl rfl ⟨.inl ⟨rfl, rfl⟩, ⟨.inl ⟨rfl, rfl⟩, trivial⟩⟩ rfl (fun b hb => by cases hb) (.inl rfl) (lt_of rfl) (by exact trivial))),
    hP 7 (decide_eq_false hq1)] (by kernel_rfl) (by kernel_rfl) ?_
  refine nT ?_
  refine T.ret ?_
  exact tE (.inl rfl) [.t 4 (.one (.d (.val (.bool (decide (isClient u s))))))] ⟨⟨rfl, by kernel_rfl⟩, trivial⟩ [0, 1] (by have e1 : ((decide (isKnown f u s)) : Bool) = (decide (isClient u s)) := (by (simp [isKnown, orgA, *]; done)); have hE := congrArg (fun (q1 : Bool) => (dv (.bool q1) : AV)) e1; exact hE) rfl rfl rfl rfl rfl ⟨⟨rfl, (by kernel_rfl)⟩, ⟨⟨rfl, (by kernel_rfl)⟩, trivial⟩⟩
end Go.Proofs.Ytladnlechpadlaa.Q
namespace Go.Proofs.Ytladnlechpadlaa.Q
open Go Go.RowKit
set_option linter.unusedVariables false
set_option linter.unusedSimpArgs false
set_option maxRecDepth 100000
set_option maxHeartbeats 4000000
-- (*quaestor/authn.Authority).Org
theorem authn_Org (f : Int) (u : Int) (rows : List (authn_pair × Bool)) (s : Int) (hf : 0 ≤ f ∧ f ≤ 2) (hu : 0 ≤ u ∧ u ≤ 8) (hs : -9223372036854775808 ≤ s ∧ s ≤ 9223372036854775807) : Holds Try.prog 33 ⟨[pv 0 0, dv (.int .i64 s)], [.box 58 [.d (.val (.int .i64 (3 * f + 1))), .d (.val (.int .i64 u)), .mref 1], mpK f_authn_pair kBool rows], dv (.int .i64 (orgA u s)), [.live (.box 58 [.d (.val (.int .i64 (3 * f + 1))), .d (.val (.int .i64 u)), .mref 1]), .live (mpK f_authn_pair kBool rows)]⟩ := by
 refine Holds.of Try.func33 rfl (N := 12) Try.ntmps33 rfl fun w0 B0 S0 U0 => ?_
 show T _ (mkBase 12 2 w0 S0 U0 B0) ⟨[pv 0 0, dv (.int .i64 s)], [.live (.box 58 [.d (.val (.int .i64 (3 * f + 1))), .d (.val (.int .i64 u)), .mref 1]), .live (mpK f_authn_pair kBool rows)]⟩ _ _
 refine T.seq ?_
 refine xR [] (by kernel_rfl) (by kernel_rfl) ?_
 refine nT ?_
 refine T.seq ?_
 refine T.seq ?_
 refine xR [hR 2 rfl rfl (r_call (authn_client f u rows s (by first | assumption | omega | (unfold maxLen; omega) | (simp [maxLen, -List.getD_eq_getElem?_getD] <;> omega) | decide) (by first | assumption | omega | (unfold maxLen; omega) | (simp [maxLen, -List.getD_eq_getElem?_getD] <;> omega) | decide) (by first | assumption | omega | (unfold maxLen; omega) | (simp [maxLen, -List.getD_eq_getElem?_getD] <;> omega) | decide)) Try.func50 rfl (by decide) [0, 1] [] (l := [(.tmp 5, pv 0 0), (.tmp 6, dv (.int .i64 s))]) [] rfl 2 2 rfl rfl rfl rfl rfl rfl rfl rfl rfl ⟨.inl ⟨rfl, rfl⟩, ⟨.inl ⟨rfl, rfl⟩, trivial⟩⟩ rfl (fun b hb => by cases hb) (.inl rfl) (lt_of rfl) trivial)] (by kernel_rfl) (by kernel_rfl) ?_
 refine nT ?_
 by_cases hq1 : isClient u s
 ·have hcl : 1000 ≤ s := by have h' := hq1; simp only [isClient] at h'; omega
  refine T.condF (by kernel_rfl) (congrArg Bool.not (decide_eq_true hq1)) ?_
  refine T.skip ?_
  refine nT ?_
  refine T.seq ?_
  refine xR [hR 1 rfl rfl (r_bin (u1 := .int .i64 s) (u2 := .int .i64 1000) (v := .int .i64 (s - 1000)) (b_sub (by rw [IntKind.wrap_i64]; omega)) (lt_of rfl) ⟨rfl, trivial⟩),
    hR 2 rfl rfl (r_bin (u1 := .int .i64 (s - 1000)) (u2 := .int .i64 4) (v := .int .i64 ((s - 1000) % 4)) (b_remP (by first | assumption | omega | (unfold maxLen; omega) | (simp [maxLen, -List.getD_eq_getElem?_getD] <;> omega) | decide) (by first | assumption | omega | (unfold maxLen; omega) | (simp [maxLen, -List.getD_eq_getElem?_getD] <;> omega) | decide)) (lt_of rfl) ⟨rfl, trivial⟩)] (by kernel_rfl) (by kernel_rfl) ?_
  refine nT ?_
  refine T.ret ?_
  exact tE (.inl rfl) [.t 4 (.one (.d (.val (.int .i64 ((s - 1000) % 4)))))] ⟨⟨rfl, by kernel_rfl⟩, trivial⟩ [0, 1] (by have e1 : ((orgA u s) : Int) = (s - 1000) % 4 := (by first | rfl | omega | (simp [isKnown, orgA, *]; done) | (simp [isClient, isReplica, isKnown, primaryA, orgA, *]; done) | (simp only [primaryA, orgA]; first | rw [if_pos (by omega)] | rw [if_neg (by omega)])); have hE := congrArg (fun (q1 : Int) => (dv (.int .i64 q1) : AV)) e1; exact hE) rfl rfl rfl rfl rfl ⟨⟨rfl, (by kernel_rfl)⟩, ⟨⟨rfl, (by kernel_rfl)⟩, trivial⟩⟩
 ·refine T.condT (by kernel_rfl) (congrArg Bool.not (decide_eq_false hq1)) ?_
  refine T.seq ?_
  refine xR [] (by kernel_rfl) (by kernel_rfl) ?_
  refine nT ?_
  refine T.ret ?_
  refine rT ?_
  exact tE (.inl rfl) [.t 4 (.one (.d (.val (.int .i64 (-1)))))] ⟨⟨rfl, by kernel_rfl⟩, trivial⟩ [0, 1] (by have e1 : ((orgA u s) : Int) = (-1) := (by first | rfl | omega | (simp [isKnown, orgA, *]; done) | (simp [isClient, isReplica, isKnown, primaryA, orgA, *]; done) | (simp only [primaryA, orgA]; first | rw [if_pos (by omega)] | rw [if_neg (by omega)])); have hE := congrArg (fun (q1 : Int) => (dv (.int .i64 q1) : AV)) e1; exact hE) rfl rfl rfl rfl rfl ⟨⟨rfl, (by kernel_rfl)⟩, ⟨⟨rfl, (by kernel_rfl)⟩, trivial⟩⟩
end Go.Proofs.Ytladnlechpadlaa.Q
namespace Go.Proofs.Ytladnlechpadlaa.Q
open Go Go.RowKit
set_option linter.unusedVariables false
set_option linter.unusedSimpArgs false
set_option maxRecDepth 100000
set_option maxHeartbeats 4000000
theorem fld_58_2 : FieldAt Try.prog 58 2 2 := ⟨_, _, _, Try.underlying58, rfl, iat_56, by decide, rfl⟩
theorem wide_56 : Wide Try.prog 56 none := ⟨_, Try.underlying56, (fun _ h => by cases h), (fun _ _ h => by cases h)⟩
-- (*quaestor/authn.Authority).Signed
theorem authn_Signed (f : Int) (u : Int) (rows : List (authn_pair × Bool)) (hf : 0 ≤ f ∧ f ≤ 2) (hu : 0 ≤ u ∧ u ≤ 8) : Holds Try.prog 17 ⟨[pv 0 0], [.box 58 [.d (.val (.int .i64 (3 * f + 1))), .d (.val (.int .i64 u)), .mref 1], mpK f_authn_pair kBool rows], dv (.int .i64 ((rows.length : Nat) : Int)), [.live (.box 58 [.d (.val (.int .i64 (3 * f + 1))), .d (.val (.int .i64 u)), .mref 1]), .live (mpK f_authn_pair kBool rows)]⟩ := by
 refine Holds.of Try.func17 rfl (N := 10) Try.ntmps17 rfl fun w0 B0 S0 U0 => ?_
 show T _ (mkBase 10 2 w0 S0 U0 B0) ⟨[pv 0 0], [.live (.box 58 [.d (.val (.int .i64 (3 * f + 1))), .d (.val (.int .i64 u)), .mref 1]), .live (mpK f_authn_pair kBool rows)]⟩ _ _
 refine T.seq ?_
 refine xR [] (by kernel_rfl) (by kernel_rfl) ?_
 refine nT ?_
 refine T.seq ?_
 refine T.seq ?_
 refine xR [] (by kernel_rfl) (by kernel_rfl) ?_
 refine nT ?_
 refine T.condF (b := false) (by kernel_rfl) rfl ?_
 refine T.skip ?_
 refine nT ?_
 refine T.seq ?_
 refine xR [hR 4 rfl rfl (r_lenM 1 rows (f := f_authn_pair) (kd := kBool) Try.underlying56 (lt_of rfl) trivial)] (by kernel_rfl) (by kernel_rfl) ?_
 refine nT ?_
 refine T.ret ?_
 exact tE (.inl rfl) [.t 2 (.one (.d (.val (.int .i64 ((rows.length : Nat) : Int)))))] ⟨⟨rfl, by kernel_rfl⟩, trivial⟩ [0, 1] rfl rfl rfl rfl rfl rfl ⟨⟨rfl, (by kernel_rfl)⟩, ⟨⟨rfl, (by kernel_rfl)⟩, trivial⟩⟩
end Go.Proofs.Ytladnlechpadlaa.Q
