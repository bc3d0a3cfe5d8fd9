import Derived.Test.YtladnlechpadlaaM00
namespace Go.Proofs.Ytladnlechpadlaa.Q
set_option linter.unusedVariables false
set_option linter.unusedSimpArgs false

/-! ### What an authority answers -/

def fOf (f : Int) : Int := min (max f 0) 2
def cOf (c : Int) : Int := min (max c 0) 8
theorem fOf_ok (f : Int) : 0 ≤ fOf f ∧ fOf f ≤ 2 := by unfold fOf; omega
theorem cOf_ok (f : Int) : 0 ≤ cOf f ∧ cOf f ≤ 8 := by unfold cOf; omega
def isReplica (f s : Int) : Prop := s ≥ 0 ∧ s < 3 * f + 1
def isClient (u s : Int) : Prop := s ≥ 1000 ∧ s - 1000 < u
def isKnown (f u s : Int) : Prop := isReplica f s ∨ isClient u s
instance (f s : Int) : Decidable (isReplica f s) := inferInstanceAs (Decidable (_ ∧ _))
instance (f s : Int) : Decidable (isClient f s) := inferInstanceAs (Decidable (_ ∧ _))
instance (f u s : Int) : Decidable (isKnown f u s) := inferInstanceAs (Decidable (_ ∨ _))
def primaryA (f v : Int) : Int := if v < 0 then 0 else v % (3 * f + 1)
def orgA (u s : Int) : Int := if isClient u s then (s - 1000) % 4 else -1
def signE (f u s : Int) (b : List UInt8) : Int := if isKnown f u s then (if ((b.length : Nat) : Int) > 16777216 then 11 else 0) else 30
def signV (f u s : Int) (b : List UInt8) : api_Envelope := if signE f u s b = 0 then ⟨s, b⟩ else z_api_Envelope
abbrev Tab := List (authn_pair × Bool)
def signT (f u : Int) (rows : Tab) (s : Int) (b : List UInt8) : Tab := if signE f u s b = 0 then mput rows ⟨s, b⟩ true else rows
def checkE (f u : Int) (rows : Tab) (e : api_Envelope) : Int := if isKnown f u e.f_Signer then (if mhas rows ⟨e.f_Signer, e.f_Body⟩ = true then 0 else 31) else 30

theorem signV_len (f u s : Int) (b : List UInt8) : (signV f u s b).f_Body.length ≤ b.length := by
  unfold signV
  split
  · exact Nat.le_refl _
  · exact Nat.zero_le _

/-! ### The document's -/

def putL (l : List api_Envelope) (e : api_Envelope) : List api_Envelope := if e ∈ l then l else l ++ [e]
def signL (f u : Int) (l : List api_Envelope) (s : Int) (b : List UInt8) : List api_Envelope := if signE f u s b = 0 then putL l ⟨s, b⟩ else l
def checkL (f u : Int) (l : List api_Envelope) (e : api_Envelope) : Int := if isKnown f u e.f_Signer then (if e ∈ l then 0 else 31) else 30

def keyE (e : api_Envelope) : authn_pair := ⟨e.f_Signer, e.f_Body⟩
theorem keyE_inj {e e' : api_Envelope} : keyE e = keyE e' ↔ e = e' := by cases e; cases e'; simp [keyE]
def tabM (l : List api_Envelope) : Tab := l.map fun e => (keyE e, true)
theorem tab_len (l : List api_Envelope) : (tabM l).length = l.length := by simp [tabM]
theorem mhas_tab (l : List api_Envelope) (e : api_Envelope) : mhas (tabM l) (keyE e) = decide (e ∈ l) := by
  induction l with
  | nil => simp [tabM, mhas]
  | cons a r ih =>
    simp only [tabM, List.map_cons, mhas, keyE_inj] at ih ⊢
    by_cases h : a = e
    · simp [h]
    · have : (e = a) = False := by simp; exact fun q => h q.symm
      simp only [if_neg h, List.mem_cons, this, false_or]
      exact ih
theorem mput_tab (l : List api_Envelope) (e : api_Envelope) : mput (tabM l) (keyE e) true = tabM (putL l e) := by
  induction l with
  | nil => simp [tabM, mput, putL]
  | cons a r ih =>
    by_cases h : a = e
    · subst h
      simp [tabM, mput, putL, keyE_inj]
    · have h1 : mput (tabM (a :: r)) (keyE e) true = (keyE a, true) :: mput (tabM r) (keyE e) true := by
        simp only [tabM, List.map_cons, mput, keyE_inj, if_neg h]
      rw [h1, ih]
      have h2 : ¬ e = a := fun q => h q.symm
      by_cases h3 : e ∈ r
      · simp [putL, h3, tabM]
      · simp [putL, h3, h2, tabM]
theorem sign_tab (f u : Int) (l : List api_Envelope) (s : Int) (b : List UInt8) : signT f u (tabM l) s b = tabM (signL f u l s b) := by
  unfold signT signL
  split
  · exact mput_tab l ⟨s, b⟩
  · rfl
theorem check_tab (f u : Int) (l : List api_Envelope) (e : api_Envelope) : checkE f u (tabM l) e = checkL f u l e := by
  unfold checkE checkL
  split
  · rw [show (⟨e.f_Signer, e.f_Body⟩ : authn_pair) = keyE e from rfl, mhas_tab]
    simp
  · rfl
theorem putL_len (l : List api_Envelope) (e : api_Envelope) : (putL l e).length ≤ l.length + 1 := by unfold putL; split <;> simp
theorem signL_len (f u : Int) (l : List api_Envelope) (s : Int) (b : List UInt8) : (signL f u l s b).length ≤ l.length + 1 := by
  unfold signL; split
  · exact putL_len _ _
  · omega
end Go.Proofs.Ytladnlechpadlaa.Q
