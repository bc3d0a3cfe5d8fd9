import Derived.Test.YtacikihlgpnjhaaM01R
namespace Go.Proofs.Ytacikihlgpnjhaa.Q
set_option linter.unusedVariables false
set_option linter.unusedSimpArgs false

/-! ### Digests -/

def szP (l : List (List UInt8)) : Nat := l.foldl (fun n p => n + (4 + p.length)) 5
theorem szP_ge (l : List (List UInt8)) : ∀ n, n ≤ l.foldl (fun n p => n + (4 + p.length)) n := by
  induction l with
  | nil => exact fun n => Nat.le_refl _
  | cons p r ih => exact fun n => Nat.le_trans (show n ≤ n + (4 + p.length) by omega) (ih _)
theorem szP_take (l : List (List UInt8)) (k : Nat) : szP (l.take k) ≤ szP l := by
  have h : szP l = (l.drop k).foldl (fun n p => n + (4 + p.length)) (szP (l.take k)) := by
    unfold szP
    rw [← List.foldl_append, List.take_append_drop]
  rw [h]
  exact szP_ge _ _
theorem szP_succ {l : List (List UInt8)} {k : Nat} (hk : k < l.length) : szP (l.take (k + 1)) = szP (l.take k) + (4 + (l.getD k []).length) := foldl_succ hk
theorem szP_len (l : List (List UInt8)) : ∀ n, n + 4 * l.length ≤ l.foldl (fun n p => n + (4 + p.length)) n := by
  induction l with
  | nil => exact fun n => by simp
  | cons p r ih => exact fun n => by have := ih (n + (4 + p.length)); simp only [List.foldl_cons, List.length_cons]; omega
theorem szP_count (l : List (List UInt8)) : l.length ≤ szP l := by have := szP_len l 5; unfold szP; omega

def partsB (l : List (List UInt8)) : List UInt8 := l.flatMap bytesB
def ofR (t : UInt8) (n : Nat) (l : List (List UInt8)) : List UInt8 := [t] ++ cntB ((n : Nat) : Int) ++ partsB l
def ofB (t : UInt8) (l : List (List UInt8)) : List UInt8 := ofR t l.length l
theorem ofR_len (t : UInt8) (n : Nat) (l : List (List UInt8)) : (ofR t n l).length = szP l := by
  have h : ∀ (l : List (List UInt8)) (n : Nat), l.foldl (fun n p => n + (4 + p.length)) n = n + (partsB l).length := by
    intro l
    induction l with
    | nil => intro n; simp [partsB]
    | cons p r ih =>
      intro n
      have e : partsB (p :: r) = bytesB p ++ partsB r := rfl
      rw [List.foldl_cons, ih, e, List.length_append, bytes_len]
      omega
  unfold szP
  rw [h, ofR, List.length_append, List.length_append, cnt_len]
  simp
theorem ofB_len (t : UInt8) (l : List (List UInt8)) : (ofB t l).length = szP l := ofR_len _ _ _
theorem ofR_succ {t : UInt8} {n k : Nat} {l : List (List UInt8)} (hk : k < l.length) : ofR t n (l.take (k + 1)) = ofR t n (l.take k) ++ bytesB (l.getD k []) := by
  rw [tk_succ (z := []) hk]
  simp [ofR, partsB, List.flatMap_append]
theorem ofR_all (t : UInt8) (l : List (List UInt8)) : ofR t l.length (l.take l.length) = ofB t l := by rw [List.take_length]; rfl

/-! ### Opening -/

structure OpS where
  rest : List UInt8
  e : Int
  ps : List (List UInt8)
def stepO (most : Int) (s : OpS) : OpS := ⟨rdYR s.rest s.e most, rdYE s.rest s.e most, s.ps ++ [rdY s.rest s.e most]⟩
def startO (d : List UInt8) : OpS := ⟨rdR (d.drop 1) 0 4 (limE ((d.length : Nat) : Int) ((d.drop 1).take 4)), rdE (d.drop 1) 0 4 (limE ((d.length : Nat) : Int) ((d.drop 1).take 4)), []⟩
def cntO (d : List UInt8) : Nat := rdC (d.drop 1) 0 ((d.length : Nat) : Int)
def runO (d : List UInt8) : Nat → OpS
  | 0 => startO d
  | k + 1 => stepO ((d.length : Nat) : Int) (runO d k)
def finO (d : List UInt8) : OpS := runO d (cntO d)
/-- Is it a digest? -/
def okO (d : List UInt8) : Prop := d ≠ [] ∧ rdX (finO d).rest (finO d).e = 0
instance (d : List UInt8) : Decidable (okO d) := inferInstanceAs (Decidable (_ ∧ _))
def opT (d : List UInt8) : UInt8 := if okO d then d.getD 0 0 else 0
def opP (d : List UInt8) : List (List UInt8) := if okO d then (finO d).ps else []
theorem runO_rest (d : List UInt8) : ∀ k, (runO d k).rest.length ≤ d.length
  | 0 => Nat.le_trans (rdR_len (d.drop 1) 0 4 (limE ((d.length : Nat) : Int) ((d.drop 1).take 4))) (by simp)
  | k + 1 => Nat.le_trans (rdYR_len _ _ _) (runO_rest d k)
theorem runO_ps (d : List UInt8) : ∀ k, (runO d k).ps.length = k
  | 0 => rfl
  | k + 1 => by simp [runO, stepO, runO_ps d k]
theorem rdC_le (rest : List UInt8) (e most : Int) (hm : 0 ≤ most) : ((rdC rest e most : Nat) : Int) ≤ most := by
  unfold rdC
  split
  · rename_i h
    have h3 := h.2.2
    unfold limE at h3
    split at h3
    · cases h3
    · omega
  · omega
theorem cntO_le (d : List UInt8) : cntO d ≤ d.length := by have := rdC_le (d.drop 1) 0 ((d.length : Nat) : Int) (by omega); unfold cntO; omega
end Go.Proofs.Ytacikihlgpnjhaa.Q
