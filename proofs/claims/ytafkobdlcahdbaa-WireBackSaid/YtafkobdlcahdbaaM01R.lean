import Derived.Test.YtafkobdlcahdbaaM01
namespace Go.Proofs.Ytafkobdlcahdbaa.Q
set_option linter.unusedVariables false
set_option linter.unusedSimpArgs false

/-! ### What a reader reads -/

/-- May so many bytes be taken, if what is asked of them is answered so? -/
def okT (rest : List UInt8) (e n m : Int) : Prop := e = 0 ∧ n ≤ ((rest.length : Nat) : Int) ∧ m = 0
instance (rest : List UInt8) (e n m : Int) : Decidable (okT rest e n m) := inferInstanceAs (Decidable (_ ∧ _ ∧ _))
def rdR (rest : List UInt8) (e n m : Int) : List UInt8 := if okT rest e n m then rest.drop n.toNat else rest
def rdE (rest : List UInt8) (e n m : Int) : Int := if e ≠ 0 then e else if n > ((rest.length : Nat) : Int) then 10 else m
theorem rdE_ok {rest : List UInt8} {e n m : Int} (h : okT rest e n m) : rdE rest e n m = 0 := by
  obtain ⟨h1, h2, h3⟩ := h
  unfold rdE
  rw [if_neg (by omega), if_neg (by omega), h3]
theorem rdE_no {rest : List UInt8} {e n m : Int} (h : ¬ okT rest e n m) : rdE rest e n m ≠ 0 := by
  unfold rdE
  split
  · assumption
  · split
    · decide
    · exact fun hm => h ⟨by omega, by omega, hm⟩
theorem rdR_ok {rest : List UInt8} {e n m : Int} (h : okT rest e n m) : rdR rest e n m = rest.drop n.toNat := if_pos h
theorem rdR_no {rest : List UInt8} {e n m : Int} (h : ¬ okT rest e n m) : rdR rest e n m = rest := if_neg h

def truthE (b : List UInt8) : Int := if ((b.getD 0 0).toNat : Int) > 1 then 12 else 0
def limE (most : Int) (b : List UInt8) : Int := if ((numL b : Nat) : Int) > max most 0 then 11 else 0
def floatE (b : List UInt8) : Int := if nanB (numL b) = true ∧ ((numL b : Nat) : Int) ≠ 9221120237041090561 then 12 else 0

def rdI (rest : List UInt8) (e : Int) : Int := if okT rest e 8 0 then toI64 (numL (rest.take 8)) else 0
def rdB (rest : List UInt8) (e : Int) : Bool := decide (okT rest e 1 (truthE (rest.take 1)) ∧ (((rest.take 1).getD 0 0).toNat : Int) = 1)
def rdC (rest : List UInt8) (e most : Int) : Nat := if okT rest e 4 (limE most (rest.take 4)) then numL (rest.take 4) else 0
def rdN (rest : List UInt8) (e : Int) : Nat := if okT rest e 8 (floatE (rest.take 8)) then numL (rest.take 8) else 0
/-- Bytes, the number ahead of them: may they be read? -/
def okY (rest : List UInt8) (e most : Int) : Prop := okT rest e 4 (limE most (rest.take 4)) ∧ numL (rest.take 4) ≤ (rest.drop 4).length
instance (rest : List UInt8) (e most : Int) : Decidable (okY rest e most) := inferInstanceAs (Decidable (_ ∧ _))
def rdY (rest : List UInt8) (e most : Int) : List UInt8 := if okY rest e most then (rest.drop 4).take (numL (rest.take 4)) else []
def rdYR (rest : List UInt8) (e most : Int) : List UInt8 := if okY rest e most then (rest.drop 4).drop (numL (rest.take 4)) else rest
def rdYE (rest : List UInt8) (e most : Int) : Int := if okT rest e 4 (limE most (rest.take 4)) then (if numL (rest.take 4) ≤ (rest.drop 4).length then 0 else 10) else rdE rest e 4 (limE most (rest.take 4))
def rdX (rest : List UInt8) (e : Int) : Int := if e = 0 ∧ ((rest.length : Nat) : Int) > 0 then 13 else e
theorem rdB_ok {rest : List UInt8} {e : Int} (h : okT rest e 1 (truthE (rest.take 1))) : rdB rest e = decide ((((rest.take 1).getD 0 0).toNat : Int) = 1) := by
  unfold rdB
  rw [decide_eq_decide]
  exact ⟨fun h1 => h1.2, fun h1 => ⟨h, h1⟩⟩
theorem rdB_no {rest : List UInt8} {e : Int} (h : ¬ okT rest e 1 (truthE (rest.take 1))) : rdB rest e = false := decide_eq_false fun h1 => h h1.1
theorem rdC_ok {rest : List UInt8} {e most : Int} (h : okT rest e 4 (limE most (rest.take 4))) : rdC rest e most = numL (rest.take 4) := if_pos h
theorem rdC_no {rest : List UInt8} {e most : Int} (h : ¬ okT rest e 4 (limE most (rest.take 4))) : rdC rest e most = 0 := if_neg h
theorem rdC_lt (rest : List UInt8) (e most : Int) : rdC rest e most < 4294967296 := by
  unfold rdC; split
  · exact numL_lt4 (by simp; omega)
  · decide
theorem rdR_len (rest : List UInt8) (e n m : Int) : (rdR rest e n m).length ≤ rest.length := by unfold rdR; split <;> simp
section
variable {rest : List UInt8} {e most : Int}
theorem okT_of {n m : Int} (h : rdE rest e n m = 0) : okT rest e n m := Classical.byContradiction fun hn => rdE_no hn h
theorem rdY_fail (h : rdE rest e 4 (limE most (rest.take 4)) ≠ 0) : rdY rest e most = [] ∧ rdYR rest e most = rest ∧ rdYE rest e most = rdE rest e 4 (limE most (rest.take 4)) ∧ rdR rest e 4 (limE most (rest.take 4)) = rest := by
  have h1 : ¬ okT rest e 4 (limE most (rest.take 4)) := fun hk => h (rdE_ok hk)
  exact ⟨if_neg fun h2 => h1 h2.1, if_neg fun h2 => h1 h2.1, if_neg h1, rdR_no h1⟩
theorem rdY_second (h : rdE rest e 4 (limE most (rest.take 4)) = 0) : okT (rdR rest e 4 (limE most (rest.take 4))) (rdE rest e 4 (limE most (rest.take 4))) ((rdC rest e most : Nat) : Int) 0 ↔ okY rest e most := by
  have h1 := okT_of h
  rw [rdR_ok h1, rdC_ok h1, h]
  show okT (rest.drop 4) 0 _ 0 ↔ _
  unfold okT okY
  constructor
  · exact fun h2 => ⟨h1, by have := h2.2.1; omega⟩
  · exact fun h2 => ⟨rfl, by have := h2.2; omega, rfl⟩
theorem rdY_ok (h : rdE rest e 4 (limE most (rest.take 4)) = 0) (h2 : okT (rdR rest e 4 (limE most (rest.take 4))) (rdE rest e 4 (limE most (rest.take 4))) ((rdC rest e most : Nat) : Int) 0) :
    rdY rest e most = (rdR rest e 4 (limE most (rest.take 4))).take (((rdC rest e most : Nat) : Int)).toNat ∧ rdYR rest e most = (rdR rest e 4 (limE most (rest.take 4))).drop (((rdC rest e most : Nat) : Int)).toNat ∧ rdYE rest e most = 0 := by
  have h1 := okT_of h
  have h3 := (rdY_second h).1 h2
  rw [rdR_ok h1, rdC_ok h1]
  refine ⟨(if_pos h3).trans rfl, (if_pos h3).trans rfl, ?_⟩
  unfold rdYE
  rw [if_pos h1, if_pos h3.2]
theorem rdY_short (h : rdE rest e 4 (limE most (rest.take 4)) = 0) (h2 : ¬ okT (rdR rest e 4 (limE most (rest.take 4))) (rdE rest e 4 (limE most (rest.take 4))) ((rdC rest e most : Nat) : Int) 0) :
    rdY rest e most = [] ∧ rdYR rest e most = rest ∧ rdYE rest e most = rdE (rdR rest e 4 (limE most (rest.take 4))) (rdE rest e 4 (limE most (rest.take 4))) ((rdC rest e most : Nat) : Int) 0 := by
  have h1 := okT_of h
  have h3 : ¬ okY rest e most := fun h4 => h2 ((rdY_second h).2 h4)
  refine ⟨if_neg h3, if_neg h3, ?_⟩
  unfold rdYE
  have h4 : ¬ numL (rest.take 4) ≤ (rest.drop 4).length := fun h5 => h3 ⟨h1, h5⟩
  rw [if_pos h1, if_neg h4, h, rdR_ok h1, rdC_ok h1]
  show (10 : Int) = rdE (rest.drop 4) 0 _ 0
  unfold rdE
  rw [if_neg (by decide), if_pos (by omega)]
end
theorem rdY_len (rest : List UInt8) (e most : Int) : (rdY rest e most).length ≤ rest.length := by unfold rdY; split <;> simp <;> omega
theorem rdYR_len (rest : List UInt8) (e most : Int) : (rdYR rest e most).length ≤ rest.length := by unfold rdYR; split <;> simp <;> omega
end Go.Proofs.Ytafkobdlcahdbaa.Q
