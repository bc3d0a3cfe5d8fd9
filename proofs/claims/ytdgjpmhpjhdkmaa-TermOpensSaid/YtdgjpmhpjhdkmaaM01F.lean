import Derived.Test.YtdgjpmhpjhdkmaaM01R
namespace Go.Proofs.Ytdgjpmhpjhdkmaa.Q
set_option linter.unusedVariables false
set_option linter.unusedSimpArgs false

/-! ### The document's reader: bytes, and how far it is -/

def rfN (B : List UInt8) (a m : Nat) : Nat := if a + m ≤ B.length then numL ((B.drop a).take m) else 0
def rfA (B : List UInt8) (a : Nat) (e n m : Int) : Nat := if okT (B.drop a) e n m then a + n.toNat else a
section
variable {B : List UInt8} {a : Nat} {e n m : Int}
theorem rfN_ok {m : Nat} (h : a + m ≤ B.length) : rfN B a m = numL ((B.drop a).take m) := if_pos h
theorem rfN_lt (B : List UInt8) (a : Nat) {m : Nat} (hm : m ≤ 8) : rfN B a m < 18446744073709551616 := by
  unfold rfN; split
  · exact numL_lt8 (Nat.le_trans (List.length_take_le _ _) hm)
  · decide
theorem rfN_lt4 (B : List UInt8) (a : Nat) : rfN B a 4 < 4294967296 := by
  unfold rfN; split
  · exact numL_lt4 (List.length_take_le _ _)
  · decide
theorem numL_dropk {k : Nat} (hk : a + k < B.length) : numL ((B.drop a).take (k + 1)) = numL ((B.drop a).take k) * 2 ^ 8 ||| (B.getD (a + k) 0).toNat := by
  rw [numL_take (by simp; omega)]
  congr 2
  simp [List.getD_eq_getElem?_getD]
theorem rfA_ok (h : okT (B.drop a) e n m) : rfA B a e n m = a + n.toNat := if_pos h
theorem rfA_no (h : ¬ okT (B.drop a) e n m) : rfA B a e n m = a := if_neg h
theorem rfA_le (ha : a ≤ B.length) : rfA B a e n m ≤ B.length := by
  unfold rfA; split
  · rename_i h
    have := h.2.1
    rw [List.length_drop] at this
    omega
  · exact ha
theorem rf_e (h : e ≠ 0) (n m : Int) : ¬ okT (B.drop a) e n m ∧ rdE (B.drop a) e n m = e := ⟨fun h1 => h h1.1, if_pos h⟩
theorem rf_short {k : Nat} (hn : n = ((k : Nat) : Int)) (he : ¬ e ≠ 0) (h : ¬ a + k ≤ B.length) (ha : a ≤ B.length) (m : Int) : ¬ okT (B.drop a) e n m ∧ rdE (B.drop a) e n m = 10 := by
  have hl : (B.drop a).length = B.length - a := List.length_drop
  subst hn
  refine ⟨fun h1 => ?_, ?_⟩
  · have := h1.2.1; omega
  · unfold rdE
    rw [if_neg he, if_pos (by omega)]
theorem rf_m {k : Nat} {c : Int} (hn : n = ((k : Nat) : Int)) (he : ¬ e ≠ 0) (h : a + k ≤ B.length) {m : Int} (hm : m = c) (hc : c ≠ 0) : ¬ okT (B.drop a) e n m ∧ rdE (B.drop a) e n m = c := by
  have hl : (B.drop a).length = B.length - a := List.length_drop
  subst hn
  subst hm
  refine ⟨fun h1 => hc h1.2.2, ?_⟩
  unfold rdE
  rw [if_neg he, if_neg (by omega)]
theorem rf_ok {k : Nat} (hn : n = ((k : Nat) : Int)) (he : ¬ e ≠ 0) (h : a + k ≤ B.length) {m : Int} (hm : m = 0) : okT (B.drop a) e n m ∧ rdE (B.drop a) e n m = 0 := by
  have hl : (B.drop a).length = B.length - a := List.length_drop
  subst hn
  have hk : okT (B.drop a) e ((k : Nat) : Int) m := ⟨Classical.not_not.1 he, by omega, hm⟩
  exact ⟨hk, rdE_ok hk⟩
theorem lim_of {most : Int} (h : a + 4 ≤ B.length) : limE most ((B.drop a).take 4) = if ((rfN B a 4 : Nat) : Int) > max 0 most then 11 else 0 := by
  unfold limE
  rw [rfN_ok h, Int.max_comm]
theorem truth_of (h : a + 1 ≤ B.length) : truthE ((B.drop a).take 1) = if ((rfN B a 1 : Nat) : Int) > 1 then 12 else 0 := by
  have h1 : ((B.drop a).take 1) = [B.getD a 0] := by
    rw [List.getD_eq_getElem?_getD, List.getElem?_eq_getElem (by omega), List.drop_eq_getElem_cons (by omega)]
    rfl
  have h2 : rfN B a 1 = (B.getD a 0).toNat := by rw [rfN_ok h, h1]; exact numL_snoc [] _ |>.trans (by simp [numL])
  rw [h2, h1]
  rfl
theorem bool_of (h : a + 1 ≤ B.length) : ((((B.drop a).take 1).getD 0 0).toNat : Int) = ((rfN B a 1 : Nat) : Int) := by
  have h1 : ((B.drop a).take 1) = [B.getD a 0] := by
    rw [List.getD_eq_getElem?_getD, List.getElem?_eq_getElem (by omega), List.drop_eq_getElem_cons (by omega)]
    rfl
  have h2 : rfN B a 1 = (B.getD a 0).toNat := by rw [rfN_ok h, h1]; exact numL_snoc [] _ |>.trans (by simp [numL])
  rw [h2, h1]
  rfl
theorem float_of (h : a + 8 ≤ B.length) : floatE ((B.drop a).take 8) = if nanB (rfN B a 8) = true ∧ ((rfN B a 8 : Nat) : Int) ≠ 9221120237041090561 then 12 else 0 := by
  unfold floatE
  rw [rfN_ok h]
end
/-- Bytes, by the document's reader. -/
def rfYA (B : List UInt8) (a : Nat) (e most : Int) : Nat := if okY (B.drop a) e most then a + 4 + numL ((B.drop a).take 4) else a
section
variable {B : List UInt8} {a : Nat} {e most : Int}
theorem rfYA_drop (B : List UInt8) (a : Nat) (e most : Int) : B.drop (rfYA B a e most) = rdYR (B.drop a) e most := by
  unfold rfYA rdYR
  split
  · rw [List.drop_drop, List.drop_drop, Nat.add_assoc]
  · rfl
theorem rfA_drop (B : List UInt8) (a : Nat) (e n m : Int) : B.drop (rfA B a e n m) = rdR (B.drop a) e n m := by
  unfold rfA rdR
  split
  · rw [List.drop_drop]
  · rfl
theorem rfYA_le (ha : a ≤ B.length) : rfYA B a e most ≤ B.length := by
  unfold rfYA; split
  · rename_i h
    have h1 := h.1.2.1
    have h2 := h.2
    simp only [List.length_drop] at h1 h2
    omega
  · exact ha
theorem rfY_fail (h : rdE (B.drop a) e 4 (limE most ((B.drop a).take 4)) ≠ 0) : rdY (B.drop a) e most = [] ∧ rfYA B a e most = a ∧ rdYE (B.drop a) e most = rdE (B.drop a) e 4 (limE most ((B.drop a).take 4)) ∧ rfA B a e 4 (limE most ((B.drop a).take 4)) = a := by
  have h1 : ¬ okT (B.drop a) e 4 (limE most ((B.drop a).take 4)) := fun hk => h (rdE_ok hk)
  exact ⟨if_neg fun h2 => h1 h2.1, if_neg fun h2 => h1 h2.1, if_neg h1, rfA_no h1⟩
theorem rfY_short (h : rdE (B.drop a) e 4 (limE most ((B.drop a).take 4)) = 0) (h2 : ((rdC (B.drop a) e most : Nat) : Int) > ((B.length : Nat) : Int) - ((rfA B a e 4 (limE most ((B.drop a).take 4)) : Nat) : Int)) (ha : a ≤ B.length) :
    rdY (B.drop a) e most = [] ∧ rfYA B a e most = a ∧ rdYE (B.drop a) e most = 10 := by
  have h1 := okT_of h
  have h4 : a + 4 ≤ B.length := by have := h1.2.1; rw [List.length_drop] at this; omega
  rw [rdC_ok h1, rfA_ok h1] at h2
  have h3 : ¬ numL ((B.drop a).take 4) ≤ ((B.drop a).drop 4).length := by simp only [List.length_drop]; omega
  refine ⟨if_neg fun hy => h3 hy.2, if_neg fun hy => h3 hy.2, ?_⟩
  unfold rdYE
  rw [if_pos h1, if_neg h3]
theorem rfY_ok (h : rdE (B.drop a) e 4 (limE most ((B.drop a).take 4)) = 0) (h2 : ¬ ((rdC (B.drop a) e most : Nat) : Int) > ((B.length : Nat) : Int) - ((rfA B a e 4 (limE most ((B.drop a).take 4)) : Nat) : Int)) (ha : a ≤ B.length) :
    rfA B a e 4 (limE most ((B.drop a).take 4)) = a + 4 ∧ rdC (B.drop a) e most = numL ((B.drop a).take 4) ∧ a + 4 + numL ((B.drop a).take 4) ≤ B.length ∧ rdY (B.drop a) e most = (B.take (a + 4 + numL ((B.drop a).take 4))).drop (a + 4) ∧ rfYA B a e most = a + 4 + numL ((B.drop a).take 4) ∧ rdYE (B.drop a) e most = 0 := by
  have h1 := okT_of h
  have h4 : a + 4 ≤ B.length := by have := h1.2.1; rw [List.length_drop] at this; omega
  rw [rdC_ok h1, rfA_ok h1] at h2
  have h3 : numL ((B.drop a).take 4) ≤ ((B.drop a).drop 4).length := by simp only [List.length_drop]; omega
  have hy : okY (B.drop a) e most := ⟨h1, h3⟩
  refine ⟨rfA_ok h1, rdC_ok h1, by simp only [List.length_drop] at h3; omega, ?_, if_pos hy, ?_⟩
  · rw [rdY, if_pos hy, List.drop_drop, List.drop_take, show a + 4 + numL ((B.drop a).take 4) - (a + 4) = numL ((B.drop a).take 4) by omega]
  · unfold rdYE
    rw [if_pos h1, if_pos h3]
end
end Go.Proofs.Ytdgjpmhpjhdkmaa.Q
