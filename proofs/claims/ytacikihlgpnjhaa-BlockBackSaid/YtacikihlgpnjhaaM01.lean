import Derived.Test.YtacikihlgpnjhaaM00
namespace Go.Proofs.Ytacikihlgpnjhaa.Q
set_option linter.unusedVariables false
set_option linter.unusedSimpArgs false

/-! ### Numbers as bytes -/

/-- So many bytes of a number, the highest first. -/
def spellB (n : Nat) : Nat → List UInt8
  | 0 => []
  | j + 1 => UInt8.ofNat (n / 2 ^ (8 * j)) :: spellB n j
theorem spell_len (n : Nat) : ∀ m, (spellB n m).length = m
  | 0 => rfl
  | m + 1 => by rw [spellB, List.length_cons, spell_len n m]
theorem spell_step {n j m : Nat} {acc b : List UInt8} (he : acc ++ spellB n j = b ++ spellB n m) (hj : 0 < j) : (acc ++ [UInt8.ofNat (n / 2 ^ (8 * (j - 1)))]) ++ spellB n (j - 1) = b ++ spellB n m := by
  obtain ⟨i, rfl⟩ : ∃ i, j = i + 1 := ⟨j - 1, by omega⟩
  rw [← he, List.append_assoc]
  rfl
theorem spell_stepI {n j m : Nat} {acc b : List UInt8} (he : acc ++ spellB n j = b ++ spellB n m) (hj : 0 < j) : (acc ++ [UInt8.ofNat (n / 2 ^ (8 * (((j : Nat) : Int) - 1)).toNat)]) ++ spellB n (j - 1) = b ++ spellB n m := by
  rw [show (8 * (((j : Nat) : Int) - 1)).toNat = 8 * (j - 1) by omega]
  exact spell_step he hj
theorem spell_end {n j m : Nat} {acc b : List UInt8} (he : acc ++ spellB n j = b ++ spellB n m) (hj : j = 0) : acc = b ++ spellB n m := by
  subst hj
  rw [← he, spellB, List.append_nil]
theorem spell_lenE {n j m : Nat} {acc b : List UInt8} (he : acc ++ spellB n j = b ++ spellB n m) : acc.length + j = b.length + m := by
  have := congrArg List.length he
  simpa [spell_len] using this

/-- The number that bytes are. -/
def numL (l : List UInt8) : Nat := l.foldl (fun n b => n * 2 ^ 8 ||| b.toNat) 0
theorem or_byte (n : Nat) (b : UInt8) : n * 2 ^ 8 ||| b.toNat = n * 256 + b.toNat := by
  have h := UInt8.toNat_lt b
  rw [← Nat.shiftLeft_eq, ← Nat.shiftLeft_add_eq_or_of_lt (i := 8) (by omega), Nat.shiftLeft_eq]
theorem numL_nil : numL [] = 0 := rfl
theorem numL_snoc (l : List UInt8) (b : UInt8) : numL (l ++ [b]) = numL l * 256 + b.toNat := by
  unfold numL
  rw [List.foldl_append]
  exact or_byte _ _
theorem numL_lt' : ∀ (l : List UInt8) (a m : Nat), a < 256 ^ m → l.foldl (fun n b => n * 2 ^ 8 ||| b.toNat) a < 256 ^ (m + l.length)
  | [], a, m, h => h
  | b :: l, a, m, h => by
    rw [List.foldl_cons, or_byte, List.length_cons, show m + (l.length + 1) = (m + 1) + l.length by omega]
    refine numL_lt' l _ (m + 1) ?_
    rw [Nat.pow_succ]
    have := UInt8.toNat_lt b
    omega
theorem numL_lt (l : List UInt8) : numL l < 256 ^ l.length := by
  have := numL_lt' l 0 0 (by decide)
  rwa [Nat.zero_add] at this
theorem numL_lt8 {l : List UInt8} (h : l.length ≤ 8) : numL l < 18446744073709551616 := Nat.lt_of_lt_of_le (numL_lt l) (Nat.le_trans (Nat.pow_le_pow_right (by decide) h) (by decide))
theorem numL_lt7 {l : List UInt8} (h : l.length ≤ 7) : numL l < 72057594037927936 := Nat.lt_of_lt_of_le (numL_lt l) (Nat.le_trans (Nat.pow_le_pow_right (by decide) h) (by decide))
theorem numL_lt4 {l : List UInt8} (h : l.length ≤ 4) : numL l < 4294967296 := Nat.lt_of_lt_of_le (numL_lt l) (Nat.le_trans (Nat.pow_le_pow_right (by decide) h) (by decide))
theorem numL_take {l : List UInt8} {k : Nat} (hk : k < l.length) : numL (l.take (k + 1)) = numL (l.take k) * 2 ^ 8 ||| (l.getD k 0).toNat := by
  rw [tk_succ (z := 0) hk]
  unfold numL
  rw [List.foldl_append]
  rfl

/-- A number's bytes are the number. -/
theorem numL_spell (n : Nat) : ∀ (m : Nat) (l : List UInt8), numL (l ++ spellB n m) = numL l * 256 ^ m + n % 256 ^ m
  | 0, l => by simp [spellB, Nat.mod_one]
  | m + 1, l => by
    rw [spellB, show l ++ UInt8.ofNat (n / 2 ^ (8 * m)) :: spellB n m = (l ++ [UInt8.ofNat (n / 2 ^ (8 * m))]) ++ spellB n m by simp, numL_spell n m, numL_snoc]
    have h1 : (UInt8.ofNat (n / 2 ^ (8 * m))).toNat = n / 256 ^ m % 256 := by
      rw [UInt8.toNat_ofNat', Nat.pow_mul]
    rw [h1, Nat.pow_succ, Nat.mod_mul, Nat.add_mul, Nat.mul_assoc, Nat.mul_comm (256 ^ m) (n / 256 ^ m % 256), Nat.mul_comm 256 (256 ^ m)]
    omega
theorem num_spell {n m : Nat} (h : n < 256 ^ m) : numL (spellB n m) = n := by
  have := numL_spell n m []
  rw [List.nil_append, numL_nil, Nat.zero_mul, Nat.zero_add, Nat.mod_eq_of_lt h] at this
  exact this

/-! ### Things as bytes -/

def cntN (n : Int) : Nat := (min (max n 0) 4294967295).toNat
theorem cntN_lt (n : Int) : cntN n < 4294967296 := by unfold cntN; omega
theorem cntN_of {n : Nat} (h : n ≤ 4294967295) : cntN ((n : Nat) : Int) = n := by unfold cntN; omega
def intB (n : Int) : List UInt8 := spellB (u64 n) 8
def boolB (b : Bool) : List UInt8 := [if b then 1 else 0]
def cntB (n : Int) : List UInt8 := spellB (cntN n) 4
def bytesB (x : List UInt8) : List UInt8 := cntB ((x.length : Nat) : Int) ++ x
def bitsF (x : Nat) : Nat := if nanB x = true then 9221120237041090561 else x
def numB (x : Nat) : List UInt8 := spellB (bitsF x) 8
theorem int_len (n : Int) : (intB n).length = 8 := spell_len _ _
theorem cnt_len (n : Int) : (cntB n).length = 4 := spell_len _ _
theorem num_len (n : Nat) : (numB n).length = 8 := spell_len _ _
theorem bool_len (b : Bool) : (boolB b).length = 1 := rfl
theorem bytes_len (x : List UInt8) : (bytesB x).length = x.length + 4 := by rw [bytesB, List.length_append, cnt_len]; omega
theorem bitsF_lt {x : Nat} (h : x < 18446744073709551616) : bitsF x < 18446744073709551616 := by unfold bitsF; split <;> omega
theorem boolB_t : boolB true = [1] := rfl
theorem boolB_f : boolB false = [0] := rfl
theorem spell1 (n : Nat) : spellB n 1 = [UInt8.ofNat n] := by simp [spellB]
end Go.Proofs.Ytacikihlgpnjhaa.Q
