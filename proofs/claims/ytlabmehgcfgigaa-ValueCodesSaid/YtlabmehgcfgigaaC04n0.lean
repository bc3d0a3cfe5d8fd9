import Derived.Test.YtlabmehgcfgigaaK04
namespace Go.Proofs.Ytlabmehgcfgigaa.Q
set_option linter.unusedVariables false
set_option linter.unusedSimpArgs false

/-! ### Rows -/

def i64R (n : Int) : Prop := -9223372036854775808 ≤ n ∧ n ≤ 9223372036854775807
theorem tk_succ {α : Type} {z : α} {l : List α} {k : Nat} (hk : k < l.length) : l.take (k + 1) = l.take k ++ [l.getD k z] := by
  rw [List.take_add_one, List.getD_eq_getElem?_getD, List.getElem?_eq_getElem hk]; rfl
theorem all_succ {P : Nat → Prop} {k : Nat} (h : ∀ j, j < k → P j) (hk : P k) : ∀ j, j < k + 1 → P j := fun j hj => by
  rcases Nat.lt_or_ge j k with h1 | h1
  · exact h j h1
  · obtain rfl : j = k := by omega
    exact hk
theorem rows_eq {α : Type} {a b : List α} {z : α} {k : Nat} (hl : a.length = b.length) (hk : a.length ≤ k) (h : ∀ j, j < k → a.getD j z = b.getD j z) : a = b := by
  apply List.ext_getElem hl
  intro j h1 h2
  have := h j (by omega)
  simpa [List.getD_eq_getElem?_getD, List.getElem?_eq_getElem h1, List.getElem?_eq_getElem h2] using this
theorem getD_mem {α : Type} {l : List α} {z : α} {k : Nat} (hk : k < l.length) : l.getD k z ∈ l := by
  rw [List.getD_eq_getElem?_getD, List.getElem?_eq_getElem hk]
  exact List.getElem_mem hk
theorem mem_get {α : Type} {l : List α} {z e : α} {k : Nat} (hk : k < l.length) (h : l.getD k z = e) : e ∈ l := h ▸ getD_mem hk
theorem not_mem_get {α : Type} {l : List α} {z e : α} {k : Nat} (hk : l.length ≤ k) (h : ∀ j, j < k → ¬ l.getD j z = e) : ¬ e ∈ l := fun hm => by
  obtain ⟨j, hj, rfl⟩ := List.getElem_of_mem hm
  refine h j (by omega) ?_
  rw [List.getD_eq_getElem?_getD, List.getElem?_eq_getElem hj]; rfl
theorem all_getD {α : Type} {p : α → Prop} {l : List α} {z : α} (h : ∀ x, x ∈ l → p x) (hz : p z) (k : Nat) : p (l.getD k z) := by
  rcases Nat.lt_or_ge k l.length with hk | hk
  · exact h _ (getD_mem hk)
  · rw [List.getD_eq_getElem?_getD, List.getElem?_eq_none hk]; exact hz
theorem foldl_succ {α β : Type} {f : β → α → β} {b : β} {z : α} {l : List α} {k : Nat} (hk : k < l.length) : (l.take (k + 1)).foldl f b = f ((l.take k).foldl f b) (l.getD k z) := by
  rw [tk_succ (z := z) hk, List.foldl_append]; rfl

/-! ### Few and small -/

def fewG {α : Type} (sz : α → Nat) (n m : Nat) (l : List α) : Prop := l.length ≤ n ∧ ∀ x, x ∈ l → sz x ≤ m
instance {α : Type} (sz : α → Nat) (n m : Nat) (l : List α) : Decidable (fewG sz n m l) := inferInstanceAs (Decidable (_ ∧ ∀ x, x ∈ l → sz x ≤ m))
section
variable {α : Type} {sz : α → Nat} {n m : Nat} {l : List α} {z : α} {k : Nat}
theorem fewG_no1 {c : Int} (h : ((l.length : Nat) : Int) > c) (hc : c = ((n : Nat) : Int)) : ¬ fewG sz n m l := fun h1 => by have := h1.1; omega
theorem fewG_no2 {c : Int} (hk : k < l.length) (h : ((sz (l.getD k z) : Nat) : Int) > c) (hc : c = ((m : Nat) : Int)) : ¬ fewG sz n m l := fun h1 => by
  have := h1.2 _ (getD_mem (z := z) hk)
  omega
theorem fewG_yes {c : Int} (h0 : ¬ ((l.length : Nat) : Int) > c) (hc : c = ((n : Nat) : Int)) (hk : l.length ≤ k) (h : ∀ j, j < k → sz (l.getD j z) ≤ m) : fewG sz n m l := ⟨by omega, fun x hx => by
  obtain ⟨j, hj, rfl⟩ := List.getElem_of_mem hx
  have := h j (by omega)
  rw [List.getD_eq_getElem?_getD, List.getElem?_eq_getElem hj] at this
  exact this⟩
theorem fewG_get (hf : fewG sz n m l) (hz : sz z ≤ m) (k : Nat) : sz (l.getD k z) ≤ m := all_getD hf.2 hz k
theorem mem_set {x y : α} (h : x ∈ l.set k y) : x ∈ l ∨ x = y := List.mem_or_eq_of_mem_set h
theorem fewG_set {y : α} (hf : fewG sz n m l) (hy : sz y ≤ m) : fewG sz n m (l.set k y) := ⟨by rw [List.length_set]; exact hf.1, fun x hx => by
  rcases mem_set hx with h | h
  · exact hf.2 x h
  · rw [h]; exact hy⟩
end
theorem u8_of {a b : UInt8} (h : ((a.toNat : Nat) : Int) = ((b.toNat : Nat) : Int)) : a = b := UInt8.toNat_inj.1 (by omega)
theorem u8_ne {a b : UInt8} (h : ¬ ((a.toNat : Nat) : Int) = ((b.toNat : Nat) : Int)) : ¬ a = b := fun e => h (by rw [e])
end Go.Proofs.Ytlabmehgcfgigaa.Q
namespace Go.Proofs.Ytlabmehgcfgigaa.Q
set_option linter.unusedVariables false
set_option linter.unusedSimpArgs false

/-! ### Numbers as bytes -/

/-- So many bytes of a number, the highest first. -/
def spellB (n : Nat) : Nat → List UInt8
  | 0 => []
  | j + 1 => UInt8.ofNat (n / 2 ^ (8 * j)) :: spellB n j
theorem spell_len (n : Nat) : ∀ m, (spellB n m).length = m
  | 0 => rfl
  | m + 1 => by rw [spellB, List.length_cons, spell_len n m]
theorem spell_step {n j m : Nat} {acc b : List UInt8} (he : acc ++ spellB n j = b ++ spellB n m) (hj : 0 < j) : (acc ++ [UInt8.ofNat (n / 2 ^ (8 * (j - 1)))]) ++ spellB n (j - 1) = b ++ spellB n m := by
  obtain ⟨i, rfl⟩ : ∃ i, j = i + 1 := ⟨j - 1, by omega⟩
  rw [← he, List.append_assoc]
  rfl
theorem spell_stepI {n j m : Nat} {acc b : List UInt8} (he : acc ++ spellB n j = b ++ spellB n m) (hj : 0 < j) : (acc ++ [UInt8.ofNat (n / 2 ^ (8 * (((j : Nat) : Int) - 1)).toNat)]) ++ spellB n (j - 1) = b ++ spellB n m := by
  rw [show (8 * (((j : Nat) : Int) - 1)).toNat = 8 * (j - 1) by omega]
  exact spell_step he hj
theorem spell_end {n j m : Nat} {acc b : List UInt8} (he : acc ++ spellB n j = b ++ spellB n m) (hj : j = 0) : acc = b ++ spellB n m := by
  subst hj
  rw [← he, spellB, List.append_nil]
theorem spell_lenE {n j m : Nat} {acc b : List UInt8} (he : acc ++ spellB n j = b ++ spellB n m) : acc.length + j = b.length + m := by
  have := congrArg List.length he
  simpa [spell_len] using this

/-- The number that bytes are. -/
def numL (l : List UInt8) : Nat := l.foldl (fun n b => n * 2 ^ 8 ||| b.toNat) 0
theorem or_byte (n : Nat) (b : UInt8) : n * 2 ^ 8 ||| b.toNat = n * 256 + b.toNat := by
  have h := UInt8.toNat_lt b
  rw [← Nat.shiftLeft_eq, ← Nat.shiftLeft_add_eq_or_of_lt (i := 8) (by omega), Nat.shiftLeft_eq]
theorem numL_nil : numL [] = 0 := rfl
theorem numL_snoc (l : List UInt8) (b : UInt8) : numL (l ++ [b]) = numL l * 256 + b.toNat := by
  unfold numL
  rw [List.foldl_append]
  exact or_byte _ _
theorem numL_lt' : ∀ (l : List UInt8) (a m : Nat), a < 256 ^ m → l.foldl (fun n b => n * 2 ^ 8 ||| b.toNat) a < 256 ^ (m + l.length)
  | [], a, m, h => h
  | b :: l, a, m, h => by
    rw [List.foldl_cons, or_byte, List.length_cons, show m + (l.length + 1) = (m + 1) + l.length by omega]
    refine numL_lt' l _ (m + 1) ?_
    rw [Nat.pow_succ]
    have := UInt8.toNat_lt b
    omega
theorem numL_lt (l : List UInt8) : numL l < 256 ^ l.length := by
  have := numL_lt' l 0 0 (by decide)
  rwa [Nat.zero_add] at this
theorem numL_lt8 {l : List UInt8} (h : l.length ≤ 8) : numL l < 18446744073709551616 := Nat.lt_of_lt_of_le (numL_lt l) (Nat.le_trans (Nat.pow_le_pow_right (by decide) h) (by decide))
theorem numL_lt7 {l : List UInt8} (h : l.length ≤ 7) : numL l < 72057594037927936 := Nat.lt_of_lt_of_le (numL_lt l) (Nat.le_trans (Nat.pow_le_pow_right (by decide) h) (by decide))
theorem numL_lt4 {l : List UInt8} (h : l.length ≤ 4) : numL l < 4294967296 := Nat.lt_of_lt_of_le (numL_lt l) (Nat.le_trans (Nat.pow_le_pow_right (by decide) h) (by decide))
theorem numL_take {l : List UInt8} {k : Nat} (hk : k < l.length) : numL (l.take (k + 1)) = numL (l.take k) * 2 ^ 8 ||| (l.getD k 0).toNat := by
  rw [tk_succ (z := 0) hk]
  unfold numL
  rw [List.foldl_append]
  rfl

/-- A number's bytes are the number. -/
theorem numL_spell (n : Nat) : ∀ (m : Nat) (l : List UInt8), numL (l ++ spellB n m) = numL l * 256 ^ m + n % 256 ^ m
  | 0, l => by simp [spellB, Nat.mod_one]
  | m + 1, l => by
    rw [spellB, show l ++ UInt8.ofNat (n / 2 ^ (8 * m)) :: spellB n m = (l ++ [UInt8.ofNat (n / 2 ^ (8 * m))]) ++ spellB n m by simp, numL_spell n m, numL_snoc]
    have h1 : (UInt8.ofNat (n / 2 ^ (8 * m))).toNat = n / 256 ^ m % 256 := by
      rw [UInt8.toNat_ofNat', Nat.pow_mul]
    rw [h1, Nat.pow_succ, Nat.mod_mul, Nat.add_mul, Nat.mul_assoc, Nat.mul_comm (256 ^ m) (n / 256 ^ m % 256), Nat.mul_comm 256 (256 ^ m)]
    omega
theorem num_spell {n m : Nat} (h : n < 256 ^ m) : numL (spellB n m) = n := by
  have := numL_spell n m []
  rw [List.nil_append, numL_nil, Nat.zero_mul, Nat.zero_add, Nat.mod_eq_of_lt h] at this
  exact this

/-! ### Things as bytes -/

def cntN (n : Int) : Nat := (min (max n 0) 4294967295).toNat
theorem cntN_lt (n : Int) : cntN n < 4294967296 := by unfold cntN; omega
theorem cntN_of {n : Nat} (h : n ≤ 4294967295) : cntN ((n : Nat) : Int) = n := by unfold cntN; omega
def intB (n : Int) : List UInt8 := spellB (u64 n) 8
def boolB (b : Bool) : List UInt8 := [if b then 1 else 0]
def cntB (n : Int) : List UInt8 := spellB (cntN n) 4
def bytesB (x : List UInt8) : List UInt8 := cntB ((x.length : Nat) : Int) ++ x
def bitsF (x : Nat) : Nat := if nanB x = true then 9221120237041090561 else x
def numB (x : Nat) : List UInt8 := spellB (bitsF x) 8
theorem int_len (n : Int) : (intB n).length = 8 := spell_len _ _
theorem cnt_len (n : Int) : (cntB n).length = 4 := spell_len _ _
theorem num_len (n : Nat) : (numB n).length = 8 := spell_len _ _
theorem bool_len (b : Bool) : (boolB b).length = 1 := rfl
theorem bytes_len (x : List UInt8) : (bytesB x).length = x.length + 4 := by rw [bytesB, List.length_append, cnt_len]; omega
theorem bitsF_lt {x : Nat} (h : x < 18446744073709551616) : bitsF x < 18446744073709551616 := by unfold bitsF; split <;> omega
theorem boolB_t : boolB true = [1] := rfl
theorem boolB_f : boolB false = [0] := rfl
theorem spell1 (n : Nat) : spellB n 1 = [UInt8.ofNat n] := by simp [spellB]
end Go.Proofs.Ytlabmehgcfgigaa.Q
namespace Go.Proofs.Ytlabmehgcfgigaa.Q
set_option linter.unusedVariables false
set_option linter.unusedSimpArgs false

/-! ### What a reader reads -/

/-- May so many bytes be taken, if what is asked of them is answered so? -/
def okT (rest : List UInt8) (e n m : Int) : Prop := e = 0 ∧ n ≤ ((rest.length : Nat) : Int) ∧ m = 0
instance (rest : List UInt8) (e n m : Int) : Decidable (okT rest e n m) := inferInstanceAs (Decidable (_ ∧ _ ∧ _))
def rdR (rest : List UInt8) (e n m : Int) : List UInt8 := if okT rest e n m then rest.drop n.toNat else rest
def rdE (rest : List UInt8) (e n m : Int) : Int := if e ≠ 0 then e else if n > ((rest.length : Nat) : Int) then 10 else m
theorem rdE_ok {rest : List UInt8} {e n m : Int} (h : okT rest e n m) : rdE rest e n m = 0 := by
  obtain ⟨h1, h2, h3⟩ := h
  unfold rdE
  rw [if_neg (by omega), if_neg (by omega), h3]
theorem rdE_no {rest : List UInt8} {e n m : Int} (h : ¬ okT rest e n m) : rdE rest e n m ≠ 0 := by
  unfold rdE
  split
  · assumption
  · split
    · decide
    · exact fun hm => h ⟨by omega, by omega, hm⟩
theorem rdR_ok {rest : List UInt8} {e n m : Int} (h : okT rest e n m) : rdR rest e n m = rest.drop n.toNat := if_pos h
theorem rdR_no {rest : List UInt8} {e n m : Int} (h : ¬ okT rest e n m) : rdR rest e n m = rest := if_neg h

def truthE (b : List UInt8) : Int := if ((b.getD 0 0).toNat : Int) > 1 then 12 else 0
def limE (most : Int) (b : List UInt8) : Int := if ((numL b : Nat) : Int) > max most 0 then 11 else 0
def floatE (b : List UInt8) : Int := if nanB (numL b) = true ∧ ((numL b : Nat) : Int) ≠ 9221120237041090561 then 12 else 0

def rdI (rest : List UInt8) (e : Int) : Int := if okT rest e 8 0 then toI64 (numL (rest.take 8)) else 0
def rdB (rest : List UInt8) (e : Int) : Bool := decide (okT rest e 1 (truthE (rest.take 1)) ∧ (((rest.take 1).getD 0 0).toNat : Int) = 1)
def rdC (rest : List UInt8) (e most : Int) : Nat := if okT rest e 4 (limE most (rest.take 4)) then numL (rest.take 4) else 0
def rdN (rest : List UInt8) (e : Int) : Nat := if okT rest e 8 (floatE (rest.take 8)) then numL (rest.take 8) else 0
/-- Bytes, the number ahead of them: may they be read? -/
def okY (rest : List UInt8) (e most : Int) : Prop := okT rest e 4 (limE most (rest.take 4)) ∧ numL (rest.take 4) ≤ (rest.drop 4).length
instance (rest : List UInt8) (e most : Int) : Decidable (okY rest e most) := inferInstanceAs (Decidable (_ ∧ _))
def rdY (rest : List UInt8) (e most : Int) : List UInt8 := if okY rest e most then (rest.drop 4).take (numL (rest.take 4)) else []
def rdYR (rest : List UInt8) (e most : Int) : List UInt8 := if okY rest e most then (rest.drop 4).drop (numL (rest.take 4)) else rest
def rdYE (rest : List UInt8) (e most : Int) : Int := if okT rest e 4 (limE most (rest.take 4)) then (if numL (rest.take 4) ≤ (rest.drop 4).length then 0 else 10) else rdE rest e 4 (limE most (rest.take 4))
def rdX (rest : List UInt8) (e : Int) : Int := if e = 0 ∧ ((rest.length : Nat) : Int) > 0 then 13 else e
theorem rdB_ok {rest : List UInt8} {e : Int} (h : okT rest e 1 (truthE (rest.take 1))) : rdB rest e = decide ((((rest.take 1).getD 0 0).toNat : Int) = 1) := by
  unfold rdB
  rw [decide_eq_decide]
  exact ⟨fun h1 => h1.2, fun h1 => ⟨h, h1⟩⟩
theorem rdB_no {rest : List UInt8} {e : Int} (h : ¬ okT rest e 1 (truthE (rest.take 1))) : rdB rest e = false := decide_eq_false fun h1 => h h1.1
theorem rdC_ok {rest : List UInt8} {e most : Int} (h : okT rest e 4 (limE most (rest.take 4))) : rdC rest e most = numL (rest.take 4) := if_pos h
theorem rdC_no {rest : List UInt8} {e most : Int} (h : ¬ okT rest e 4 (limE most (rest.take 4))) : rdC rest e most = 0 := if_neg h
theorem rdC_lt (rest : List UInt8) (e most : Int) : rdC rest e most < 4294967296 := by
  unfold rdC; split
  · exact numL_lt4 (by simp; omega)
  · decide
theorem rdR_len (rest : List UInt8) (e n m : Int) : (rdR rest e n m).length ≤ rest.length := by unfold rdR; split <;> simp
section
variable {rest : List UInt8} {e most : Int}
theorem okT_of {n m : Int} (h : rdE rest e n m = 0) : okT rest e n m := Classical.byContradiction fun hn => rdE_no hn h
theorem rdY_fail (h : rdE rest e 4 (limE most (rest.take 4)) ≠ 0) : rdY rest e most = [] ∧ rdYR rest e most = rest ∧ rdYE rest e most = rdE rest e 4 (limE most (rest.take 4)) ∧ rdR rest e 4 (limE most (rest.take 4)) = rest := by
  have h1 : ¬ okT rest e 4 (limE most (rest.take 4)) := fun hk => h (rdE_ok hk)
  exact ⟨if_neg fun h2 => h1 h2.1, if_neg fun h2 => h1 h2.1, if_neg h1, rdR_no h1⟩
theorem rdY_second (h : rdE rest e 4 (limE most (rest.take 4)) = 0) : okT (rdR rest e 4 (limE most (rest.take 4))) (rdE rest e 4 (limE most (rest.take 4))) ((rdC rest e most : Nat) : Int) 0 ↔ okY rest e most := by
  have h1 := okT_of h
  rw [rdR_ok h1, rdC_ok h1, h]
  show okT (rest.drop 4) 0 _ 0 ↔ _
  unfold okT okY
  constructor
  · exact fun h2 => ⟨h1, by have := h2.2.1; omega⟩
  · exact fun h2 => ⟨rfl, by have := h2.2; omega, rfl⟩
theorem rdY_ok (h : rdE rest e 4 (limE most (rest.take 4)) = 0) (h2 : okT (rdR rest e 4 (limE most (rest.take 4))) (rdE rest e 4 (limE most (rest.take 4))) ((rdC rest e most : Nat) : Int) 0) :
    rdY rest e most = (rdR rest e 4 (limE most (rest.take 4))).take (((rdC rest e most : Nat) : Int)).toNat ∧ rdYR rest e most = (rdR rest e 4 (limE most (rest.take 4))).drop (((rdC rest e most : Nat) : Int)).toNat ∧ rdYE rest e most = 0 := by
  have h1 := okT_of h
  have h3 := (rdY_second h).1 h2
  rw [rdR_ok h1, rdC_ok h1]
  refine ⟨(if_pos h3).trans rfl, (if_pos h3).trans rfl, ?_⟩
  unfold rdYE
  rw [if_pos h1, if_pos h3.2]
theorem rdY_short (h : rdE rest e 4 (limE most (rest.take 4)) = 0) (h2 : ¬ okT (rdR rest e 4 (limE most (rest.take 4))) (rdE rest e 4 (limE most (rest.take 4))) ((rdC rest e most : Nat) : Int) 0) :
    rdY rest e most = [] ∧ rdYR rest e most = rest ∧ rdYE rest e most = rdE (rdR rest e 4 (limE most (rest.take 4))) (rdE rest e 4 (limE most (rest.take 4))) ((rdC rest e most : Nat) : Int) 0 := by
  have h1 := okT_of h
  have h3 : ¬ okY rest e most := fun h4 => h2 ((rdY_second h).2 h4)
  refine ⟨if_neg h3, if_neg h3, ?_⟩
  unfold rdYE
  have h4 : ¬ numL (rest.take 4) ≤ (rest.drop 4).length := fun h5 => h3 ⟨h1, h5⟩
  rw [if_pos h1, if_neg h4, h, rdR_ok h1, rdC_ok h1]
  show (10 : Int) = rdE (rest.drop 4) 0 _ 0
  unfold rdE
  rw [if_neg (by decide), if_pos (by omega)]
end
theorem rdY_len (rest : List UInt8) (e most : Int) : (rdY rest e most).length ≤ rest.length := by unfold rdY; split <;> simp <;> omega
theorem rdYR_len (rest : List UInt8) (e most : Int) : (rdYR rest e most).length ≤ rest.length := by unfold rdYR; split <;> simp <;> omega

/-! ### What was put is read -/

theorem spell_inj {a b m : Nat} (ha : a < 256 ^ m) (hb : b < 256 ^ m) : spellB a m = spellB b m ↔ a = b :=
  ⟨fun h => by rw [← num_spell ha, ← num_spell hb, h], fun h => by rw [h]⟩
theorem cntB_inj {a b : Int} : cntB a = cntB b ↔ cntN a = cntN b := spell_inj (Nat.lt_of_lt_of_le (cntN_lt a) (by decide)) (Nat.lt_of_lt_of_le (cntN_lt b) (by decide))
theorem bytesB_app {x y p q : List UInt8} (hx : x.length ≤ 4294967295) (hy : y.length ≤ 4294967295) (h : bytesB x ++ p = bytesB y ++ q) : x = y ∧ p = q := by
  unfold bytesB at h
  rw [List.append_assoc, List.append_assoc] at h
  obtain ⟨h1, h2⟩ := List.append_inj h (by rw [cnt_len, cnt_len])
  rw [cntB_inj, cntN_of hx, cntN_of hy] at h1
  exact List.append_inj h2 h1
theorem okT_app {p r : List UInt8} {n : Nat} (h : p.length = n) : okT (p ++ r) 0 ((n : Nat) : Int) 0 := ⟨rfl, by simp; omega, rfl⟩
theorem take_app {p r : List UInt8} {n : Nat} (h : p.length = n) : (p ++ r).take n = p := by rw [List.take_append_of_le_length (by omega), List.take_of_length_le (by omega)]
theorem drop_app {p r : List UInt8} {n : Nat} (h : p.length = n) : (p ++ r).drop n = r := by rw [List.drop_append_of_le_length (by omega), List.drop_of_length_le (by omega), List.nil_append]
theorem lim_cntM {most : Int} (n : Int) (r : List UInt8) (hm : ((cntN n : Nat) : Int) ≤ most) : limE most ((cntB n ++ r).take 4) = 0 ∧ numL ((cntB n ++ r).take 4) = cntN n := by
  have h1 : numL ((cntB n ++ r).take 4) = cntN n := by rw [take_app (cnt_len n), cntB, num_spell (Nat.lt_of_lt_of_le (cntN_lt n) (by decide))]
  refine ⟨?_, h1⟩
  unfold limE
  rw [h1, if_neg (by omega)]
theorem back_cntM {most : Int} (n : Int) (r : List UInt8) (hm : ((cntN n : Nat) : Int) ≤ most) : rdC (cntB n ++ r) 0 most = cntN n ∧ rdR (cntB n ++ r) 0 4 (limE most ((cntB n ++ r).take 4)) = r ∧ rdE (cntB n ++ r) 0 4 (limE most ((cntB n ++ r).take 4)) = 0 := by
  obtain ⟨h0, h1⟩ := lim_cntM n r hm
  have hk : okT (cntB n ++ r) 0 4 (limE most ((cntB n ++ r).take 4)) := by rw [h0]; exact okT_app (cnt_len n)
  refine ⟨by rw [rdC_ok hk, h1], ?_, rdE_ok hk⟩
  rw [rdR_ok hk]; exact drop_app (cnt_len n)
theorem back_bytesM {most : Int} {x : List UInt8} (hx : x.length ≤ 4294967295) (r : List UInt8) (hm : ((x.length : Nat) : Int) ≤ most) : rdY (bytesB x ++ r) 0 most = x ∧ rdYR (bytesB x ++ r) 0 most = r ∧ rdYE (bytesB x ++ r) 0 most = 0 := by
  have e : bytesB x ++ r = cntB ((x.length : Nat) : Int) ++ (x ++ r) := by rw [bytesB, List.append_assoc]
  rw [e]
  obtain ⟨h0, h1⟩ := lim_cntM (most := most) ((x.length : Nat) : Int) (x ++ r) (by rw [cntN_of hx]; exact hm)
  rw [cntN_of hx] at h1
  have hk : okT (cntB ((x.length : Nat) : Int) ++ (x ++ r)) 0 4 (limE most ((cntB ((x.length : Nat) : Int) ++ (x ++ r)).take 4)) := by rw [h0]; exact okT_app (cnt_len _)
  have hd : (cntB ((x.length : Nat) : Int) ++ (x ++ r)).drop 4 = x ++ r := drop_app (cnt_len _)
  have hle : numL ((cntB ((x.length : Nat) : Int) ++ (x ++ r)).take 4) ≤ ((cntB ((x.length : Nat) : Int) ++ (x ++ r)).drop 4).length := by rw [h1, hd]; simp
  have hy : okY (cntB ((x.length : Nat) : Int) ++ (x ++ r)) 0 most := ⟨hk, hle⟩
  refine ⟨?_, ?_, ?_⟩
  · rw [rdY, if_pos hy, h1, hd]; exact take_app rfl
  · rw [rdYR, if_pos hy, h1, hd]; exact drop_app rfl
  · rw [rdYE, if_pos hk, if_pos hle]

/-! ### What is read was put -/

theorem numL_append (q : List UInt8) : ∀ (r : List UInt8), numL (q ++ r) = numL q * 256 ^ r.length + numL r := by
  have key : ∀ (r q : List UInt8), numL (q ++ r) = numL q * 256 ^ r.length + numL r := by
    intro r
    induction r with
    | nil => intro q; simp [numL]
    | cons x r ih =>
      intro q
      have e1 : numL (q ++ x :: r) = numL ((q ++ [x]) ++ r) := by simp
      have e2 : numL (x :: r) = numL (([] ++ [x]) ++ r) := by simp
      rw [e1, e2, ih, ih, numL_snoc, numL_snoc, numL_nil, List.length_cons, Nat.pow_succ]
      rw [Nat.add_mul, Nat.add_mul, Nat.mul_assoc, Nat.mul_comm 256 (256 ^ r.length)]
      omega
  exact fun r => key r q
theorem spell_num : ∀ (b p : List UInt8), spellB (numL (p ++ b)) b.length = b
  | [], _ => rfl
  | x :: r, p => by
    have e1 : p ++ x :: r = (p ++ [x]) ++ r := by simp
    rw [List.length_cons, spellB, e1, spell_num r (p ++ [x]), numL_append (p ++ [x]) r]
    have h := numL_lt r
    have hp : 2 ^ (8 * r.length) = 256 ^ r.length := by rw [Nat.pow_mul]
    rw [hp, Nat.mul_comm, Nat.mul_add_div (Nat.pow_pos (by decide)), Nat.div_eq_of_lt h, Nat.add_zero, numL_snoc]
    congr 1
    apply UInt8.toNat_inj.1
    rw [UInt8.toNat_ofNat']
    have := UInt8.toNat_lt x
    omega
theorem cnt_num {b : List UInt8} (h : b.length = 4) : cntB ((numL b : Nat) : Int) = b := by
  have h1 := numL_lt4 (l := b) (by omega)
  unfold cntB
  rw [cntN_of (by omega), ← h]
  exact spell_num b []
/-- Bytes that were read stand there. -/
theorem read_bytes {rest : List UInt8} {e most : Int} (h : rdYE rest e most = 0) : e = 0 ∧ rest = bytesB (rdY rest e most) ++ rdYR rest e most ∧ (rdY rest e most).length ≤ 4294967295 := by
  unfold rdYE at h
  by_cases h1 : okT rest e 4 (limE most (rest.take 4))
  · rw [if_pos h1] at h
    by_cases h2 : numL (rest.take 4) ≤ (rest.drop 4).length
    · have hy : okY rest e most := ⟨h1, h2⟩
      have h4 : (rest.take 4).length = 4 := by have := h1.2.1; rw [List.length_take]; omega
      have hl : ((rest.drop 4).take (numL (rest.take 4))).length = numL (rest.take 4) := by rw [List.length_take]; omega
      refine ⟨h1.1, ?_, ?_⟩
      · rw [rdY, if_pos hy, rdYR, if_pos hy, bytesB, hl, cnt_num h4, List.append_assoc, List.take_append_drop, List.take_append_drop]
      · rw [rdY, if_pos hy, hl]; have := numL_lt4 (l := rest.take 4) (by omega); omega
    · rw [if_neg h2] at h; cases h
  · rw [if_neg h1] at h
    exact absurd h (rdE_no h1)
theorem read_cnt {rest : List UInt8} {e most : Int} (h : rdE rest e 4 (limE most (rest.take 4)) = 0) : e = 0 ∧ rest = cntB ((rdC rest e most : Nat) : Int) ++ rdR rest e 4 (limE most (rest.take 4)) ∧ ((rdC rest e most : Nat) : Int) ≤ max most 0 := by
  have h1 := okT_of h
  have h4 : (rest.take 4).length = 4 := by have := h1.2.1; rw [List.length_take]; omega
  refine ⟨h1.1, ?_, ?_⟩
  · rw [rdC_ok h1, rdR_ok h1, cnt_num h4]
    exact (List.take_append_drop 4 rest).symm
  · rw [rdC_ok h1]
    have h3 := h1.2.2
    unfold limE at h3
    split at h3
    · cases h3
    · omega
end Go.Proofs.Ytlabmehgcfgigaa.Q
namespace Go.Proofs.Ytlabmehgcfgigaa.Q
set_option linter.unusedVariables false
set_option linter.unusedSimpArgs false

/-! ### The document's reader: bytes, and how far it is -/

def rfN (B : List UInt8) (a m : Nat) : Nat := if a + m ≤ B.length then numL ((B.drop a).take m) else 0
def rfA (B : List UInt8) (a : Nat) (e n m : Int) : Nat := if okT (B.drop a) e n m then a + n.toNat else a
section
variable {B : List UInt8} {a : Nat} {e n m : Int}
theorem rfN_ok {m : Nat} (h : a + m ≤ B.length) : rfN B a m = numL ((B.drop a).take m) := if_pos h
theorem rfN_lt (B : List UInt8) (a : Nat) {m : Nat} (hm : m ≤ 8) : rfN B a m < 18446744073709551616 := by
  unfold rfN; split
  · exact numL_lt8 (Nat.le_trans (List.length_take_le _ _) hm)
  · decide
theorem rfN_lt4 (B : List UInt8) (a : Nat) : rfN B a 4 < 4294967296 := by
  unfold rfN; split
  · exact numL_lt4 (List.length_take_le _ _)
  · decide
theorem numL_dropk {k : Nat} (hk : a + k < B.length) : numL ((B.drop a).take (k + 1)) = numL ((B.drop a).take k) * 2 ^ 8 ||| (B.getD (a + k) 0).toNat := by
  rw [numL_take (by simp; omega)]
  congr 2
  simp [List.getD_eq_getElem?_getD]
theorem rfA_ok (h : okT (B.drop a) e n m) : rfA B a e n m = a + n.toNat := if_pos h
theorem rfA_no (h : ¬ okT (B.drop a) e n m) : rfA B a e n m = a := if_neg h
theorem rfA_le (ha : a ≤ B.length) : rfA B a e n m ≤ B.length := by
  unfold rfA; split
  · rename_i h
    have := h.2.1
    rw [List.length_drop] at this
    omega
  · exact ha
theorem rf_e (h : e ≠ 0) (n m : Int) : ¬ okT (B.drop a) e n m ∧ rdE (B.drop a) e n m = e := ⟨fun h1 => h h1.1, if_pos h⟩
theorem rf_short {k : Nat} (hn : n = ((k : Nat) : Int)) (he : ¬ e ≠ 0) (h : ¬ a + k ≤ B.length) (ha : a ≤ B.length) (m : Int) : ¬ okT (B.drop a) e n m ∧ rdE (B.drop a) e n m = 10 := by
  have hl : (B.drop a).length = B.length - a := List.length_drop
  subst hn
  refine ⟨fun h1 => ?_, ?_⟩
  · have := h1.2.1; omega
  · unfold rdE
    rw [if_neg he, if_pos (by omega)]
theorem rf_m {k : Nat} {c : Int} (hn : n = ((k : Nat) : Int)) (he : ¬ e ≠ 0) (h : a + k ≤ B.length) {m : Int} (hm : m = c) (hc : c ≠ 0) : ¬ okT (B.drop a) e n m ∧ rdE (B.drop a) e n m = c := by
  have hl : (B.drop a).length = B.length - a := List.length_drop
  subst hn
  subst hm
  refine ⟨fun h1 => hc h1.2.2, ?_⟩
  unfold rdE
  rw [if_neg he, if_neg (by omega)]
theorem rf_ok {k : Nat} (hn : n = ((k : Nat) : Int)) (he : ¬ e ≠ 0) (h : a + k ≤ B.length) {m : Int} (hm : m = 0) : okT (B.drop a) e n m ∧ rdE (B.drop a) e n m = 0 := by
  have hl : (B.drop a).length = B.length - a := List.length_drop
  subst hn
  have hk : okT (B.drop a) e ((k : Nat) : Int) m := ⟨Classical.not_not.1 he, by omega, hm⟩
  exact ⟨hk, rdE_ok hk⟩
theorem lim_of {most : Int} (h : a + 4 ≤ B.length) : limE most ((B.drop a).take 4) = if ((rfN B a 4 : Nat) : Int) > max 0 most then 11 else 0 := by
  unfold limE
  rw [rfN_ok h, Int.max_comm]
theorem truth_of (h : a + 1 ≤ B.length) : truthE ((B.drop a).take 1) = if ((rfN B a 1 : Nat) : Int) > 1 then 12 else 0 := by
  have h1 : ((B.drop a).take 1) = [B.getD a 0] := by
    rw [List.getD_eq_getElem?_getD, List.getElem?_eq_getElem (by omega), List.drop_eq_getElem_cons (by omega)]
    rfl
  have h2 : rfN B a 1 = (B.getD a 0).toNat := by rw [rfN_ok h, h1]; exact numL_snoc [] _ |>.trans (by simp [numL])
  rw [h2, h1]
  rfl
theorem bool_of (h : a + 1 ≤ B.length) : ((((B.drop a).take 1).getD 0 0).toNat : Int) = ((rfN B a 1 : Nat) : Int) := by
  have h1 : ((B.drop a).take 1) = [B.getD a 0] := by
    rw [List.getD_eq_getElem?_getD, List.getElem?_eq_getElem (by omega), List.drop_eq_getElem_cons (by omega)]
    rfl
  have h2 : rfN B a 1 = (B.getD a 0).toNat := by rw [rfN_ok h, h1]; exact numL_snoc [] _ |>.trans (by simp [numL])
  rw [h2, h1]
  rfl
theorem float_of (h : a + 8 ≤ B.length) : floatE ((B.drop a).take 8) = if nanB (rfN B a 8) = true ∧ ((rfN B a 8 : Nat) : Int) ≠ 9221120237041090561 then 12 else 0 := by
  unfold floatE
  rw [rfN_ok h]
end
/-- Bytes, by the document's reader. -/
def rfYA (B : List UInt8) (a : Nat) (e most : Int) : Nat := if okY (B.drop a) e most then a + 4 + numL ((B.drop a).take 4) else a
section
variable {B : List UInt8} {a : Nat} {e most : Int}
theorem rfYA_drop (B : List UInt8) (a : Nat) (e most : Int) : B.drop (rfYA B a e most) = rdYR (B.drop a) e most := by
  unfold rfYA rdYR
  split
  · rw [List.drop_drop, List.drop_drop, Nat.add_assoc]
  · rfl
theorem rfA_drop (B : List UInt8) (a : Nat) (e n m : Int) : B.drop (rfA B a e n m) = rdR (B.drop a) e n m := by
  unfold rfA rdR
  split
  · rw [List.drop_drop]
  · rfl
theorem rfYA_le (ha : a ≤ B.length) : rfYA B a e most ≤ B.length := by
  unfold rfYA; split
  · rename_i h
    have h1 := h.1.2.1
    have h2 := h.2
    simp only [List.length_drop] at h1 h2
    omega
  · exact ha
theorem rfY_fail (h : rdE (B.drop a) e 4 (limE most ((B.drop a).take 4)) ≠ 0) : rdY (B.drop a) e most = [] ∧ rfYA B a e most = a ∧ rdYE (B.drop a) e most = rdE (B.drop a) e 4 (limE most ((B.drop a).take 4)) ∧ rfA B a e 4 (limE most ((B.drop a).take 4)) = a := by
  have h1 : ¬ okT (B.drop a) e 4 (limE most ((B.drop a).take 4)) := fun hk => h (rdE_ok hk)
  exact ⟨if_neg fun h2 => h1 h2.1, if_neg fun h2 => h1 h2.1, if_neg h1, rfA_no h1⟩
theorem rfY_short (h : rdE (B.drop a) e 4 (limE most ((B.drop a).take 4)) = 0) (h2 : ((rdC (B.drop a) e most : Nat) : Int) > ((B.length : Nat) : Int) - ((rfA B a e 4 (limE most ((B.drop a).take 4)) : Nat) : Int)) (ha : a ≤ B.length) :
    rdY (B.drop a) e most = [] ∧ rfYA B a e most = a ∧ rdYE (B.drop a) e most = 10 := by
  have h1 := okT_of h
  have h4 : a + 4 ≤ B.length := by have := h1.2.1; rw [List.length_drop] at this; omega
  rw [rdC_ok h1, rfA_ok h1] at h2
  have h3 : ¬ numL ((B.drop a).take 4) ≤ ((B.drop a).drop 4).length := by simp only [List.length_drop]; omega
  refine ⟨if_neg fun hy => h3 hy.2, if_neg fun hy => h3 hy.2, ?_⟩
  unfold rdYE
  rw [if_pos h1, if_neg h3]
theorem rfY_ok (h : rdE (B.drop a) e 4 (limE most ((B.drop a).take 4)) = 0) (h2 : ¬ ((rdC (B.drop a) e most : Nat) : Int) > ((B.length : Nat) : Int) - ((rfA B a e 4 (limE most ((B.drop a).take 4)) : Nat) : Int)) (ha : a ≤ B.length) :
    rfA B a e 4 (limE most ((B.drop a).take 4)) = a + 4 ∧ rdC (B.drop a) e most = numL ((B.drop a).take 4) ∧ a + 4 + numL ((B.drop a).take 4) ≤ B.length ∧ rdY (B.drop a) e most = (B.take (a + 4 + numL ((B.drop a).take 4))).drop (a + 4) ∧ rfYA B a e most = a + 4 + numL ((B.drop a).take 4) ∧ rdYE (B.drop a) e most = 0 := by
  have h1 := okT_of h
  have h4 : a + 4 ≤ B.length := by have := h1.2.1; rw [List.length_drop] at this; omega
  rw [rdC_ok h1, rfA_ok h1] at h2
  have h3 : numL ((B.drop a).take 4) ≤ ((B.drop a).drop 4).length := by simp only [List.length_drop]; omega
  have hy : okY (B.drop a) e most := ⟨h1, h3⟩
  refine ⟨rfA_ok h1, rdC_ok h1, by simp only [List.length_drop] at h3; omega, ?_, if_pos hy, ?_⟩
  · rw [rdY, if_pos hy, List.drop_drop, List.drop_take, show a + 4 + numL ((B.drop a).take 4) - (a + 4) = numL ((B.drop a).take 4) by omega]
  · unfold rdYE
    rw [if_pos h1, if_pos h3]
end
end Go.Proofs.Ytlabmehgcfgigaa.Q
namespace Go.Proofs.Ytlabmehgcfgigaa.Q
open Go Go.RowKit
set_option linter.unusedVariables false
set_option linter.unusedSimpArgs false
set_option maxRecDepth 100000
set_option maxHeartbeats 4000000
-- quaestor/quaestorref01.Same
theorem ref01_Same (ta : Bool) (na : Bool) (tb : Bool) (nb : Bool) (a : List UInt8) (b : List UInt8) : Holds Try.prog 37 ⟨[slV ta na kU8 a, slV tb nb kU8 b], [], dv (.bool (decide (a = b))), []⟩ := by
  refine Holds.of Try.func37 rfl (N := 10) Try.ntmps37 rfl fun w0 B0 S0 U0 => ?_
  show T _ (mkBase 10 0 w0 S0 U0 B0) ⟨[slV ta na kU8 a, slV tb nb kU8 b], []⟩ _ _
  refine T.seq ?_
  refine xR [] (by kernel_rfl) (by kernel_rfl) ?_
  refine nT ?_
  refine T.seq ?_
  refine xR [hR 1 rfl rfl (q_strOf () a (ys := (.d (dsl ta na kU8 a))) (rhs := []) Try.underlying47 Try.underlying5 Try.underlying9 (src_sl ta na kU8 a) (lt_of rfl) trivial),
    hR 3 rfl rfl (q_strOf () b (ys := (.d (dsl tb nb kU8 b))) (rhs := []) Try.underlying47 Try.underlying5 Try.underlying9 (src_sl tb nb kU8 b) (lt_of rfl) trivial)] (by kernel_rfl) (by kernel_rfl) ?_
  refine nT ?_
  refine T.ret ?_
  exact tE (.inl rfl) [.t 4 (.one (.d (.val (.bool (decide (a = b))))))] ⟨⟨rfl, by kernel_rfl⟩, trivial⟩ [] rfl rfl rfl rfl rfl rfl trivial
end Go.Proofs.Ytlabmehgcfgigaa.Q
namespace Go.Proofs.Ytlabmehgcfgigaa.Q
open Go Go.RowKit
set_option linter.unusedVariables false
set_option linter.unusedSimpArgs false
set_option maxRecDepth 100000
set_option maxHeartbeats 4000000
theorem iat_5 : Try.prog.info? 5 = some Try.t5 := by kernel_rfl
theorem zero_5 : Zero Try.prog 5 [.int .u8 0] := ⟨_, _, iat_5, rfl, rfl⟩
theorem elem_47 : Elem Try.prog 47 5 1 1 := ⟨Try.underlying47, _, _, iat_5, rfl, rfl, rfl, rfl, by decide⟩
-- slices.Clone[[]byte,byte]
theorem clone_u8 (ta : Bool) (na : Bool) (a : List UInt8) (hp : a.length ≤ 140737488355328) : Holds Try.prog 61 ⟨[slV ta na kU8 a], [], ownV 0 kU8 0 a.length, [.live (arrK 5 kU8 a)]⟩ := by
  refine Holds.of Try.func61 rfl (N := 8) Try.ntmps61 rfl fun w0 B0 S0 U0 => ?_
  show T _ (mkBase 8 0 w0 S0 U0 B0) ⟨[slV ta na kU8 a], []⟩ _ _
  cases na
  · refine T.nilOr (k := 0) rfl (fun h0 => ?_) ?_
    · have h0 := List.eq_nil_of_length_eq_zero h0
      subst h0
      show T _ _ ⟨[dv (.slice none 0 0)], []⟩ _ _
      refine T.seq ?_
      refine xR [] (by kernel_rfl) (by kernel_rfl) ?_
      refine nT ?_
      refine T.seq ?_
      refine T.seq ?_
      refine xR [hR 1 rfl rfl (r_bin (u1 := .slice none 0 0) (u2 := .slice none 0 0) (v := .bool true) (b_eqlNilS Try.underlying47) (lt_of rfl) ⟨rfl, trivial⟩)] (by kernel_rfl) (by kernel_rfl) ?_
      refine nT ?_
      refine T.condT (b := true) (by kernel_rfl) rfl ?_
      refine T.seq ?_
      refine xR [] (by kernel_rfl) (by kernel_rfl) ?_
      refine nT ?_
      refine T.ret ?_
      refine rT ?_
      refine Ends.turn (s' := ⟨[dv (.slice none 0 0), aa, dv (.slice none 0 0), aa, dv (.bool true)], []⟩) (fun _ _ hG => Gs.norm (by kernel_rfl) hG) ?_
      refine Ends.turn (s' := ⟨[dv (.slice none 0 0), aa, ownV 0 kU8 0 0, aa, dv (.bool true)], [.live (arrK 5 kU8 ([] : List UInt8))]⟩) (fun _ _ hG => Gs.absent 0 2 5 kU8 rfl rfl hG) ?_
      exact tE (.inl rfl) [.t 2 (.one (.own 0 kU8.sz 0 0))] ⟨⟨rfl, by kernel_rfl⟩, trivial⟩ [0] (by have e1 : (([] : List UInt8).length : Nat) = 0 := (by rfl); have hE := congrArg (fun (q1 : Nat) => (ownV 0 kU8 0 q1 : AV)) e1; exact hE) rfl rfl rfl rfl rfl ⟨⟨rfl, (by kernel_rfl)⟩, trivial⟩
    · show T _ _ ⟨[slV ta true kU8 a], []⟩ _ _
      refine T.seq ?_
      refine xR [] (by kernel_rfl) (by kernel_rfl) ?_
      refine nT ?_
      refine T.seq ?_
      refine T.seq ?_
      refine xR [hR 1 rfl rfl (r_eqNil (s := .d (dsl ta true kU8 a)) Try.underlying47 (.inl rfl) (lt_of rfl) ⟨rfl, trivial⟩)] (by kernel_rfl) (by kernel_rfl) ?_
      refine nT ?_
      refine T.condF (b := false) (by kernel_rfl) rfl ?_
      refine T.skip ?_
      refine nT ?_
      refine T.seq ?_
      refine xR [hR 0 rfl rfl (q_buildSlice 0 5 kU8 kU8_ok ([] : List UInt8) [] (cs := []) Try.underlying47 iat_5 rfl zero_5 rfl rfl rfl (Nat.le_of_ble_eq_true rfl) part_ok (by kernel_rfl) (wk_eq (by kernel_rfl)) (lt_of rfl) trivial),
        hR 2 rfl rfl (q_appendO 0 1 5 1 kU8 kU8_ok ([] : List UInt8) a a ([] : List UInt8).length (sy := (.d (dsl ta true kU8 a))) (rhs := []) elem_47 (by omega) (src_sl ta true kU8 a) (by simp) (by (simp [maxLen, -List.getD_eq_getElem?_getD] <;> omega)) (by (simp [maxLen, -List.getD_eq_getElem?_getD] <;> omega)) (lt_of rfl) trivial)] (by kernel_rfl) (by kernel_rfl) ?_
      refine nT ?_
      refine T.ret ?_
      exact tE (.inl rfl) [.t 2 (.one (.own 1 kU8.sz 0 a.length))] ⟨⟨rfl, by kernel_rfl⟩, trivial⟩ [1] rfl rfl rfl rfl rfl rfl ⟨⟨rfl, (by kernel_rfl)⟩, trivial⟩
  · refine T.seq ?_
    refine xR [] (by kernel_rfl) (by kernel_rfl) ?_
    refine nT ?_
    refine T.seq ?_
    refine T.seq ?_
    refine xR [hR 1 rfl rfl (r_eqNil (s := .d (dsl ta true kU8 a)) Try.underlying47 (.inl rfl) (lt_of rfl) ⟨rfl, trivial⟩)] (by kernel_rfl) (by kernel_rfl) ?_
    refine nT ?_
    refine T.condF (b := false) (by kernel_rfl) rfl ?_
    refine T.skip ?_
    refine nT ?_
    refine T.seq ?_
    refine xR [hR 0 rfl rfl (q_buildSlice 0 5 kU8 kU8_ok ([] : List UInt8) [] (cs := []) Try.underlying47 iat_5 rfl zero_5 rfl rfl rfl (Nat.le_of_ble_eq_true rfl) part_ok (by kernel_rfl) (wk_eq (by kernel_rfl)) (lt_of rfl) trivial),
      hR 2 rfl rfl (q_appendO 0 1 5 1 kU8 kU8_ok ([] : List UInt8) a a ([] : List UInt8).length (sy := (.d (dsl ta true kU8 a))) (rhs := []) elem_47 (by omega) (src_sl ta true kU8 a) (by simp) (by (simp [maxLen, -List.getD_eq_getElem?_getD] <;> omega)) (by (simp [maxLen, -List.getD_eq_getElem?_getD] <;> omega)) (lt_of rfl) trivial)] (by kernel_rfl) (by kernel_rfl) ?_
    refine nT ?_
    refine T.ret ?_
    exact tE (.inl rfl) [.t 2 (.one (.own 1 kU8.sz 0 a.length))] ⟨⟨rfl, by kernel_rfl⟩, trivial⟩ [1] rfl rfl rfl rfl rfl rfl ⟨⟨rfl, (by kernel_rfl)⟩, trivial⟩
end Go.Proofs.Ytlabmehgcfgigaa.Q
namespace Go.Proofs.Ytlabmehgcfgigaa.Q
open Go Go.RowKit
set_option linter.unusedVariables false
set_option linter.unusedSimpArgs false
set_option maxRecDepth 100000
set_option maxHeartbeats 4000000
-- slices.Clip[[]byte,byte]
theorem clip_u8 (tb : Bool) (nb : Bool) (b : List UInt8) : Holds Try.prog 98 ⟨[slV tb nb kU8 b], [], clV tb nb kU8 b, []⟩ := by
  refine Holds.of Try.func98 rfl (N := 9) Try.ntmps98 rfl fun w0 B0 S0 U0 => ?_
  show T _ (mkBase 9 0 w0 S0 U0 B0) ⟨[slV tb nb kU8 b], []⟩ _ _
  refine T.seq ?_
  refine xR [] (by kernel_rfl) (by kernel_rfl) ?_
  refine nT ?_
  refine T.seq ?_
  refine xR [hR 5 rfl rfl (q_clip tb nb kU8 b (p := ((b.length : Nat) : Int)) (q := ((b.length : Nat) : Int)) Try.underlying47 iat_5 rfl (by omega) (by omega) (lt_of rfl) trivial)] (by kernel_rfl) (by kernel_rfl) ?_
  refine nT ?_
  refine T.ret ?_
  exact tE (.inl rfl) [.t 2 (.one (.cl tb nb kU8.sz b.length (elOf kU8 b)))] ⟨⟨rfl, by kernel_rfl⟩, trivial⟩ [] rfl rfl rfl rfl rfl rfl trivial
end Go.Proofs.Ytlabmehgcfgigaa.Q
namespace Go.Proofs.Ytlabmehgcfgigaa.Q
open Go Go.RowKit
set_option linter.unusedVariables false
set_option linter.unusedSimpArgs false
set_option maxRecDepth 100000
set_option maxHeartbeats 4000000
-- quaestor/wire.spell
theorem wire_spell (tb : Bool) (nb : Bool) (b : List UInt8) (n : Nat) (m : Nat) (hb : b.length ≤ 140737488355000) (hn : n < 18446744073709551616) (hm : m ≤ 7) : Holds Try.prog 97 ⟨[slV tb nb kU8 b, dv (.int .u64 ((n : Nat) : Int)), dv (.int .i64 ((m + 1 : Nat) : Int))], [], ownV 0 kU8 0 (b ++ (spellB n (m + 1))).length, [.live (arrK 5 kU8 (b ++ (spellB n (m + 1))))]⟩ := by
  refine Holds.of Try.func97 rfl (N := 22) Try.ntmps97 rfl fun w0 B0 S0 U0 => ?_
  show T _ (mkBase 22 0 w0 S0 U0 B0) ⟨[slV tb nb kU8 b, dv (.int .u64 ((n : Nat) : Int)), dv (.int .i64 ((m + 1 : Nat) : Int))], []⟩ _ _
  refine T.seq ?_
  refine xR [] (by kernel_rfl) (by kernel_rfl) ?_
  refine nT ?_
  refine T.seq ?_
  refine xR [hR 1 rfl rfl (r_call (clip_u8 tb nb b ) Try.func98 rfl (by decide) [] [] (l := [(.tmp 7, slV tb nb kU8 b)]) [] rfl 0 0 rfl rfl rfl rfl rfl rfl rfl rfl rfl ⟨.inl ⟨rfl, rfl⟩, trivial⟩ rfl (fun b hb => by cases hb) (.inl rfl) (lt_of rfl) trivial)] (by kernel_rfl) (by kernel_rfl) ?_
  refine nT ?_
  refine T.seq ?_
  refine T.block ?_
  refine T.ofTL ?_
  refine TL.peel ?_
  refine T.seq ?_
  refine T.seq ?_
  refine xR [] (by kernel_rfl) (by kernel_rfl) ?_
  refine nT ?_
  by_cases hq1 : ((m + 1 : Nat) : Int) > 0
  · refine T.condT (by kernel_rfl) (decide_eq_true hq1) ?_
    refine T.skip ?_
    refine nT ?_
    refine T.block ?_
    refine T.seq ?_
    refine xR [hR 1 rfl rfl (r_bin (u1 := .int .i64 ((m + 1 : Nat) : Int)) (u2 := .int .i64 1) (v := .int .i64 ((m : Nat) : Int)) (b_sub (by rw [IntKind.wrap_i64]; omega)) (lt_of rfl) ⟨rfl, trivial⟩)] (by kernel_rfl) (by kernel_rfl) ?_
    refine nT ?_
    refine xR [hR 3 rfl rfl (r_bin (u1 := .int .i64 8) (u2 := .int .i64 ((m : Nat) : Int)) (v := .int .i64 ((8 * m : Nat) : Int)) (b_mul (by rw [IntKind.wrap_i64]; omega)) (lt_of rfl) ⟨rfl, trivial⟩),
      hR 4 rfl rfl (r_bin (u1 := .int .u64 ((n : Nat) : Int)) (u2 := .int .i64 ((8 * m : Nat) : Int)) (v := .int .u64 ((n / 2 ^ (8 * m) : Nat) : Int)) (b_shrN (n := 8 * m) rfl (Nat.le_trans (by omega) (by decide : 64 ≤ _))) (lt_of rfl) trivial),
      hR 5 rfl rfl (r_conv (u := .int .u64 ((n / 2 ^ (8 * m) : Nat) : Int)) (v := .int .u8 (((UInt8.ofNat (n / 2 ^ (8 * m))).toNat : Nat) : Int)) (c_byte Try.underlying64 Try.underlying5) (lt_of rfl) trivial),
      hR 6 rfl rfl (q_buildSlice 0 5 kU8 kU8_ok [(UInt8.ofNat (n / 2 ^ (8 * m)))] [⟨0, .tmp 18, .one (.d (.val (.int .u8 (((UInt8.ofNat (n / 2 ^ (8 * m))).toNat : Nat) : Int)))), 0⟩] (cs := [.d (.val (.int .u8 (((UInt8.ofNat (n / 2 ^ (8 * m))).toNat : Nat) : Int)))]) Try.underlying47 iat_5 rfl zero_5 rfl rfl rfl (Nat.le_of_ble_eq_true rfl) (part_cons rfl rfl (Nat.le_of_ble_eq_true rfl) part_ok) (by kernel_rfl) (wk_eq (by kernel_rfl)) (lt_of rfl) trivial),
      hR 7 rfl rfl (q_appendC 1 5 1 tb nb kU8 kU8_ok b [(UInt8.ofNat (n / 2 ^ (8 * m)))] (b ++ [(UInt8.ofNat (n / 2 ^ (8 * m)))]) (sy := (.own 0 kU8.sz 0 [(UInt8.ofNat (n / 2 ^ (8 * m)))].length)) (rhs := [(0, .live (arrK 5 kU8 [(UInt8.ofNat (n / 2 ^ (8 * m)))]))]) elem_47 (by (simp [maxLen, -List.getD_eq_getElem?_getD] <;> omega)) (src_own 0 5 kU8 [(UInt8.ofNat (n / 2 ^ (8 * m)))]) rfl (by (simp [maxLen, -List.getD_eq_getElem?_getD] <;> omega)) (by (simp [maxLen, -List.getD_eq_getElem?_getD] <;> omega)) (lt_of rfl) trivial)] (by kernel_rfl) (by kernel_rfl) ?_
    refine nB ?_
    refine nP ?_
    refine TL.loop (ι := Nat × (List UInt8)) (fun (x_ : Nat × (List UInt8)) => ⟨[ownV 0 kU8 0 x_.2.length, dv (.int .u64 ((n : Nat) : Int)), dv (.int .i64 ((x_.1 : Nat) : Int))], [.live (arrK 5 kU8 x_.2)]⟩) (fun (x_ : Nat × (List UInt8)) => (x_.1 ≤ m) ∧ (x_.2 ++ spellB n x_.1 = b ++ spellB n (m + 1))) (fun (x_ : Nat × (List UInt8)) => x_.1) (m, b ++ [UInt8.ofNat (n / 2 ^ (8 * m))]) ⟨(Nat.le_refl _), (by rw [List.append_assoc]; rfl)⟩ (fun _ _ hG => Gs.into2 (s' := ⟨[ownV 0 kU8 0 (b ++ [UInt8.ofNat (n / 2 ^ (8 * m))]).length, dv (.int .u64 ((n : Nat) : Int)), dv (.int .i64 ((m : Nat) : Int))], [.live (arrK 5 kU8 (b ++ [UInt8.ofNat (n / 2 ^ (8 * m))]))]⟩) [1] [true, true, true] (t1 := [ownV 1 kU8 0 (b ++ [UInt8.ofNat (n / 2 ^ (8 * m))]).length, dv (.int .u64 ((n : Nat) : Int)), dv (.int .i64 ((m : Nat) : Int))]) (t2 := [ownV 1 kU8 0 (b ++ [(UInt8.ofNat (n / 2 ^ (8 * m)))]).length, dv (.int .u64 ((n : Nat) : Int)), dv (.int .i64 ((m : Nat) : Int))]) (h1 := [.live (arrK 5 kU8 (b ++ [UInt8.ofNat (n / 2 ^ (8 * m))]))]) (h2 := [.live (arrK 5 kU8 (b ++ [(UInt8.ofNat (n / 2 ^ (8 * m)))]))]) (by have e1 : ((b ++ [UInt8.ofNat (n / 2 ^ (8 * m))]).length : Nat) = (b ++ [(UInt8.ofNat (n / 2 ^ (8 * m)))]).length := (by rfl); have hE := congrArg (fun (q1 : Nat) => ([ownV 1 kU8 0 q1, dv (.int .u64 ((n : Nat) : Int)), dv (.int .i64 ((m : Nat) : Int))] : List AV)) e1; exact hE) (by have e1 : (b ++ [UInt8.ofNat (n / 2 ^ (8 * m))] : List UInt8) = b ++ [(UInt8.ofNat (n / 2 ^ (8 * m)))] := (by rfl); have hE := congrArg (fun (q1 : List UInt8) => ([.live (arrK 5 kU8 q1)] : List HS)) e1; exact hE) (by kernel_rfl) (by kernel_rfl) (by kernel_rfl) (by kernel_rfl) (by kernel_rfl) (by kernel_rfl) (by kernel_rfl) (by kernel_rfl) (by kernel_rfl) (by kernel_rfl) (by kernel_rfl) hG) ?_
    rintro ⟨j, acc⟩ ⟨hj, he⟩
    show T _ _ ⟨[ownV 0 kU8 0 acc.length, dv (.int .u64 ((n : Nat) : Int)), dv (.int .i64 ((j : Nat) : Int))], [.live (arrK 5 kU8 acc)]⟩ _ _
    replace hj : j ≤ m := hj
    replace he : acc ++ spellB n j = b ++ spellB n (m + 1) := he
    have hacc := spell_lenE he
    refine T.seq ?_
    refine T.seq ?_
    refine xR [] (by kernel_rfl) (by kernel_rfl) ?_
    refine nT ?_
    by_cases hq2 : ((j : Nat) : Int) > 0
    · refine T.condT (by kernel_rfl) (decide_eq_true hq2) ?_
      refine T.skip ?_
      refine nT ?_
      refine T.block ?_
      refine T.seq ?_
      refine xR [hR 1 rfl rfl (r_bin (u1 := .int .i64 ((j : Nat) : Int)) (u2 := .int .i64 1) (v := .int .i64 ((j - 1 : Nat) : Int)) (b_sub (by rw [IntKind.wrap_i64]; omega)) (lt_of rfl) ⟨rfl, trivial⟩)] (by kernel_rfl) (by kernel_rfl) ?_
      refine nT ?_
      refine xR [hR 3 rfl rfl (r_bin (u1 := .int .i64 8) (u2 := .int .i64 ((j - 1 : Nat) : Int)) (v := .int .i64 ((8 * (j - 1) : Nat) : Int)) (b_mul (by rw [IntKind.wrap_i64]; omega)) (lt_of rfl) ⟨rfl, trivial⟩),
        hR 4 rfl rfl (r_bin (u1 := .int .u64 ((n : Nat) : Int)) (u2 := .int .i64 ((8 * (j - 1) : Nat) : Int)) (v := .int .u64 ((n / 2 ^ (8 * (j - 1)) : Nat) : Int)) (b_shrN (n := 8 * (j - 1)) rfl (Nat.le_trans (by omega) (by decide : 64 ≤ _))) (lt_of rfl) trivial),
        hR 5 rfl rfl (r_conv (u := .int .u64 ((n / 2 ^ (8 * (j - 1)) : Nat) : Int)) (v := .int .u8 (((UInt8.ofNat (n / 2 ^ (8 * (j - 1)))).toNat : Nat) : Int)) (c_byte Try.underlying64 Try.underlying5) (lt_of rfl) trivial),
        hR 6 rfl rfl (q_buildSlice 1 5 kU8 kU8_ok [(UInt8.ofNat (n / 2 ^ (8 * (j - 1))))] [⟨0, .tmp 18, .one (.d (.val (.int .u8 (((UInt8.ofNat (n / 2 ^ (8 * (j - 1)))).toNat : Nat) : Int)))), 0⟩] (cs := [.d (.val (.int .u8 (((UInt8.ofNat (n / 2 ^ (8 * (j - 1)))).toNat : Nat) : Int)))]) Try.underlying47 iat_5 rfl zero_5 rfl rfl rfl (Nat.le_of_ble_eq_true rfl) (part_cons rfl rfl (Nat.le_of_ble_eq_true rfl) part_ok) (by kernel_rfl) (wk_eq (by kernel_rfl)) (lt_of rfl) trivial),
        hR 7 rfl rfl (q_appendO 0 2 5 1 kU8 kU8_ok acc [(UInt8.ofNat (n / 2 ^ (8 * (j - 1))))] (acc ++ [(UInt8.ofNat (n / 2 ^ (8 * (j - 1))))]) acc.length (sy := (.own 1 kU8.sz 0 [(UInt8.ofNat (n / 2 ^ (8 * (j - 1))))].length)) (rhs := [(1, .live (arrK 5 kU8 [(UInt8.ofNat (n / 2 ^ (8 * (j - 1))))]))]) elem_47 (by omega) (src_own 1 5 kU8 [(UInt8.ofNat (n / 2 ^ (8 * (j - 1))))]) (by rw [List.take_length]) (by (simp [maxLen, -List.getD_eq_getElem?_getD] <;> omega)) (by (simp [maxLen, -List.getD_eq_getElem?_getD] <;> omega)) (lt_of rfl) trivial)] (by kernel_rfl) (by kernel_rfl) ?_
      refine nB ?_
      refine nL (j - 1, acc ++ [UInt8.ofNat (n / 2 ^ (8 * (j - 1)))]) ⟨(show (j - 1) ≤ m from (by omega)), (show (acc ++ [UInt8.ofNat (n / 2 ^ (8 * (j - 1)))]) ++ spellB n (j - 1) = b ++ spellB n (m + 1) from (spell_step he (by omega)))⟩ (show ((j - 1) : Nat) < j from (by omega)) (fun _ _ hG => Gs.into2 (s' := ⟨[ownV 0 kU8 0 (acc ++ [UInt8.ofNat (n / 2 ^ (8 * (j - 1)))]).length, dv (.int .u64 ((n : Nat) : Int)), dv (.int .i64 ((j - 1 : Nat) : Int))], [.live (arrK 5 kU8 (acc ++ [UInt8.ofNat (n / 2 ^ (8 * (j - 1)))]))]⟩) [2] [true, true, true] (t1 := [ownV 2 kU8 0 (acc ++ [UInt8.ofNat (n / 2 ^ (8 * (j - 1)))]).length, dv (.int .u64 ((n : Nat) : Int)), dv (.int .i64 ((j - 1 : Nat) : Int))]) (t2 := [ownV 2 kU8 0 (acc ++ [(UInt8.ofNat (n / 2 ^ (8 * (j - 1))))]).length, dv (.int .u64 ((n : Nat) : Int)), dv (.int .i64 ((j - 1 : Nat) : Int))]) (h1 := [.live (arrK 5 kU8 (acc ++ [UInt8.ofNat (n / 2 ^ (8 * (j - 1)))]))]) (h2 := [.live (arrK 5 kU8 (acc ++ [(UInt8.ofNat (n / 2 ^ (8 * (j - 1))))]))]) (by have e1 : ((acc ++ [UInt8.ofNat (n / 2 ^ (8 * (j - 1)))]).length : Nat) = (acc ++ [(UInt8.ofNat (n / 2 ^ (8 * (j - 1))))]).length := (by rfl); have hE := congrArg (fun (q1 : Nat) => ([ownV 2 kU8 0 q1, dv (.int .u64 ((n : Nat) : Int)), dv (.int .i64 ((j - 1 : Nat) : Int))] : List AV)) e1; exact hE) (by have e1 : (acc ++ [UInt8.ofNat (n / 2 ^ (8 * (j - 1)))] : List UInt8) = acc ++ [(UInt8.ofNat (n / 2 ^ (8 * (j - 1))))] := (by rfl); have hE := congrArg (fun (q1 : List UInt8) => ([.live (arrK 5 kU8 q1)] : List HS)) e1; exact hE) (by kernel_rfl) (by kernel_rfl) (by kernel_rfl) (by kernel_rfl) (by kernel_rfl) (by kernel_rfl) (by kernel_rfl) (by kernel_rfl) (by kernel_rfl) (by kernel_rfl) (by kernel_rfl) hG)
    · refine T.condF (by kernel_rfl) (decide_eq_false hq2) ?_
      refine T.exit ?_
      refine xT ?_
      refine xT ?_
      refine xH ?_
      refine nT ?_
      refine T.seq ?_
      refine xR [] (by kernel_rfl) (by kernel_rfl) ?_
      refine nT ?_
      refine T.ret ?_
      exact tE (.inl rfl) [.t 6 (.one (.own 0 kU8.sz 0 acc.length))] ⟨⟨rfl, by kernel_rfl⟩, trivial⟩ [0] (by have e1 : ((b ++ (spellB n (m + 1))).length : Nat) = acc.length := (by (rw [spell_end he (by omega)])); have hE := congrArg (fun (q1 : Nat) => (ownV 0 kU8 0 q1 : AV)) e1; exact hE) rfl rfl rfl rfl rfl ⟨⟨rfl, (by have e1 : (acc : List UInt8) = b ++ (spellB n (m + 1)) := (by (rw [spell_end he (by omega)])); have hE := congrArg (fun (q1 : List UInt8) => (.live (arrK 5 kU8 q1) : HS)) e1; exact Eq.trans (by kernel_rfl) hE)⟩, trivial⟩
  · exact absurd (by omega) hq1
end Go.Proofs.Ytlabmehgcfgigaa.Q
namespace Go.Proofs.Ytlabmehgcfgigaa.Q
open Go Go.RowKit
set_option linter.unusedVariables false
set_option linter.unusedSimpArgs false
set_option maxRecDepth 100000
set_option maxHeartbeats 4000000
-- quaestor/wire.PutInt
theorem wire_PutInt (tb : Bool) (nb : Bool) (b : List UInt8) (n : Int) (hb : b.length ≤ 140737488355000) : Holds Try.prog 72 ⟨[slV tb nb kU8 b, dv (.int .i64 n)], [], ownV 0 kU8 0 (b ++ intB n).length, [.live (arrK 5 kU8 (b ++ intB n))]⟩ := by
  refine Holds.of Try.func72 rfl (N := 9) Try.ntmps72 rfl fun w0 B0 S0 U0 => ?_
  show T _ (mkBase 9 0 w0 S0 U0 B0) ⟨[slV tb nb kU8 b, dv (.int .i64 n)], []⟩ _ _
  have hn := u64_lt n
  refine T.seq ?_
  refine xR [] (by kernel_rfl) (by kernel_rfl) ?_
  refine nT ?_
  refine T.seq ?_
  refine xR [hR 2 rfl rfl (r_conv (u := .int .i64 n) (v := .int .u64 ((u64 n : Nat) : Int)) (c_u64 Try.underlying2 Try.underlying64) (lt_of rfl) trivial),
    hR 3 rfl rfl (r_call (wire_spell tb nb b (u64 n) 7 (by assumption) (by assumption) (by omega)) Try.func97 rfl (by decide) [0] [] (l := [(.tmp 5, slV tb nb kU8 b), (.tmp 7, dv (.int .u64 ((u64 n : Nat) : Int))), (.const (.int .i64 8), dv (.int .i64 8))]) [] rfl 0 1 rfl rfl rfl rfl rfl rfl rfl rfl rfl ⟨.inl ⟨rfl, rfl⟩, ⟨.inl ⟨rfl, rfl⟩, ⟨.inl ⟨rfl, rfl⟩, trivial⟩⟩⟩ rfl (fun b hb => by cases hb) (.inl rfl) (lt_of rfl) ⟨rfl, trivial⟩)] (by kernel_rfl) (by kernel_rfl) ?_
  refine nT ?_
  refine T.ret ?_
  exact tE (.inl rfl) [.t 4 (.one (.own 0 kU8.sz 0 (b ++ (spellB (u64 n) 8)).length))] ⟨⟨rfl, by kernel_rfl⟩, trivial⟩ [0] (by have e1 : ((b ++ intB n).length : Nat) = (b ++ (spellB (u64 n) 8)).length := (by rfl); have hE := congrArg (fun (q1 : Nat) => (ownV 0 kU8 0 q1 : AV)) e1; exact hE) rfl rfl rfl rfl rfl ⟨⟨rfl, (by have e1 : (b ++ (spellB (u64 n) 8) : List UInt8) = b ++ intB n := (by rfl); have hE := congrArg (fun (q1 : List UInt8) => (.live (arrK 5 kU8 q1) : HS)) e1; exact Eq.trans (by kernel_rfl) hE)⟩, trivial⟩
end Go.Proofs.Ytlabmehgcfgigaa.Q
namespace Go.Proofs.Ytlabmehgcfgigaa.Q
open Go Go.RowKit
set_option linter.unusedVariables false
set_option linter.unusedSimpArgs false
set_option maxRecDepth 100000
set_option maxHeartbeats 4000000
-- quaestor/wire.PutBool
theorem wire_PutBool (tb : Bool) (nb : Bool) (b : List UInt8) (x : Bool) (hb : b.length ≤ 140737488355000) : Holds Try.prog 73 ⟨[slV tb nb kU8 b, dv (.bool x)], [], ownV 0 kU8 0 (b ++ boolB x).length, [.live (arrK 5 kU8 (b ++ boolB x))]⟩ := by
  refine Holds.of Try.func73 rfl (N := 12) Try.ntmps73 rfl fun w0 B0 S0 U0 => ?_
  show T _ (mkBase 12 0 w0 S0 U0 B0) ⟨[slV tb nb kU8 b, dv (.bool x)], []⟩ _ _
  refine T.seq ?_
  refine xR [] (by kernel_rfl) (by kernel_rfl) ?_
  refine nT ?_
  refine T.seq ?_
  refine xR [] (by kernel_rfl) (by kernel_rfl) ?_
  refine nT ?_
  refine T.seq ?_
  refine T.seq ?_
  refine xR [] (by kernel_rfl) (by kernel_rfl) ?_
  refine nT ?_
  by_cases hq1 : x = true
  · refine T.condT (by kernel_rfl) hq1 ?_
    refine xR [] (by kernel_rfl) (by kernel_rfl) ?_
    refine nT ?_
    refine T.seq ?_
    refine xR [hR 1 rfl rfl (r_call (clip_u8 tb nb b ) Try.func98 rfl (by decide) [] [] (l := [(.tmp 7, slV tb nb kU8 b)]) [] rfl 0 0 rfl rfl rfl rfl rfl rfl rfl rfl rfl ⟨.inl ⟨rfl, rfl⟩, trivial⟩ rfl (fun b hb => by cases hb) (.inl rfl) (lt_of rfl) trivial),
      hR 3 rfl rfl (q_buildSlice 0 5 kU8 kU8_ok [(1 : UInt8)] [⟨0, .tmp 9, .one (.d (.val (.int .u8 1))), 0⟩] (cs := [.d (.val (.int .u8 1))]) Try.underlying47 iat_5 rfl zero_5 rfl rfl rfl (Nat.le_of_ble_eq_true rfl) (part_cons rfl rfl (Nat.le_of_ble_eq_true rfl) part_ok) (by kernel_rfl) (wk_eq (by kernel_rfl)) (lt_of rfl) trivial),
      hR 4 rfl rfl (q_appendC 1 5 1 tb nb kU8 kU8_ok b [(1 : UInt8)] (b ++ [(1 : UInt8)]) (sy := (.own 0 kU8.sz 0 [(1 : UInt8)].length)) (rhs := [(0, .live (arrK 5 kU8 [(1 : UInt8)]))]) elem_47 (by (simp [maxLen, -List.getD_eq_getElem?_getD] <;> omega)) (src_own 0 5 kU8 [(1 : UInt8)]) rfl (by (simp [maxLen, -List.getD_eq_getElem?_getD] <;> omega)) (by (simp [maxLen, -List.getD_eq_getElem?_getD] <;> omega)) (lt_of rfl) trivial)] (by kernel_rfl) (by kernel_rfl) ?_
    refine nT ?_
    refine T.ret ?_
    exact tE (.inl rfl) [.t 4 (.one (.own 1 kU8.sz 0 (b ++ [(1 : UInt8)]).length))] ⟨⟨rfl, by kernel_rfl⟩, trivial⟩ [1] (by have e1 : ((b ++ boolB x).length : Nat) = (b ++ [(1 : UInt8)]).length := (by (simp [boolB, *]; done)); have hE := congrArg (fun (q1 : Nat) => (ownV 1 kU8 0 q1 : AV)) e1; exact hE) rfl rfl rfl rfl rfl ⟨⟨rfl, (by have e1 : (b ++ [(1 : UInt8)] : List UInt8) = b ++ boolB x := (by (simp [boolB, *]; done)); have hE := congrArg (fun (q1 : List UInt8) => (.live (arrK 5 kU8 q1) : HS)) e1; exact Eq.trans (by kernel_rfl) hE)⟩, trivial⟩
  · replace hq1 := Bool.eq_false_iff.2 hq1
    refine T.condF (by kernel_rfl) hq1 ?_
    refine T.skip ?_
    refine nT ?_
    refine T.seq ?_
    refine xR [hR 1 rfl rfl (r_call (clip_u8 tb nb b ) Try.func98 rfl (by decide) [] [] (l := [(.tmp 7, slV tb nb kU8 b)]) [] rfl 0 0 rfl rfl rfl rfl rfl rfl rfl rfl rfl ⟨.inl ⟨rfl, rfl⟩, trivial⟩ rfl (fun b hb => by cases hb) (.inl rfl) (lt_of rfl) trivial),
      hR 3 rfl rfl (q_buildSlice 0 5 kU8 kU8_ok [(0 : UInt8)] [⟨0, .tmp 9, .one (.d (.val (.int .u8 0))), 0⟩] (cs := [.d (.val (.int .u8 0))]) Try.underlying47 iat_5 rfl zero_5 rfl rfl rfl (Nat.le_of_ble_eq_true rfl) (part_cons rfl rfl (Nat.le_of_ble_eq_true rfl) part_ok) (by kernel_rfl) (wk_eq (by kernel_rfl)) (lt_of rfl) trivial),
      hR 4 rfl rfl (q_appendC 1 5 1 tb nb kU8 kU8_ok b [(0 : UInt8)] (b ++ [(0 : UInt8)]) (sy := (.own 0 kU8.sz 0 [(0 : UInt8)].length)) (rhs := [(0, .live (arrK 5 kU8 [(0 : UInt8)]))]) elem_47 (by (simp [maxLen, -List.getD_eq_getElem?_getD] <;> omega)) (src_own 0 5 kU8 [(0 : UInt8)]) rfl (by (simp [maxLen, -List.getD_eq_getElem?_getD] <;> omega)) (by (simp [maxLen, -List.getD_eq_getElem?_getD] <;> omega)) (lt_of rfl) trivial)] (by kernel_rfl) (by kernel_rfl) ?_
    refine nT ?_
    refine T.ret ?_
    exact tE (.inl rfl) [.t 4 (.one (.own 1 kU8.sz 0 (b ++ [(0 : UInt8)]).length))] ⟨⟨rfl, by kernel_rfl⟩, trivial⟩ [1] (by have e1 : ((b ++ boolB x).length : Nat) = (b ++ [(0 : UInt8)]).length := (by (simp [boolB, *]; done)); have hE := congrArg (fun (q1 : Nat) => (ownV 1 kU8 0 q1 : AV)) e1; exact hE) rfl rfl rfl rfl rfl ⟨⟨rfl, (by have e1 : (b ++ [(0 : UInt8)] : List UInt8) = b ++ boolB x := (by (simp [boolB, *]; done)); have hE := congrArg (fun (q1 : List UInt8) => (.live (arrK 5 kU8 q1) : HS)) e1; exact Eq.trans (by kernel_rfl) hE)⟩, trivial⟩
end Go.Proofs.Ytlabmehgcfgigaa.Q
namespace Go.Proofs.Ytlabmehgcfgigaa.Q
open Go Go.RowKit
set_option linter.unusedVariables false
set_option linter.unusedSimpArgs false
set_option maxRecDepth 100000
set_option maxHeartbeats 4000000
-- quaestor/wire.PutCount
theorem wire_PutCount (tb : Bool) (nb : Bool) (b : List UInt8) (n : Int) (hb : b.length ≤ 140737488355000) : Holds Try.prog 99 ⟨[slV tb nb kU8 b, dv (.int .i64 n)], [], ownV 0 kU8 0 (b ++ cntB n).length, [.live (arrK 5 kU8 (b ++ cntB n))]⟩ := by
  refine Holds.of Try.func99 rfl (N := 11) Try.ntmps99 rfl fun w0 B0 S0 U0 => ?_
  show T _ (mkBase 11 0 w0 S0 U0 B0) ⟨[slV tb nb kU8 b, dv (.int .i64 n)], []⟩ _ _
  have hn := cntN_lt n
  refine T.seq ?_
  refine xR [] (by kernel_rfl) (by kernel_rfl) ?_
  refine nT ?_
  refine T.seq ?_
  refine xR [hR 2 rfl rfl (r_max (k := .i64) (a := n) (b := 0) (lt_of rfl) ⟨rfl, trivial⟩),
    hR 3 rfl rfl (r_min (k := .i64) (a := max n 0) (b := 4294967295) (lt_of rfl) ⟨rfl, trivial⟩),
    hR 4 rfl rfl (r_conv (u := .int .i64 (min (max n 0) 4294967295)) (v := .int .u64 ((cntN n : Nat) : Int)) (c_int Try.underlying3 Try.underlying64 (by rw [IntKind.wrap_u64]; unfold cntN; omega)) (lt_of rfl) trivial),
    hR 5 rfl rfl (r_call (wire_spell tb nb b (cntN n) 3 (by assumption) (by omega) (by omega)) Try.func97 rfl (by decide) [0] [] (l := [(.tmp 5, slV tb nb kU8 b), (.tmp 9, dv (.int .u64 ((cntN n : Nat) : Int))), (.const (.int .i64 4), dv (.int .i64 4))]) [] rfl 0 1 rfl rfl rfl rfl rfl rfl rfl rfl rfl ⟨.inl ⟨rfl, rfl⟩, ⟨.inl ⟨rfl, rfl⟩, ⟨.inl ⟨rfl, rfl⟩, trivial⟩⟩⟩ rfl (fun b hb => by cases hb) (.inl rfl) (lt_of rfl) ⟨rfl, trivial⟩)] (by kernel_rfl) (by kernel_rfl) ?_
  refine nT ?_
  refine T.ret ?_
  exact tE (.inl rfl) [.t 4 (.one (.own 0 kU8.sz 0 (b ++ (spellB (cntN n) 4)).length))] ⟨⟨rfl, by kernel_rfl⟩, trivial⟩ [0] (by have e1 : ((b ++ cntB n).length : Nat) = (b ++ (spellB (cntN n) 4)).length := (by rfl); have hE := congrArg (fun (q1 : Nat) => (ownV 0 kU8 0 q1 : AV)) e1; exact hE) rfl rfl rfl rfl rfl ⟨⟨rfl, (by have e1 : (b ++ (spellB (cntN n) 4) : List UInt8) = b ++ cntB n := (by rfl); have hE := congrArg (fun (q1 : List UInt8) => (.live (arrK 5 kU8 q1) : HS)) e1; exact Eq.trans (by kernel_rfl) hE)⟩, trivial⟩
end Go.Proofs.Ytlabmehgcfgigaa.Q
namespace Go.Proofs.Ytlabmehgcfgigaa.Q
open Go Go.RowKit
set_option linter.unusedVariables false
set_option linter.unusedSimpArgs false
set_option maxRecDepth 100000
set_option maxHeartbeats 4000000
-- quaestor/wire.PutBytes
theorem wire_PutBytes (tb : Bool) (nb : Bool) (b : List UInt8) (tx : Bool) (nx : Bool) (x : List UInt8) (hb : b.length + x.length ≤ 140737488355000) : Holds Try.prog 74 ⟨[slV tb nb kU8 b, slV tx nx kU8 x], [], ownV 0 kU8 0 (b ++ bytesB x).length, [.live (arrK 5 kU8 (b ++ bytesB x))]⟩ := by
  refine Holds.of Try.func74 rfl (N := 11) Try.ntmps74 rfl fun w0 B0 S0 U0 => ?_
  show T _ (mkBase 11 0 w0 S0 U0 B0) ⟨[slV tb nb kU8 b, slV tx nx kU8 x], []⟩ _ _
  have hcl := cnt_len ((x.length : Nat) : Int)
  refine T.seq ?_
  refine xR [] (by kernel_rfl) (by kernel_rfl) ?_
  refine nT ?_
  refine T.seq ?_
  refine xR [hR 3 rfl rfl (r_call (wire_PutCount tb nb b ((x.length : Nat) : Int) (by omega)) Try.func99 rfl (by decide) [0] [] (l := [(.tmp 5, slV tb nb kU8 b), (.tmp 7, dv (.int .i64 ((x.length : Nat) : Int)))]) [] rfl 0 1 rfl rfl rfl rfl rfl rfl rfl rfl rfl ⟨.inl ⟨rfl, rfl⟩, ⟨.inl ⟨rfl, rfl⟩, trivial⟩⟩ rfl (fun b hb => by cases hb) (.inl rfl) (lt_of rfl) trivial),
    hR 5 rfl rfl (q_appendO 0 1 5 1 kU8 kU8_ok (b ++ cntB ((x.length : Nat) : Int)) x (b ++ cntB ((x.length : Nat) : Int) ++ x) (b ++ cntB ((x.length : Nat) : Int)).length (sy := (.d (dsl tx nx kU8 x))) (rhs := []) elem_47 (by omega) (src_sl tx nx kU8 x) (by rw [List.take_length]) (by (simp [maxLen, -List.getD_eq_getElem?_getD] <;> omega)) (by (simp [maxLen, -List.getD_eq_getElem?_getD] <;> omega)) (lt_of rfl) trivial)] (by kernel_rfl) (by kernel_rfl) ?_
  refine nT ?_
  refine T.ret ?_
  exact tE (.inl rfl) [.t 4 (.one (.own 1 kU8.sz 0 (b ++ cntB ((x.length : Nat) : Int) ++ x).length))] ⟨⟨rfl, by kernel_rfl⟩, trivial⟩ [1] (by have e1 : ((b ++ bytesB x).length : Nat) = (b ++ cntB ((x.length : Nat) : Int) ++ x).length := (by (simp only [bytesB, List.append_assoc])); have hE := congrArg (fun (q1 : Nat) => (ownV 1 kU8 0 q1 : AV)) e1; exact hE) rfl rfl rfl rfl rfl ⟨⟨rfl, (by have e1 : (b ++ cntB ((x.length : Nat) : Int) ++ x : List UInt8) = b ++ bytesB x := (by (simp only [bytesB, List.append_assoc])); have hE := congrArg (fun (q1 : List UInt8) => (.live (arrK 5 kU8 q1) : HS)) e1; exact Eq.trans (by kernel_rfl) hE)⟩, trivial⟩
end Go.Proofs.Ytlabmehgcfgigaa.Q
namespace Go.Proofs.Ytlabmehgcfgigaa.Q
open Go Go.RowKit
set_option linter.unusedVariables false
set_option linter.unusedSimpArgs false
set_option maxRecDepth 100000
set_option maxHeartbeats 4000000
-- math.IsNaN
theorem math_IsNaN (x : Nat) : Holds Try.prog 83 ⟨[dv (.float .f64 x)], [], dv (.bool (nanB x)), []⟩ := by
  refine Holds.of Try.func83 rfl (N := 6) Try.ntmps83 rfl fun w0 B0 S0 U0 => ?_
  show T _ (mkBase 6 0 w0 S0 U0 B0) ⟨[dv (.float .f64 x)], []⟩ _ _
  refine T.seq ?_
  refine xR [] (by kernel_rfl) (by kernel_rfl) ?_
  refine nT ?_
  refine T.seq ?_
  refine xR [hR 2 rfl rfl (r_bin (u1 := .float .f64 x) (u2 := .float .f64 x) (v := .bool (nanB x)) b_nan (lt_of rfl) trivial)] (by kernel_rfl) (by kernel_rfl) ?_
  refine nT ?_
  refine T.ret ?_
  exact tE (.inl rfl) [.t 2 (.one (.d (.val (.bool (nanB x)))))] ⟨⟨rfl, by kernel_rfl⟩, trivial⟩ [] rfl rfl rfl rfl rfl rfl trivial
end Go.Proofs.Ytlabmehgcfgigaa.Q
